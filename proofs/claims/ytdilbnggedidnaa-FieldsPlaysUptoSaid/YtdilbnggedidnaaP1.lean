import Derived.Test.YtdilbnggedidnaaRows
import Derived.Below
import Derived.Deep.Draws
import Derived.Deep.AppendLies
import Derived.Maps.AppendAt
import Derived.OwnWalk
import Derived.Laws.BytesArg
import Derived.Laws.MakeOwn
import Derived.Laws.OwnMore
import Derived.Deep.OwnRows
import Derived.Tactics
import Derived.Lib.ConvBytes
import Derived.Laws.Slices
import Derived.WalkKit
import Derived.KernelRfl
import Derived.RowKit3
import Derived.Deep.LoopGhost
import Derived.Deep.QuietTactic
import Derived.BigQuiet
import Derived.WideLaws
import Derived.Deep.DeepCutAuto
import Derived.Deep.CutBlock
import Derived.Deep.RegionHeld3
import Derived.Laws.Rows
import Derived.Lib.AppendStr
import Derived.ArgAppend
import Derived.Laws.IdiomCopy
import Derived.OrdersHeld
import Derived.Laws.BitsLemmas
import Derived.RowKit
import Derived.RangeFuncNested
import Derived.RangeFuncBound
import Derived.RangeFuncCalls
import Derived.RangeFuncLeaves
import Derived.Shelf.Abstract
import Derived.Shelf.RegionOpen
import Derived.OwnWalkIn
import Derived.TacticsInMore
import Derived.LoopNIn
import Derived.LoopIn
import Derived.StillTailTactics
import Derived.ScopeJumps
import Derived.WalkLawsBesides
import Derived.Laws.EntriesVeiled
import Derived.Deep.Slices
import Derived.Lib.SmallJoins
import Derived.OpenShut
import Derived.WalkMore
import Derived.Outline
import Derived.Test.YtdilbnggedidnaaWWords
import Derived.Test.YtdilbnggedidnaaWLast
import Derived.Test.YtdilbnggedidnaaWTab
import Derived.Test.YtdilbnggedidnaaWGuard
import Derived.Test.YtdilbnggedidnaaWRepsOne
set_option maxRecDepth 100000
set_option maxHeartbeats 8000000
namespace Go.Proofs.Ytdilbnggedidnaa.PVal
open Go.RowKit
abbrev tt : Bool := true
abbrev ff : Bool := false
theorem max2_int (k k' : IntKind) (x y : Int) : Builtin.max2 (.int k x) (.int k' y) = pure (.int k (if x < y then y else x)) := by simp only [Builtin.max2, gt_iff_lt]
theorem max_two (ats : Array TypeId) (ty : TypeId) (a b : Value) : Builtin.max_ ats ty #[a, b] = (Builtin.max2 a b >>= fun s => pure s) := by simp only [Builtin.max_, List.foldlM_cons, List.foldlM_nil]
theorem gate_callee {P : Program} {ops : Array Oper} {Q : Exit → Act → World → Prop} {rest : List Oper} {o : Oper} {a : Act} {W : World} {f : FuncId} {xs : Array Operand} {ts : Array TypeId} (_ho : o.op = .call { callee := .value (.func f), args := xs, argTypes := ts }) (h : wpList P ops Q (o :: rest) a W) : wpList P ops Q (o :: rest) a W := h
theorem gate_builtin {P : Program} {ops : Array Oper} {Q : Exit → Act → World → Prop} {rest : List Oper} {o : Oper} {a : Act} {W : World} {b : Builtin} {xs : Array Operand} {ts : Array TypeId} (_ho : o.op = .call { callee := .builtin b, args := xs, argTypes := ts }) (h : wpList P ops Q (o :: rest) a W) : wpList P ops Q (o :: rest) a W := h
def mx (x y : Int) : Int := if x < y then y else x
def shl (k : IntKind) (x y : Int) : Int := k.wrap (x * 2 ^ min y.toNat k.bits)
def shr (k : IntKind) (x y : Int) : Int := x / 2 ^ min y.toNat k.bits
theorem shl_small {k : IntKind} {x y j : Int} (h : shl k x y = j) (hy : y ≤ k.bits) : k.wrap (x * 2 ^ y.toNat) = j := by rw [← h]; unfold shl; rw [Nat.min_eq_left (by omega)]
theorem shr_small {k : IntKind} {x y j : Int} (h : shr k x y = j) (hy : y ≤ k.bits) : x / 2 ^ y.toNat = j := by rw [← h]; unfold shr; rw [Nat.min_eq_left (by omega)]
end Go.Proofs.Ytdilbnggedidnaa.PVal
namespace Go.Proofs.Ytdilbnggedidnaa.PVal
open Go.RowKit Go.Proofs.YtdilbnggedidnaaW.PrintWords Go.Proofs.YtdilbnggedidnaaW.PrintLast
attribute [local go_sem] max2_int max_two
set_option linter.unusedVariables false
set_option linter.unusedSimpArgs false
def errW : Option Int → Value
 | none => .nilIface
 | some c => .iface 0 (.int .i64 c)
theorem errW_none : errW none = .nilIface := rfl
theorem errW_some (c : Int) : errW (some c) = .iface 0 (.int .i64 c) := rfl
theorem info5 : (Try.prog.info? 5).map (fun i => (i.zero, i.size, i.bytes)) = some (some (.int .u8 0), 1, 1) := by kernel_rfl
structure S25 where
 f0 : Int
 f1 : Int
 f2 : ByteArray
 f3 : (List S25)
def z25 : S25 := ⟨(0 : Int), (0 : Int), (⟨#[]⟩ : ByteArray), ([] : List S25)⟩
def F25 (d : Kd S25) : Kd S25 := Kd.iso (Kd.pair (Kd.int .u8) (Kd.pair (Kd.int .u64) (Kd.pair Kd.string (Kd.slice 25 d)))) (fun x : S25 => (x.f0, x.f1, x.f2, x.f3))
theorem mono25 : Kd.Mono F25 := Kd.mono_iso _ (Kd.mono_pair (Kd.mono_const _) (Kd.mono_pair (Kd.mono_const _) (Kd.mono_pair (Kd.mono_const _) (Kd.mono_slice 25 Kd.mono_id))))
theorem sub25 : Kd.Sub F25 [25] := Kd.sub_iso _ (Kd.sub_pair (Kd.sub_const _ (by decide)) (Kd.sub_pair (Kd.sub_const _ (by decide)) (Kd.sub_pair (Kd.sub_const _ (by decide)) (Kd.sub_slice 25 (by decide) Kd.sub_id))))
theorem sz25 : ∀ n, (Kd.upto F25 4 [25] n).sz = 4 := Kd.upto_sz (fun _ => rfl)
def k25 : Kd S25 := Kd.fix F25 4 [25] sz25 (Kd.upto_E sub25)
theorem k25_open {w : World} {x : S25} {cs : List Value} (h : k25.K w x cs) : ∃ A3 c3, cs = [.int .u8 x.f0, .int .u64 x.f1, .string x.f2, .slice A3 x.f3.length c3] ∧ x.f3.length ≤ c3 ∧ k25.C w A3 x.f3.length x.f3 := by
 obtain ⟨n, h⟩ := h
 cases n with
 | zero => exact h.elim
 | succ n =>
  obtain ⟨_, _, rfl, rfl, ⟨_, _, rfl, rfl, ⟨_, _, rfl, rfl, ⟨A3, c3, rfl, l3, g3⟩⟩⟩⟩ := h
  exact ⟨A3, c3, rfl, l3, Kd.fix_C g3⟩
theorem k25_mk (w : World) (x : S25) {A3 : Option Addr} {c3 : Nat} (l3 : x.f3.length ≤ c3) (g3 : k25.C w A3 x.f3.length x.f3) : k25.K w x [.int .u8 x.f0, .int .u64 x.f1, .string x.f2, .slice A3 x.f3.length c3] := by
 obtain ⟨n3, q3⟩ := Kd.fix_C_back mono25 g3
 have r3 := Kd.upto_C_le mono25 sz25 (show n3 ≤ n3 by omega) q3
 exact ⟨n3 + 1, ⟨[.int .u8 x.f0], [.int .u64 x.f1, .string x.f2, .slice A3 x.f3.length c3], rfl, rfl, ⟨[.int .u64 x.f1], [.string x.f2, .slice A3 x.f3.length c3], rfl, rfl, ⟨[.string x.f2], [.slice A3 x.f3.length c3], rfl, rfl, ⟨A3, c3, rfl, l3, r3⟩⟩⟩⟩⟩
theorem k25_mkM (w : World) (base : Nat) (ok : Nat → Prop) (x : S25) {v3 : Value} (g3 : k25.R 25 w base ok v3 x.f3) : k25.M w base ok x [.int .u8 x.f0, .int .u64 x.f1, .string x.f2, v3] := by
 obtain ⟨n3, q3⟩ := Kd.fix_R_back mono25 g3
 have r3 := Kd.upto_R_le mono25 sz25 (show n3 ≤ n3 by omega) q3
 exact ⟨n3 + 1, ⟨[.int .u8 x.f0], [.int .u64 x.f1, .string x.f2, v3], rfl, rfl, ⟨[.int .u64 x.f1], [.string x.f2, v3], rfl, rfl, ⟨[.string x.f2], [v3], rfl, rfl, ⟨v3, rfl, r3⟩⟩⟩⟩⟩
def rd_T25 (xs : List S25) (i : Int) : S25 := xs.getD i.toNat z25
theorem at_T25 {w : World} {A : Option Addr} {n : Nat} {xs : List S25} (h : Kd.C k25 w A n xs) (i : Int) (h0 : 0 ≤ i) (h1 : i < n) : ∃ ad A3 c3, A = some ad ∧ w.cell? (ad.add (i.toNat * 4)) = some (.int .u8 (rd_T25 xs i).f0) ∧ w.cell? ⟨(ad.add (i.toNat * 4)).block, (ad.add (i.toNat * 4)).off + 1, none⟩ = some (.int .u64 (rd_T25 xs i).f1) ∧ w.cell? ⟨(ad.add (i.toNat * 4)).block, (ad.add (i.toNat * 4)).off + 2, none⟩ = some (.string (rd_T25 xs i).f2) ∧ w.cell? ⟨(ad.add (i.toNat * 4)).block, (ad.add (i.toNat * 4)).off + 3, none⟩ = some (.slice A3 (rd_T25 xs i).f3.length c3) ∧ (rd_T25 xs i).f3.length ≤ c3 ∧ k25.C w A3 (rd_T25 xs i).f3.length (rd_T25 xs i).f3 := by
 obtain ⟨ad, c, e, _, hK, hc0⟩ := Kd.C_get h z25 i h0 h1
 have hc : ∀ j u, c[j]? = some u → w.cell? (ad.add (i.toNat * 4 + j)) = some u := hc0
 obtain ⟨A3, c3, rfl, l3, g3⟩ := k25_open hK
 exact ⟨ad, A3, c3, e, hc 0 _ rfl, by rw [← add_field _ _ 1 (by omega)]; exact hc 1 _ rfl, by rw [← add_field _ _ 2 (by omega)]; exact hc 2 _ rfl, by rw [← add_field _ _ 3 (by omega)]; exact hc 3 _ rfl, l3, g3⟩
end Go.Proofs.Ytdilbnggedidnaa.PVal
namespace Go.Proofs.Ytdilbnggedidnaa.PVal
mutual
def veq : S25 → S25 → Bool
 | ⟨a, b, c, d⟩, ⟨a', b', c', d'⟩ => (a == a') && ((b == b') && ((c.toList == c'.toList) && veqL d d'))
def veqL : List S25 → List S25 → Bool
 | [], [] => true
 | x :: xs, y :: ys => veq x y && veqL xs ys
 | [], _ :: _ => false
 | _ :: _, [] => false
end
mutual
def itemsN : S25 → Nat
 | ⟨_, _, _, d⟩ => itemsL d + 1
def itemsL : List S25 → Nat
 | [] => 0
 | x :: xs => itemsN x + itemsL xs
end
mutual
def depthN : S25 → Nat
 | ⟨_, _, _, d⟩ => depthL d + 1
def depthL : List S25 → Nat
 | [] => 0
 | x :: xs => max (depthN x) (depthL xs)
end
mutual
def textsN : S25 → Nat
 | ⟨_, _, c, d⟩ => textsL d + c.size
def textsL : List S25 → Nat
 | [] => 0
 | x :: xs => textsN x + textsL xs
end
theorem itemsN_pos (x : S25) : 1 ≤ itemsN x := by cases x; simp [itemsN]
theorem itemsL_mem {x : S25} {l : List S25} (h : x ∈ l) : itemsN x ≤ itemsL l := by
 induction l with
 | nil => cases h
 | cons y l ih =>
  rcases List.mem_cons.1 h with rfl | h
  ·simp [itemsL]
  ·have := ih h; simp [itemsL]; omega
theorem itemsL_length (l : List S25) : l.length ≤ itemsL l := by
 induction l with
 | nil => simp
 | cons y l ih => have := itemsN_pos y; simp [itemsL]; omega
theorem itemsN_eq (x : S25) : itemsN x = itemsL x.f3 + 1 := by cases x; simp [itemsN]
theorem veq_def (x y : S25) : veq x y = ((x.f0 == y.f0) && ((x.f1 == y.f1) && ((x.f2.toList == y.f2.toList) && veqL x.f3 y.f3))) := by cases x; cases y; simp [veq]
theorem veqL_length {a b : List S25} (h : veqL a b = true) : a.length = b.length := by
 induction a generalizing b with
 | nil => cases b with
  | nil => rfl
  | cons y b => simp [veqL] at h
 | cons x a ih => cases b with
  | nil => simp [veqL] at h
  | cons y b => simp only [veqL, Bool.and_eq_true] at h; simp [ih h.2]
theorem toList_inj {a b : ByteArray} (h : a.toList = b.toList) : a = b := by
 rw [ByteArray.toList_eq, ByteArray.toList_eq] at h
 cases a with
 | mk a => cases b with
  | mk b => exact congrArg ByteArray.mk (Array.toList_inj.1 h)
mutual
theorem veq_refl : ∀ x : S25, veq x x = true
 | ⟨a, b, c, d⟩ => by simp [veq, veqL_refl d]
theorem veqL_refl : ∀ l : List S25, veqL l l = true
 | [] => by simp [veqL]
 | x :: l => by simp [veqL, veq_refl x, veqL_refl l]
end
mutual
theorem veq_eq : ∀ x y : S25, veq x y = true → x = y
 | ⟨a, b, c, d⟩, ⟨a', b', c', d'⟩ => by
  intro h
  simp [veq] at h
  obtain ⟨h0, h1, h2, h3⟩ := h
  rw [h0, h1, veqL_eq d d' h3]
  have := toList_inj (a := c) (b := c') (by simpa using h2)
  rw [this]
theorem veqL_eq : ∀ l m : List S25, veqL l m = true → l = m
 | [], [] => fun _ => rfl
 | x :: l, y :: m => by
  intro h
  simp [veqL] at h
  rw [veq_eq x y h.1, veqL_eq l m h.2]
 | [], _ :: _ => by simp [veqL]
 | _ :: _, [] => by simp [veqL]
end
theorem veq_iff (x y : S25) : veq x y = true ↔ x = y := ⟨veq_eq x y, fun h => by rw [h]; exact veq_refl y⟩
end Go.Proofs.Ytdilbnggedidnaa.PVal
namespace Go.Proofs.Ytdilbnggedidnaa.PVal
open Go.RowKit Go.Proofs.YtdilbnggedidnaaW.PrintWords Go.Proofs.YtdilbnggedidnaaW.PrintLast
set_option linter.unusedVariables false
set_option linter.unusedSimpArgs false
theorem rd_mem {xs : List S25} {i : Int} (h0 : 0 ≤ i) (h1 : i < xs.length) : rd_T25 xs i ∈ xs := by
 have h : i.toNat < xs.length := by omega
 unfold rd_T25
 rw [List.getD_eq_getElem?_getD, List.getElem?_eq_getElem h]
 exact List.getElem_mem h
theorem drop_rd {xs : List S25} {i : Int} (h0 : 0 ≤ i) (h1 : i < xs.length) : xs.drop i.toNat = rd_T25 xs i :: xs.drop (i + 1).toNat := by
 have h : i.toNat < xs.length := by omega
 rw [List.drop_eq_getElem_cons h, show (i + 1).toNat = i.toNat + 1 by omega]
 unfold rd_T25
 rw [List.getD_eq_getElem?_getD, List.getElem?_eq_getElem h]
 rfl
theorem cell_al {w : World} {a : Addr} {v : Value} (h : w.cell? a = some v) : ∀ o, (w.alloc o).cell? a = some v := fun o => (World.cell?_alloc_lt w o a (World.block_lt_of_cell? w a h)).trans h
def SameAt (x y : S25) : Prop := ∀ (A B : Option Addr) (c d : Nat) (w : World), k25.C w A x.f3.length x.f3 → x.f3.length ≤ c → k25.C w B y.f3.length y.f3 → y.f3.length ≤ d →
 Calls Try.prog 22 #[.agg #[.int .u8 x.f0, .int .u64 x.f1, .string x.f2, .slice A x.f3.length c], .agg #[.int .u8 y.f0, .int .u64 y.f1, .string y.f2, .slice B y.f3.length d]] w fun e w' => e = .returned (.bool (veq x y)) ∧ Below w.heap.size w w'
theorem equalFunc_any (xs ys : List S25) (ih : ∀ x ∈ xs, ∀ y, SameAt x y) (A B : Option Addr) (c d : Nat) (w : World) (ha : k25.C w A xs.length xs) (hc : xs.length ≤ c) (hb : k25.C w B ys.length ys) (hd : ys.length ≤ d) :
  Calls Try.prog 60 #[.slice A xs.length c, .slice B ys.length d, .func (.func 22) #[] #[]] w fun e w' => e = .returned (.bool (veqL xs ys)) ∧ Below w.heap.size w w' := by
 by_cases hl : xs.length = ys.length
 ·have hm : xs.length ≤ 9223372036854775807 := Kd.C_max ha
  have HA := Aside0.mk ha
  have HBb := Aside0.mk hb
  have HL := Aside0.mk hl
  have IH := Aside0.mk ih
  have hne : ((xs.length : Int) != (ys.length : Int)) = false := by rw [hl]; simp
  clear ha hb hl ih
  go_enter Try.func60, Try.ntmps60
  go_wp2_with fail
  go_loopg [17] xs.length (fun gk v17 wr => ∃ i : Int, v17 = .int .i64 i ∧ Aside0 (0 ≤ i ∧ i ≤ xs.length ∧ gk = xs.length - i.toNat ∧ veqL (xs.drop i.toNat) (ys.drop i.toNat) = veqL xs ys) ∧ Aside0 (Below w.heap.size w wr))
  case atStart => exact ⟨0, rfl, ⟨by omega, by omega, by simp, by simp⟩, ⟨Below.refl _ _⟩⟩
  case round =>
   obtain ⟨i, rfl, HI, HW⟩ := hrel
   obtain ⟨hi0, hi1, hgk, hv⟩ := HI.out
   have HG := Aside0.mk hgk
   have HV := Aside0.mk hv
   clear HI hgk hv
   by_cases hlt : i < xs.length
   ·have hlt2 : i < ys.length := by rw [← HL.out]; exact hlt
    obtain ⟨ad1, A1, c1, e1, hx0, hx1, hx2, hx3, hl1, hC1⟩ := at_T25 (Kd.C_below HA.out HW.out) i hi0 hlt
    obtain ⟨ad2, A2, c2, e2, hy0, hy1, hy2, hy3, hl2, hC2⟩ := at_T25 (Kd.C_below HBb.out HW.out) i hi0 hlt2
    cases e1
    cases e2
    have ho0 := cell_al hy0
    have ho1 := cell_al hy1
    have ho2 := cell_al hy2
    have ho3 := cell_al hy3
    clear hy0 hy1 hy2 hy3
    have HC1 := Aside0.mk hC1
    have HC2 := Aside0.mk hC2
    have HX := Aside0.mk (IH.out (rd_T25 xs i) (rd_mem hi0 hlt) (rd_T25 ys i))
    clear hC1 hC2
    go_wp2_with fail
    refine (HX.out A1 A2 c1 c2 _ ?_ hl1 ?_ hl2).mono ?_
    ·exact Kd.C_below HC1.out ((((Below.refl _ _).alloc (Nat.le_refl _) _).alloc (by simp) _))
    ·exact Kd.C_below HC2.out ((((Below.refl _ _).alloc (Nat.le_refl _) _).alloc (by simp) _))
    rintro e w2 ⟨rfl, hb⟩
    have HB2 : Aside0 (Below w.heap.size w w2) := ⟨below_step (below_alloc (below_alloc HW.out _) _) hb⟩
    have hdr : veqL (xs.drop i.toNat) (ys.drop i.toNat) = (veq (rd_T25 xs i) (rd_T25 ys i) && veqL (xs.drop (i + 1).toNat) (ys.drop (i + 1).toNat)) := by rw [drop_rd hi0 hlt, drop_rd hi0 hlt2, veqL]
    rw [HV.out] at hdr
    have HD := Aside0.mk hdr
    clear hdr hb
    by_cases hq : veq (rd_T25 xs i) (rd_T25 ys i) = true
    ·have HQ := Aside0.mk hq
     rw [hq]
     clear hq
     go_wp2_with fail
     go_roundg (xs.length - (i + 1).toNat)
     case measure => rw [HG.out]; omega
     case rel => exact ⟨i + 1, by go_num, ⟨by omega, by omega, rfl, by rw [HD.out, HQ.out]; simp⟩, HB2⟩
    ·have hq' : veq (rd_T25 xs i) (rd_T25 ys i) = false := by simpa using hq
     have HQ := Aside0.mk hq'
     rw [hq']
     clear hq hq'
     go_wp2_with fail
     go_ret
     exact ⟨by rw [HD.out, HQ.out]; rfl, HB2.out⟩
   ·have he : veqL xs ys = true := by
     rw [← HV.out, List.drop_of_length_le (by omega), List.drop_of_length_le (by have := HL.out; omega)]; rfl
    have HE := Aside0.mk he
    clear he
    go_wp2_with fail
    go_ret
    exact ⟨by rw [HE.out]; rfl, HW.out⟩
 ·have hne : ((xs.length : Int) != (ys.length : Int)) = true := by rw [bne_iff_ne]; omega
  have he : veqL xs ys = false := by
   cases h : veqL xs ys with
   | false => rfl
   | true => exact absurd (veqL_length h) hl
  have HE := Aside0.mk he
  clear he hl ha hb ih
  go_enter Try.func60, Try.ntmps60
  go_wp2_with fail
  go_ret
  exact ⟨by rw [HE.out]; rfl, Below.refl _ _⟩
theorem same_of (x y : S25) (ih : ∀ a ∈ x.f3, ∀ b, SameAt a b) : SameAt x y := by
 intro A B c d w ha hc hb hd
 have HA := Aside0.mk ha
 have HBb := Aside0.mk hb
 have HV := Aside0.mk (veq_def x y)
 clear ha hb
 have IH := Aside0.mk ih
 clear ih
 by_cases h0 : x.f0 = y.f0
 ·by_cases h1 : x.f1 = y.f1
  ·by_cases h2 : x.f2.toList = y.f2.toList
   ·have b0 : (x.f0 == y.f0) = true := by rw [h0]; simp
    have b1 : (x.f1 == y.f1) = true := by rw [h1]; simp
    have b2 : (x.f2.toList == y.f2.toList) = true := by rw [h2]; simp
    have HE : Aside0 (veq x y = veqL x.f3 y.f3) := ⟨by rw [HV.out, b0, b1, b2]; simp⟩
    clear h0 h1 h2
    go_enter Try.func22, Try.ntmps22
    go_wp2_with fail
    refine (equalFunc_any x.f3 y.f3 IH.out A B c d _ ?_ hc ?_ hd).mono ?_
    ·exact Kd.C_below HA.out ((((Below.refl _ _).alloc (Nat.le_refl _) _).alloc (by simp) _))
    ·exact Kd.C_below HBb.out ((((Below.refl _ _).alloc (Nat.le_refl _) _).alloc (by simp) _))
    rintro e w2 ⟨rfl, hb⟩
    have HB2 : Aside0 (Below w.heap.size w w2) := ⟨below_step (below_alloc (below_alloc (Below.refl _ _) _) _) hb⟩
    clear hb
    go_wp2_with fail
    go_ret
    exact ⟨by rw [HE.out]; rfl, HB2.out⟩
   ·have b0 : (x.f0 == y.f0) = true := by rw [h0]; simp
    have b1 : (x.f1 == y.f1) = true := by rw [h1]; simp
    have b2 : (x.f2.toList == y.f2.toList) = false := by simpa using h2
    have HE : Aside0 (veq x y = false) := ⟨by rw [HV.out, b0, b1, b2]; simp⟩
    clear h0 h1 h2
    go_enter Try.func22, Try.ntmps22
    go_wp2_with fail
    go_ret
    exact ⟨by rw [HE.out]; rfl, ((Below.refl _ _).alloc (Nat.le_refl _) _).alloc (by simp) _⟩
  ·have b0 : (x.f0 == y.f0) = true := by rw [h0]; simp
   have b1 : (x.f1 == y.f1) = false := by simpa using h1
   have HE : Aside0 (veq x y = false) := ⟨by rw [HV.out, b0, b1]; simp⟩
   clear h0 h1
   go_enter Try.func22, Try.ntmps22
   go_wp2_with fail
   go_ret
   exact ⟨by rw [HE.out]; rfl, ((Below.refl _ _).alloc (Nat.le_refl _) _).alloc (by simp) _⟩
 ·have b0 : (x.f0 == y.f0) = false := by simpa using h0
  have HE : Aside0 (veq x y = false) := ⟨by rw [HV.out, b0]; simp⟩
  clear h0
  go_enter Try.func22, Try.ntmps22
  go_wp2_with fail
  go_ret
  exact ⟨by rw [HE.out]; rfl, ((Below.refl _ _).alloc (Nat.le_refl _) _).alloc (by simp) _⟩
theorem same_all : ∀ (n : Nat) (x y : S25), itemsN x ≤ n → SameAt x y
 | 0, x, _, h => absurd (itemsN_pos x) (by omega)
 | n + 1, x, y, h => same_of x y fun a ha b => same_all n a b (by have := itemsL_mem ha; rw [itemsN_eq] at h; omega)
theorem same_any (x y : S25) : SameAt x y := same_all (itemsN x) x y (Nat.le_refl _)
end Go.Proofs.Ytdilbnggedidnaa.PVal
namespace Go.Proofs.Ytdilbnggedidnaa.PVal
open Go.RowKit Go.Proofs.YtdilbnggedidnaaW.PrintWords Go.Proofs.YtdilbnggedidnaaW.PrintLast
set_option linter.unusedVariables false
set_option linter.unusedSimpArgs false
def idxF (p : S25 → Bool) : List S25 → Int → Int
 | [], _ => -1
 | x :: l, i => if p x then i else idxF p l (i + 1)
theorem idxF_any (p : S25 → Bool) (l : List S25) (i : Int) (h : 0 ≤ i) : decide (0 ≤ idxF p l i) = l.any p := by
 induction l generalizing i with
 | nil => simp [idxF]
 | cons x l ih =>
  have := ih (i + 1) (by omega)
  rw [Bool.eq_iff_iff, decide_eq_true_eq] at this ⊢
  simp only [idxF, List.any_cons, Bool.or_eq_true]
  by_cases hx : p x = true
  ·rw [if_pos hx]; simp [h, hx]
  ·rw [if_neg hx, this]; simp [hx]
def Pred87 (p : S25 → Bool) (w : World) (x : S25) : Prop := ∀ (A : Option Addr) (c : Nat) (w' : World), Below w.heap.size w w' → k25.C w' A x.f3.length x.f3 → x.f3.length ≤ c →
 Calls Try.prog 87 #[.agg #[.int .u8 x.f0, .int .u64 x.f1, .string x.f2, .slice A x.f3.length c]] w' fun e w2 => e = .returned (.bool (p x)) ∧ Below w'.heap.size w' w2
theorem indexFunc_87 (p : S25 → Bool) (l : List S25) (A : Option Addr) (c : Nat) (w : World) (hp : ∀ x ∈ l, Pred87 p w x) (ha : k25.C w A l.length l) (hc : l.length ≤ c) :
  Calls Try.prog 100 #[.slice A l.length c, .func (.func 87) #[] #[]] w fun e w' => e = .returned (.int .i64 (idxF p l 0)) ∧ Below w.heap.size w w' := by
 have hm : l.length ≤ 9223372036854775807 := Kd.C_max ha
 have HA := Aside0.mk ha
 have HP := Aside0.mk hp
 clear ha hp
 go_enter Try.func100, Try.ntmps100
 go_wp2_with fail
 go_loopg [8] l.length (fun gk v8 wr => ∃ i : Int, v8 = .int .i64 i ∧ Aside0 (0 ≤ i ∧ i ≤ l.length ∧ gk = l.length - i.toNat ∧ idxF p (l.drop i.toNat) i = idxF p l 0) ∧ Aside0 (Below w.heap.size w wr))
 case atStart => exact ⟨0, rfl, ⟨by omega, by omega, by simp, by simp⟩, ⟨Below.refl _ _⟩⟩
 case round =>
  obtain ⟨i, rfl, HI, HW⟩ := hrel
  obtain ⟨hi0, hi1, hgk, hv⟩ := HI.out
  have HG := Aside0.mk hgk
  have HV := Aside0.mk hv
  clear HI hgk hv
  by_cases hlt : i < l.length
  ·obtain ⟨ad1, A1, c1, e1, hx0, hx1, hx2, hx3, hl1, hC1⟩ := at_T25 (Kd.C_below HA.out HW.out) i hi0 hlt
   cases e1
   have HC1 := Aside0.mk hC1
   have HX := Aside0.mk (HP.out (rd_T25 l i) (rd_mem hi0 hlt))
   clear hC1
   go_wp2_with fail
   refine (HX.out A1 c1 _ HW.out HC1.out hl1).mono ?_
   rintro e w2 ⟨rfl, hb⟩
   have HW2 : Aside0 (Below w.heap.size w w2) := ⟨below_step HW.out hb⟩
   have hdr : idxF p (l.drop i.toNat) i = if p (rd_T25 l i) then i else idxF p (l.drop (i + 1).toNat) (i + 1) := by rw [drop_rd hi0 hlt, idxF]
   rw [HV.out] at hdr
   have HD := Aside0.mk hdr
   clear hdr hb
   cases hq : p (rd_T25 l i) with
   | true =>
    have HQ := Aside0.mk hq
    clear hq
    go_wp2_with fail
    go_ret
    exact ⟨by rw [HD.out, HQ.out]; rfl, HW2.out⟩
   | false =>
    have HQ := Aside0.mk hq
    clear hq
    go_wp2_with fail
    go_roundg (l.length - (i + 1).toNat)
    case measure => rw [HG.out]; omega
    case rel => exact ⟨i + 1, by go_num, ⟨by omega, by omega, rfl, by rw [HD.out, HQ.out]; rfl⟩, HW2⟩
  ·have he : idxF p l 0 = -1 := by rw [← HV.out, List.drop_of_length_le (by omega)]; rfl
   have HE := Aside0.mk he
   clear he
   go_wp2_with fail
   go_ret
   exact ⟨by rw [HE.out]; rfl, HW.out⟩
theorem containsFunc_87 (p : S25 → Bool) (l : List S25) (A : Option Addr) (c : Nat) (w : World) (hp : ∀ x ∈ l, Pred87 p w x) (ha : k25.C w A l.length l) (hc : l.length ≤ c) :
  Calls Try.prog 70 #[.slice A l.length c, .func (.func 87) #[] #[]] w fun e w' => e = .returned (.bool (l.any p)) ∧ Below w.heap.size w w' := by
 have HA := Aside0.mk ha
 have HP := Aside0.mk hp
 clear ha hp
 go_enter Try.func70, Try.ntmps70
 go_wp2_with fail
 refine (indexFunc_87 p l A c w HP.out HA.out hc).mono ?_
 rintro e w2 ⟨rfl, hb⟩
 have HW := Aside0.mk hb
 have HE := Aside0.mk (idxF_any p l 0 (by omega))
 clear hb
 go_wp2_with fail
 go_ret
 exact ⟨by rw [← HE.out]; rfl, HW.out⟩
def Pred120 (b : Nat) (p : S25 → Bool) (w : World) (x : S25) : Prop := ∀ (A : Option Addr) (c : Nat) (w' : World), Below w.heap.size w w' → k25.C w' A x.f3.length x.f3 → x.f3.length ≤ c →
 Calls Try.prog 120 #[.agg #[.int .u8 x.f0, .int .u64 x.f1, .string x.f2, .slice A x.f3.length c], .pointer (some ⟨b, 0, none⟩)] w' fun e w2 => e = .returned (.bool (p x)) ∧ Below w'.heap.size w' w2
theorem indexFunc_120 (b : Nat) (p : S25 → Bool) (l : List S25) (A : Option Addr) (c : Nat) (w : World) (hp : ∀ x ∈ l, Pred120 b p w x) (ha : k25.C w A l.length l) (hc : l.length ≤ c) :
  Calls Try.prog 100 #[.slice A l.length c, .func (.func 120) #[] #[.pointer (some ⟨b, 0, none⟩)]] w fun e w' => e = .returned (.int .i64 (idxF p l 0)) ∧ Below w.heap.size w w' := by
 have hm : l.length ≤ 9223372036854775807 := Kd.C_max ha
 have HA := Aside0.mk ha
 have HP := Aside0.mk hp
 clear ha hp
 go_enter Try.func100, Try.ntmps100
 go_wp2_with fail
 go_loopg [8] l.length (fun gk v8 wr => ∃ i : Int, v8 = .int .i64 i ∧ Aside0 (0 ≤ i ∧ i ≤ l.length ∧ gk = l.length - i.toNat ∧ idxF p (l.drop i.toNat) i = idxF p l 0) ∧ Aside0 (Below w.heap.size w wr))
 case atStart => exact ⟨0, rfl, ⟨by omega, by omega, by simp, by simp⟩, ⟨Below.refl _ _⟩⟩
 case round =>
  obtain ⟨i, rfl, HI, HW⟩ := hrel
  obtain ⟨hi0, hi1, hgk, hv⟩ := HI.out
  have HG := Aside0.mk hgk
  have HV := Aside0.mk hv
  clear HI hgk hv
  by_cases hlt : i < l.length
  ·obtain ⟨ad1, A1, c1, e1, hx0, hx1, hx2, hx3, hl1, hC1⟩ := at_T25 (Kd.C_below HA.out HW.out) i hi0 hlt
   cases e1
   have HC1 := Aside0.mk hC1
   have HX := Aside0.mk (HP.out (rd_T25 l i) (rd_mem hi0 hlt))
   clear hC1
   go_wp2_with fail
   refine (HX.out A1 c1 _ HW.out HC1.out hl1).mono ?_
   rintro e w2 ⟨rfl, hb⟩
   have HW2 : Aside0 (Below w.heap.size w w2) := ⟨below_step HW.out hb⟩
   have hdr : idxF p (l.drop i.toNat) i = if p (rd_T25 l i) then i else idxF p (l.drop (i + 1).toNat) (i + 1) := by rw [drop_rd hi0 hlt, idxF]
   rw [HV.out] at hdr
   have HD := Aside0.mk hdr
   clear hdr hb
   cases hq : p (rd_T25 l i) with
   | true =>
    have HQ := Aside0.mk hq
    clear hq
    go_wp2_with fail
    go_ret
    exact ⟨by rw [HD.out, HQ.out]; rfl, HW2.out⟩
   | false =>
    have HQ := Aside0.mk hq
    clear hq
    go_wp2_with fail
    go_roundg (l.length - (i + 1).toNat)
    case measure => rw [HG.out]; omega
    case rel => exact ⟨i + 1, by go_num, ⟨by omega, by omega, rfl, by rw [HD.out, HQ.out]; rfl⟩, HW2⟩
  ·have he : idxF p l 0 = -1 := by rw [← HV.out, List.drop_of_length_le (by omega)]; rfl
   have HE := Aside0.mk he
   clear he
   go_wp2_with fail
   go_ret
   exact ⟨by rw [HE.out]; rfl, HW.out⟩
theorem containsFunc_120 (b : Nat) (p : S25 → Bool) (l : List S25) (A : Option Addr) (c : Nat) (w : World) (hp : ∀ x ∈ l, Pred120 b p w x) (ha : k25.C w A l.length l) (hc : l.length ≤ c) :
  Calls Try.prog 70 #[.slice A l.length c, .func (.func 120) #[] #[.pointer (some ⟨b, 0, none⟩)]] w fun e w' => e = .returned (.bool (l.any p)) ∧ Below w.heap.size w w' := by
 have HA := Aside0.mk ha
 have HP := Aside0.mk hp
 clear ha hp
 go_enter Try.func70, Try.ntmps70
 go_wp2_with fail
 refine (indexFunc_120 b p l A c w HP.out HA.out hc).mono ?_
 rintro e w2 ⟨rfl, hb⟩
 have HW := Aside0.mk hb
 have HE := Aside0.mk (idxF_any p l 0 (by omega))
 clear hb
 go_wp2_with fail
 go_ret
 exact ⟨by rw [← HE.out]; rfl, HW.out⟩
def Pred128 (b : Nat) (p : S25 → Bool) (w : World) (x : S25) : Prop := ∀ (A : Option Addr) (c : Nat) (w' : World), Below w.heap.size w w' → k25.C w' A x.f3.length x.f3 → x.f3.length ≤ c →
 Calls Try.prog 128 #[.agg #[.int .u8 x.f0, .int .u64 x.f1, .string x.f2, .slice A x.f3.length c], .pointer (some ⟨b, 0, none⟩)] w' fun e w2 => e = .returned (.bool (p x)) ∧ Below w'.heap.size w' w2
theorem indexFunc_128 (b : Nat) (p : S25 → Bool) (l : List S25) (A : Option Addr) (c : Nat) (w : World) (hp : ∀ x ∈ l, Pred128 b p w x) (ha : k25.C w A l.length l) (hc : l.length ≤ c) :
  Calls Try.prog 100 #[.slice A l.length c, .func (.func 128) #[] #[.pointer (some ⟨b, 0, none⟩)]] w fun e w' => e = .returned (.int .i64 (idxF p l 0)) ∧ Below w.heap.size w w' := by
 have hm : l.length ≤ 9223372036854775807 := Kd.C_max ha
 have HA := Aside0.mk ha
 have HP := Aside0.mk hp
 clear ha hp
 go_enter Try.func100, Try.ntmps100
 go_wp2_with fail
 go_loopg [8] l.length (fun gk v8 wr => ∃ i : Int, v8 = .int .i64 i ∧ Aside0 (0 ≤ i ∧ i ≤ l.length ∧ gk = l.length - i.toNat ∧ idxF p (l.drop i.toNat) i = idxF p l 0) ∧ Aside0 (Below w.heap.size w wr))
 case atStart => exact ⟨0, rfl, ⟨by omega, by omega, by simp, by simp⟩, ⟨Below.refl _ _⟩⟩
 case round =>
  obtain ⟨i, rfl, HI, HW⟩ := hrel
  obtain ⟨hi0, hi1, hgk, hv⟩ := HI.out
  have HG := Aside0.mk hgk
  have HV := Aside0.mk hv
  clear HI hgk hv
  by_cases hlt : i < l.length
  ·obtain ⟨ad1, A1, c1, e1, hx0, hx1, hx2, hx3, hl1, hC1⟩ := at_T25 (Kd.C_below HA.out HW.out) i hi0 hlt
   cases e1
   have HC1 := Aside0.mk hC1
   have HX := Aside0.mk (HP.out (rd_T25 l i) (rd_mem hi0 hlt))
   clear hC1
   go_wp2_with fail
   refine (HX.out A1 c1 _ HW.out HC1.out hl1).mono ?_
   rintro e w2 ⟨rfl, hb⟩
   have HW2 : Aside0 (Below w.heap.size w w2) := ⟨below_step HW.out hb⟩
   have hdr : idxF p (l.drop i.toNat) i = if p (rd_T25 l i) then i else idxF p (l.drop (i + 1).toNat) (i + 1) := by rw [drop_rd hi0 hlt, idxF]
   rw [HV.out] at hdr
   have HD := Aside0.mk hdr
   clear hdr hb
   cases hq : p (rd_T25 l i) with
   | true =>
    have HQ := Aside0.mk hq
    clear hq
    go_wp2_with fail
    go_ret
    exact ⟨by rw [HD.out, HQ.out]; rfl, HW2.out⟩
   | false =>
    have HQ := Aside0.mk hq
    clear hq
    go_wp2_with fail
    go_roundg (l.length - (i + 1).toNat)
    case measure => rw [HG.out]; omega
    case rel => exact ⟨i + 1, by go_num, ⟨by omega, by omega, rfl, by rw [HD.out, HQ.out]; rfl⟩, HW2⟩
  ·have he : idxF p l 0 = -1 := by rw [← HV.out, List.drop_of_length_le (by omega)]; rfl
   have HE := Aside0.mk he
   clear he
   go_wp2_with fail
   go_ret
   exact ⟨by rw [HE.out]; rfl, HW.out⟩
theorem containsFunc_128 (b : Nat) (p : S25 → Bool) (l : List S25) (A : Option Addr) (c : Nat) (w : World) (hp : ∀ x ∈ l, Pred128 b p w x) (ha : k25.C w A l.length l) (hc : l.length ≤ c) :
  Calls Try.prog 70 #[.slice A l.length c, .func (.func 128) #[] #[.pointer (some ⟨b, 0, none⟩)]] w fun e w' => e = .returned (.bool (l.any p)) ∧ Below w.heap.size w w' := by
 have HA := Aside0.mk ha
 have HP := Aside0.mk hp
 clear ha hp
 go_enter Try.func70, Try.ntmps70
 go_wp2_with fail
 refine (indexFunc_128 b p l A c w HP.out HA.out hc).mono ?_
 rintro e w2 ⟨rfl, hb⟩
 have HW := Aside0.mk hb
 have HE := Aside0.mk (idxF_any p l 0 (by omega))
 clear hb
 go_wp2_with fail
 go_ret
 exact ⟨by rw [← HE.out]; rfl, HW.out⟩
end Go.Proofs.Ytdilbnggedidnaa.PVal
namespace Go.Proofs.Ytdilbnggedidnaa.PVal
open Go.RowKit Go.Proofs.YtdilbnggedidnaaW.PrintWords Go.Proofs.YtdilbnggedidnaaW.PrintLast
section
variable {F : Fence} {n : Nat} {P : Program} {ops : Array Oper} {md : Region.Mode} {w : World}
structure Lax (F : Fence) (P : Program) : Prop where
 fn : ∀ f, F.fn f
 depth : F.depth = none
 calls : ∀ {m f args w R}, Calls P f args w R → CallsIn F m P f args w R
theorem lax_wide (P : Program) : Lax Fence.wide P := ⟨fun _ => trivial, rfl, fun h => callsIn_wide.2 h⟩
theorem lax_round (P : Program) (l : Nat) : Lax (Fence.wide.inRound l) P := ⟨fun _ => trivial, rfl, fun h => CallsIn.inRound l (callsIn_wide.2 h)⟩
def NoDefer (ops : Array Oper) : Prop := ∀ (i : Nat) (o : Oper), ops[i]? = some o → ∀ c : Call, o.op ≠ Op.defer c
theorem Oper.wpIn_of_still {o : Oper} {a : Act} {K : Act → Prop} {K' : Act → World → Prop} {Q' : Exit → Act → World → Prop} (hF : Lax F P) (hd : ∀ c : Call, o.op ≠ Op.defer c) (h : ∀ a, K a → K' a w) (hh : o.still P a w K) : o.wpIn F n P a w K' Q' := by
 unfold Oper.still at hh
 refine ⟨fun f _ => hF.fn f, ?_⟩
 rw [Oper.semAt_eq _ _ _ hd]
 generalize (execOp a.eval o).run P w = r at *
 cases r with
 | ok n w' =>
  cases n <;> simp only [Oper.stillUpon] at hh <;> simp only [Oper.uponIn]
  case enter f args =>
   obtain ⟨rfl, v, hc, hn⟩ := hh
   refine ⟨fun e => (by rw [hF.depth] at e; cases e), hF.calls (hc.mono fun e w'' ⟨he, hw⟩ => ?_)⟩
   subst he; subst hw; exact h _ hn
  all_goals (obtain ⟨rfl, h2⟩ := hh; exact h _ h2)
 | halt x w' => simp only [Oper.stillUpon] at hh
theorem wpOpIn_of_stOp {i : Nat} {a : Act} {K : Act → Prop} {K' : Act → World → Prop} {Q' : Exit → Act → World → Prop} (hF : Lax F P) (hd : NoDefer ops) (h : ∀ a, K a → K' a w) (hh : stOp P ops w i K a) : wpOpIn F n P ops Q' i K' a w := by
 unfold stOp at hh
 unfold wpOpIn
 split
 ·rename_i ho; simp only [ho] at hh; exact h _ hh
 ·rename_i o ho
  simp only [ho] at hh
  split
  ·rename_i hw; simp only [hw, if_true] at hh; exact Oper.wpIn_of_still hF (hd i o ho) h hh
  ·rename_i hw; simp only [hw] at hh; exact ⟨fun f _ => hF.fn f, h _ hh⟩
theorem wpAnyIn_of_head {n' g : Nat} {L : Array Bool → Act → Prop} {Q' : Exit → Act → World → Prop} (hF : Lax F P) (hd : NoDefer ops) (hL : ∀ listed a, L listed a → wpAnyIn F n P md ops Q' g listed a w) :
  ∀ (f : Nat) (listed : Array Bool) (a : Act), wpAnyL P md ops w n' L f listed a → wpAnyIn F n P md ops Q' (f + g) listed a w
 | 0, listed, a, h => by rw [Nat.zero_add]; exact hL _ _ h
 | f + 1, listed, a, h => by
  rw [show f + 1 + g = (f + g) + 1 by omega]
  exact ⟨fun h0 => absurd h0 h.1, fun i hi => wpOpIn_of_stOp hF hd (fun a' h' => wpAnyIn_of_head hF hd hL f _ a' h') (h.2 i hi).2⟩
theorem wpAnyIn_of_seq {Q' : Exit → Act → World → Prop} : ∀ (l : List Oper) (k : Nat) (listed : Array Bool) (a : Act) (w : World), (∀ j, l[j]? = ops[k + j]?) →
  Region.seqB md ops l.length k listed = true → wpListIn F n P ops Q' l a w → wpAnyIn F n P md ops Q' l.length listed a w
 | [], _, _, _, _, _, hB, h => ⟨by simpa [Region.seqB] using hB, h⟩
 | o :: l, k, listed, a, w, hl, hB, h => by
  have h0 : ops[k]? = some o := by simpa using (hl 0).symm
  simp only [List.length_cons, Region.seqB, Bool.and_eq_true, decide_eq_true_eq] at hB
  refine ⟨fun h1 => (by rw [hB.1] at h1; cases h1), fun i hi => ?_⟩
  rw [hB.1] at hi
  have hik : i = k := by simpa using hi
  subst hik
  have hw : wpOpIn F n P ops Q' i (wpListIn F n P ops Q' l) a w := by unfold wpOpIn; simp only [h0]; exact h
  exact wpOpIn_mono (fun a' w' h' => wpAnyIn_of_seq l (i + 1) _ a' w' (fun j => by have := hl (j + 1); simpa [Nat.add_assoc, Nat.add_comm 1 j] using this) hB.2 h') hw
theorem wpIn_region_still_tail {id : Nat} {Q : Exit → Act → World → Prop} {a : Act} {l : List Oper} (n' : Nat) (hF : Lax F P) (hd : ∀ o ∈ l, ∀ c : Call, o.op ≠ Op.defer c) (hm : P.follows .mixedOrders = true) (hB : Region.lexTailB .any l.toArray n' = true)
  (h : wpStill P l.toArray { w with drawn := w.drawn + 1 } (fun a' => wpListIn F n P l.toArray Q (l.drop n') a' { w with drawn := w.drawn + 1 }) (l.take n') a) : (Code.region id l.toArray true).wpIn F n P Q a w := by
 simp only [Region.lexTailB, Bool.and_eq_true, decide_eq_true_eq] at hB
 obtain ⟨⟨⟨⟨hsel, hn⟩, hs⟩, hc⟩, hlex⟩ := hB
 have hdo : NoDefer l.toArray := fun i o ho => hd o (List.mem_of_getElem? (by simpa using ho))
 have hn' : n' < l.length := by simpa using hn
 have htl : (l.take n').length = n' := by simp; omega
 have hdl : (l.drop n').length = l.toArray.size - n' := by simp
 have inv0 : HeadInv .any l.toArray n' (Array.replicate l.toArray.size false) :=
  ⟨by simp, fun j oj _ hl => (by rw [getD_replicate_false] at hl; cases hl), fun t _ ht => getD_in (by simpa using ht) (getD_replicate_false _ _)⟩
 have H := wpAnyL_lex (md := .any) (g := l.toArray.size - n') hsel hs hc hn (l.take n') 0 _ a (fun j hj => by
  have hj' : j < n' := by rw [htl] at hj; exact hj
  simp [hj']) (by simpa using htl) inv0 (by rw [htl]; exact hlex) h
 refine wpIn_region_any hm ?_
 have := wpAnyIn_of_head (n := n) (Q' := Q) (g := l.toArray.size - n') hF hdo (fun listed a' hL => by
  have := wpAnyIn_of_seq (F := F) (n := n) (P := P) (md := .any) (Q' := Q) (l.drop n') n' listed a' { w with drawn := w.drawn + 1 } (fun j => by simp [List.getElem?_drop]) (by rw [hdl]; exact hL.1) hL.2
  rwa [hdl] at this) _ _ _ H
 rw [htl, show n' + (l.toArray.size - n') = l.toArray.size by omega] at this
 exact this
theorem wpAnyIn_of_wpAny {Q : Exit → Act → World → Prop} (hF : Lax F P) (hR : ∀ {m r args w R}, Rows P r args w R → RowsIn F m P r args w R) (hd : NoDefer ops) (hq : ¬ LetsOut Q) : ∀ (fuel : Nat) (listed : Array Bool) (a : Act) (w : World),
  wpAny P md ops Q fuel listed a w → wpAnyIn F n P md ops Q fuel listed a w
 | 0, _, _, _, h => h
 | fuel + 1, listed, a, w, h => by
  refine ⟨h.1, fun i hi => ?_⟩
  have h2 := h.2 i hi
  unfold wpOp at h2
  unfold wpOpIn
  split
  ·rename_i ho; simp only [ho] at h2; exact wpAnyIn_of_wpAny hF hR hd hq fuel _ _ _ h2
  ·rename_i o ho
   simp only [ho] at h2
   split
   ·rename_i hw
    simp only [hw, if_true] at h2
    rcases h2 with h2 | ⟨_, h2⟩
    ·refine ⟨fun f _ => hF.fn f, ?_⟩
     rw [Oper.semAt_eq _ _ _ (hd i o ho)]
     unfold Oper.wp at h2
     generalize (execOp a.eval o).run P w = r at *
     cases r with
     | ok nx w' =>
      cases nx <;> simp only [Oper.upon] at h2 <;> simp only [Oper.uponIn]
      case enter f args =>
       refine ⟨fun e => (by rw [hF.depth] at e; cases e), hF.calls (h2.mono fun e w'' he => ?_)⟩
       cases e with
       | returned v => exact wpAnyIn_of_wpAny hF hR hd hq fuel _ _ _ he
       | panicked c => exact he
       | outgrown => exact he
      case row r args =>
       exact ⟨fun e => (by rw [hF.depth] at e; cases e), hR (h2.mono fun v w'' he => wpAnyIn_of_wpAny hF hR hd hq fuel _ _ _ he)⟩
      all_goals exact wpAnyIn_of_wpAny hF hR hd hq fuel _ _ _ h2
     | halt x w' => cases x <;> simp only [Oper.upon] at h2 <;> simp only [Oper.uponIn] <;> exact h2
    ·exact absurd h2 hq
   ·rename_i hw; simp only [hw] at h2; exact ⟨fun f _ => hF.fn f, wpAnyIn_of_wpAny hF hR hd hq fuel _ _ _ h2⟩
theorem rows_round (P : Program) (l : Nat) {m : Nat} {r : String} {args : Array Value} {w : World} {R : Value → World → Prop} (h : Rows P r args w R) : RowsIn (Fence.wide.inRound l) m P r args w R := fun c cs _ =>
 let ⟨v, w', hr, hs⟩ := h c cs; ⟨v, w', hr, stepsIn_wide.2 hs⟩
theorem noDefer_list {l : List Oper} (h : ∀ o ∈ l, ∀ c : Call, o.op ≠ Op.defer c) : NoDefer l.toArray := fun i o ho => h o (List.mem_of_getElem? (by simpa using ho))
theorem startIn {Q : Exit → Act → World → Prop} {S : World → Prop} {id k : Nat} {a : Act} {w : World} {l : List Oper} (ds : List Nat) (r : Nat) (b : Array Bool) (hm : P.follows .mixedOrders = true) (hd : ∀ o ∈ l, ∀ c : Call, o.op ≠ Op.defer c) (hq : ¬ LetsOut Q) (hn : l.length = k) (hl : Array.replicate k false = b)
  (h : wpAnyLast P .any l.toArray Q S ds k b a w.drew) : (Code.region id l.toArray true).wpIn (Fence.wide.inRound r) n P Q a w := by
 subst hn
 subst hl
 refine wpIn_region_any hm ?_
 have := wpAnyIn_of_wpAny (n := n) (lax_round P r) (fun h => rows_round P r h) (noDefer_list hd) hq _ _ _ _ (wpAny_of_last _ _ _ _ h)
 simpa using this
end
end Go.Proofs.Ytdilbnggedidnaa.PVal
namespace Go.Proofs.Ytdilbnggedidnaa.PVal
open Go.RowKit Go.Shelf Go.Proofs.YtdilbnggedidnaaW.PrintWords Go.Proofs.YtdilbnggedidnaaW.PrintLast
set_option linter.unusedVariables false
set_option linter.unusedSimpArgs false
attribute [local go_sem] Oper.semAt_some
structure KV where
 x : S25
 A : Option Addr
 c : Nat
def KV.ok (w : World) (v : KV) : Prop := k25.C w v.A v.x.f3.length v.x.f3 ∧ v.x.f3.length ≤ v.c
@[reducible] def KV.val (v : KV) : Value := .agg #[.int .u8 v.x.f0, .int .u64 v.x.f1, .string v.x.f2, .slice v.A v.x.f3.length v.c]
def Pr (w : World) (l : List S25) : Type := { p : KV × KV // (p.1.ok w ∧ p.1.x ∈ l) ∧ (p.2.ok w ∧ p.2.x ∈ l) }
def Pr.f {w : World} {l : List S25} (p : Pr w l) : S25 × S25 := (p.1.1.x, p.1.2.x)
def Pr.k {w : World} {l : List S25} (p : Pr w l) : KV := p.1.1
def pairsOf : List S25 → List (S25 × S25)
 | a :: b :: l => (a, b) :: pairsOf l
 | _ => []
theorem pairsOf_length : ∀ l : List S25, (pairsOf l).length = l.length / 2
 | [] => rfl
 | [_] => by simp [pairsOf]
 | a :: b :: l => by simp [pairsOf, pairsOf_length l]; omega
theorem pairsOf_get : ∀ (l : List S25) (k : Nat), 2 * k + 1 < l.length → (pairsOf l)[k]? = some (rd_T25 l (2 * k : Nat), rd_T25 l (2 * k + 1 : Nat))
 | [], k, h => by simp at h
 | [_], k, h => by simp at h
 | a :: b :: l, 0, h => by simp [pairsOf, rd_T25]
 | a :: b :: l, k + 1, h => by
  have := pairsOf_get l k (by simp at h; omega)
  simp only [pairsOf, List.getElem?_cons_succ, this]
  unfold rd_T25
  rw [Int.toNat_natCast, Int.toNat_natCast, Int.toNat_natCast, Int.toNat_natCast, show 2 * (k + 1) = 2 * k + 1 + 1 by omega, List.getD_cons_succ, List.getD_cons_succ, List.getD_cons_succ, List.getD_cons_succ]
def KpB (n₀ b : Nat) (A B : World) : Prop := Below n₀ A B ∧ B.heap[b]? = A.heap[b]?
theorem kpB_refl (n₀ b : Nat) (A : World) : KpB n₀ b A A := ⟨Below.refl _ _, rfl⟩
theorem kpB_t {n₀ b : Nat} {A B C : World} (h : KpB n₀ b A B) (k : KpB n₀ b B C) : KpB n₀ b A C := ⟨h.1.trans k.1, k.2.trans h.2⟩
theorem kpB_b {n₀ b : Nat} {w : World} (h : n₀ ≤ w.heap.size) (hb : b < w.heap.size) (W : World) (l : Nat) (o o' : Obj) (hl : w.heap.size ≤ l) (ho : W.heap[l]? = some o) (hc : o.isCells = false) (hw : o.isWalk = false) : KpB n₀ b W (W.putObj l o') := by
 refine ⟨belowK_b h W l o o' hl ho hc hw, ?_⟩
 exact World.putObj_heap_other (by omega)
theorem cell_below' {w w' : World} (hb : Below w.heap.size w w') {a : Addr} {v : Value} (hc : w.cell? a = some v) : w'.cell? a = some v := (hb.cell (World.block_lt_of_cell? w a hc)).trans hc
theorem keys1_in (n l Bm n₀ : Nat) (x : S25) (A : Option Addr) (c : Nat) (w0 : World) (hn₀ : w0.heap.size ≤ n₀) (hx : k25.C w0 A x.f3.length x.f3) (hc : x.f3.length ≤ c) (hm : x.f3.length ≤ 4294967296) (J Jx : List (Pr w0 x.f3) → World → Prop)
  (hY : ∀ pre y W, J pre W → pre.length < x.f3.length / 2 → YieldAt Fence.wide (n - 1) Try.prog l #[y.1.1.val, y.1.2.val] W fun e W' =>
   (e = .returned (.bool true) ∧ J (pre ++ [y]) W' ∧ KpB n₀ Bm W W') ∨ (e = .returned (.bool false) ∧ Jx (pre ++ [y]) W'))
  (W : World) (hJ : AbidesFrom W.heap.size J) (hw : Below w0.heap.size w0 W) (hB : W.heap[Bm]? = some (.cells #[.int .u8 x.f0, .int .u64 x.f1, .string x.f2, .slice A x.f3.length c] 25 (0, 0))) (h0 : J [] W) :
  CallsIn Fence.wide n Try.prog 94 #[.func (.yield l) #[] #[], .pointer (some ⟨Bm, 0, none⟩)] W fun e W' => (∃ v, e = .returned v) ∧
   ((∃ ys, ys.map Pr.f = pairsOf x.f3 ∧ J ys W') ∨ (∃ pre, pre.map Pr.f <+: pairsOf x.f3 ∧ Jx pre W')) := by
 have HX := Aside0.mk hx
 have HY := Aside0.mk hY
 clear hx hY
 refine callsIn_of_wp Try.func94 rfl trivial ?_ rfl
 simp only [Try.ntmps94, List.size_toArray, List.length_cons, List.length_nil, Nat.reduceAdd, Nat.reduceSub, Array.replicate_succ, Array.replicate_zero, List.push_toArray, List.append_toArray, List.nil_append, List.cons_append]
 gi_wp2
 gi_loopw [3] (fun v wr => ∃ (k : Nat) (pre : List (Pr w0 x.f3)), v = .int .i64 (2 * k : Nat) ∧ Aside0 (pre.map Pr.f = (pairsOf x.f3).take k) ∧ Aside0 (2 * k ≤ x.f3.length) ∧ Aside0 (J pre wr) ∧ Aside0 (Below w0.heap.size w0 wr) ∧ Aside0 (KpB n₀ Bm W wr))
  (fun v _ => x.f3.length - (intOf v).toNat)
 case atStart => exact ⟨0, [], rfl, ⟨by simp⟩, ⟨by omega⟩, ⟨h0⟩, ⟨hw⟩, ⟨kpB_refl _ _ _⟩⟩
 case round =>
  obtain ⟨k, pre, rfl, HP, HK, HJ, HW, HB⟩ := hrel
  have hb : wr.heap[Bm]? = some (.cells #[.int .u8 x.f0, .int .u64 x.f1, .string x.f2, .slice A x.f3.length c] 25 (0, 0)) := HB.out.2.trans hB
  have c3 : wr.cell? ⟨Bm, 3, none⟩ = some (.slice A x.f3.length c) := (blk_cell hb 3).trans rfl
  have hk := HK.out
  clear hb hB
  by_cases hlt : 2 * k + 1 < x.f3.length
  ·obtain ⟨ad1, A1, c1, e1, hx0, hx1, hx2, hx3, hl1, hC1⟩ := at_T25 HX.out (2 * (k : Int)) (by omega) (by omega)
   obtain ⟨ad2, A2, c2, e2, hy0, hy1, hy2, hy3, hl2, hC2⟩ := at_T25 HX.out (2 * (k : Int) + 1) (by omega) (by omega)
   cases e1
   cases e2
   have kx0 := cell_below' HW.out hx0
   have kx1 := cell_below' HW.out hx1
   have kx2 := cell_below' HW.out hx2
   have kx3 := cell_below' HW.out hx3
   have ky0 := cell_below' HW.out hy0
   have ky1 := cell_below' HW.out hy1
   have ky2 := cell_below' HW.out hy2
   have ky3 := cell_below' HW.out hy3
   clear hx0 hx1 hx2 hx3 hy0 hy1 hy2 hy3
   have t1 : (0 : Int) ≤ 2 * (k : Int) := by omega
   have t2 : 2 * (k : Int) < (x.f3.length : Int) := by omega
   have t3 : (0 : Int) ≤ 2 * (k : Int) + 1 := by omega
   have t4 : 2 * (k : Int) + 1 < (x.f3.length : Int) := by omega
   have t5 : IntKind.i64.wrap (2 * (k : Int) + 1) = 2 * (k : Int) + 1 := by rw [i64_w]; unfold wrap64; omega
   have hpl : pre.length = k := by
    have := congrArg List.length HP.out
    rw [List.length_map, List.length_take, pairsOf_length] at this
    omega
   have HJ' := Aside0.mk (hJ pre wr wr.drew none HJ.out ⟨rfl, rfl, rfl, Nat.le_refl _, fun _ _ _ => rfl⟩ (fun r e => by cases e))
   obtain ⟨y, hyv, hyf⟩ : ∃ y : Pr w0 x.f3, (#[y.1.1.val, y.1.2.val] : Array Value) = #[.agg #[.int .u8 (rd_T25 x.f3 (2 * (k : Int))).f0, .int .u64 (rd_T25 x.f3 (2 * (k : Int))).f1, .string (rd_T25 x.f3 (2 * (k : Int))).f2, .slice A1 (rd_T25 x.f3 (2 * (k : Int))).f3.length c1], .agg #[.int .u8 (rd_T25 x.f3 (2 * (k : Int) + 1)).f0, .int .u64 (rd_T25 x.f3 (2 * (k : Int) + 1)).f1, .string (rd_T25 x.f3 (2 * (k : Int) + 1)).f2, .slice A2 (rd_T25 x.f3 (2 * (k : Int) + 1)).f3.length c2]] ∧ y.f = (rd_T25 x.f3 (2 * (k : Int)), rd_T25 x.f3 (2 * (k : Int) + 1)) :=
    ⟨⟨(⟨rd_T25 x.f3 (2 * (k : Int)), A1, c1⟩, ⟨rd_T25 x.f3 (2 * (k : Int) + 1), A2, c2⟩), ⟨⟨hC1, hl1⟩, rd_mem (by omega) (by omega)⟩, ⟨⟨hC2, hl2⟩, rd_mem (by omega) (by omega)⟩⟩, rfl, rfl⟩
   obtain ⟨fn, tmps, assign, body, hy, hR⟩ := HY.out pre y wr.drew HJ'.out (by omega)
   rw [hyv] at hy
   have HYF := Aside0.mk hyf
   clear hyv hyf
   have HR := Aside0.mk hR
   clear hR HJ'
   gi_wp2
   refine wpIn_region_still_tail 12 (lax_wide _) (by simp) (by kernel_rfl) (by kernel_rfl) ?_
   simp only [List.take_succ_cons, List.take_zero, List.drop_succ_cons, List.drop_zero]
   repeat still_step
   refine wpStill_nil ?_
   have HT := Aside0.mk (⟨t1, t2, t3, t4⟩ : _ ∧ _ ∧ _ ∧ _)
   gi_wp2
   have HPE : Aside0 (∀ y : Pr w0 x.f3, y.f = (rd_T25 x.f3 (2 * (k : Int)), rd_T25 x.f3 (2 * (k : Int) + 1)) → (pre ++ [y]).map Pr.f = (pairsOf x.f3).take (k + 1)) := ⟨fun y hy => by
    have hg := pairsOf_get x.f3 k hlt
    have hlt' : k < (pairsOf x.f3).length := by rw [pairsOf_length]; omega
    rw [List.map_append, HP.out, List.take_succ_eq_append_getElem hlt', List.map_singleton, hy]
    rw [List.getElem?_eq_getElem hlt'] at hg
    rw [Option.some.inj hg]
    rw [show ((2 * k + 1 : Nat) : Int) = 2 * (k : Int) + 1 by omega, show ((2 * k : Nat) : Int) = 2 * (k : Int) by omega]⟩
   refine ⟨fun e => (by cases e), HR.out.mono ?_⟩
   rintro e W3 (⟨rfl, hJ3, hk3⟩ | ⟨rfl, hJx3⟩)
   ·have HJ3 := Aside0.mk hJ3
    have HK3 := Aside0.mk hk3
    clear hJ3 hk3 HY HR
    gi_wp2
    go_roundw
    case rel => exact ⟨k + 1, _, by go_num, ⟨HPE.out _ HYF.out⟩, ⟨by omega⟩, HJ3, ⟨HW.out.drew.trans (HK3.out.1.mono hn₀)⟩, ⟨kpB_t HB.out ⟨((Below.refl n₀ wr).drew).trans HK3.out.1, HK3.out.2⟩⟩⟩
    case measure => simp [intOf]; omega
   ·gi_wp2
    refine bodyPost_ret (results_none rfl _ _ _) rfl ?_
    exact ⟨⟨_, rfl⟩, .inr ⟨_, ⟨(pairsOf x.f3).drop (k + 1), by rw [HPE.out _ HYF.out, List.take_append_drop]⟩, hJx3⟩⟩
  ·gi_wp2
   go_end0
   have hk2 : k = x.f3.length / 2 := by omega
   exact ⟨⟨_, rfl⟩, .inl ⟨pre, by rw [HP.out, List.take_of_length_le (by rw [pairsOf_length]; omega)], HJ.out⟩⟩
theorem keys_stops (n Bm n₀ : Nat) (x : S25) (A : Option Addr) (c : Nat) (w0 w : World) (hn₀ : w0.heap.size ≤ n₀) (hn₁ : n₀ ≤ w.heap.size) (hx : k25.C w0 A x.f3.length x.f3) (hc : x.f3.length ≤ c) (hm : x.f3.length ≤ 4294967296)
  (hw : Below w0.heap.size w0 w) (hB : w.heap[Bm]? = some (.cells #[.int .u8 x.f0, .int .u64 x.f1, .string x.f2, .slice A x.f3.length c] 25 (0, 0))) :
  SeqStopsK Fence.wide n Try.prog 94 #[.pointer (some ⟨Bm, 0, none⟩)] (fun y : Pr w0 x.f3 => #[y.1.1.val, y.1.2.val]) (KpB n₀ Bm) (fun ys => ys.map Pr.f = pairsOf x.f3) (fun pre => pre.map Pr.f <+: pairsOf x.f3) (x.f3.length / 2) w := fun l J Jx W hW hJ _ hY h0 =>
 keys1_in n l Bm n₀ x A c w0 hn₀ hx hc hm J Jx hY W hJ (hw.trans (hW.mono (Nat.le_trans hn₀ hn₁))) ((hW.block Bm (blk_lt hB)).trans hB) h0
theorem keys64_any (x : S25) (A : Option Addr) (c : Nat) (w : World) :
  Calls Try.prog 64 #[.agg #[.int .u8 x.f0, .int .u64 x.f1, .string x.f2, .slice A x.f3.length c]] w fun e w' => e = .returned (.func (.func 94) #[] #[.pointer (some ⟨w.heap.size, 0, none⟩)]) ∧ w' = w.alloc (.cells #[.int .u8 x.f0, .int .u64 x.f1, .string x.f2, .slice A x.f3.length c] 25) := by
 go_enter Try.func64, Try.ntmps64
 go_wp2_with fail
 go_ret
 exact ⟨rfl, rfl⟩
end Go.Proofs.Ytdilbnggedidnaa.PVal
namespace Go.Proofs.Ytdilbnggedidnaa.PVal
open Go.RowKit Go.Proofs.YtdilbnggedidnaaW.PrintWords Go.Proofs.YtdilbnggedidnaaW.PrintLast
set_option linter.unusedVariables false
set_option linter.unusedSimpArgs false
theorem info25v : (Try.prog.info? 25).map (fun i => (i.zero, i.size, i.bytes)) = some (some (.agg #[.int .u8 0, .int .u64 0, .string ⟨#[]⟩, .slice none 0 0]), 4, 56) := by kernel_rfl
def SetsBelow (B : Nat) (w w' : World) : Prop := ∀ k, B ≤ k → w'.heap[k]? = w.heap[k]?
theorem SetsBelow.nil {B : Nat} {w : World} : SetsBelow B w w := fun _ _ => rfl
theorem SetsBelow.snoc {B : Nat} {w w' : World} (h : SetsBelow B w w') {p : Addr} (hp : p.block < B) (u : Value) : SetsBelow B w (w'.setCell p u) := fun k hk => (Below.heap_setCell _ _ u k (by omega)).trans (h k hk)
theorem take_rd {xs : List S25} {i : Int} (h0 : 0 ≤ i) (h1 : i < xs.length) : xs.take (i + 1).toNat = xs.take i.toNat ++ [rd_T25 xs i] := by
 have h : i.toNat < xs.length := by omega
 rw [show (i + 1).toNat = i.toNat + 1 by omega, List.take_succ_eq_append_getElem h]
 unfold rd_T25
 rw [List.getD_eq_getElem?_getD, List.getElem?_eq_getElem h]
 rfl
theorem R_lower_far {e B b : Nat} {w w' : World} {ok : Nat → Prop} {v : Value} {l : List S25} (h : k25.R e w B ok v l) (hb : b ≤ B) (hs : SetsBelow B w w') : k25.R e w' b ok v l :=
 Kd.R_lower (Kd.R_mono (Kd.R_move (Kd.R_bound h) (fun k hk => hs k hk.2.1)) (fun _ hk => hk.1)) hb
def Made (w w' : World) (A : Option Addr) (c : Nat) (l : List S25) : Prop := k25.R 25 w' w.heap.size (fun _ => True) (.slice A l.length c) l ∧ Below w.heap.size w w'
def CopyAt (f : Nat) (x : S25) : Prop := ∀ (A : Option Addr) (c : Nat) (w : World), k25.C w A x.f3.length x.f3 → x.f3.length ≤ c →
 Calls Try.prog f #[.agg #[.int .u8 x.f0, .int .u64 x.f1, .string x.f2, .slice A x.f3.length c]] w fun e w' => ∃ A' c', e = .returned (.agg #[.int .u8 x.f0, .int .u64 x.f1, .string x.f2, .slice A' x.f3.length c']) ∧ Made w w' A' c' x.f3
def CopiesAt (f : Nat) (l : List S25) : Prop := ∀ (A : Option Addr) (c : Nat) (w : World), k25.C w A l.length l → l.length ≤ c →
 Calls Try.prog f #[.slice A l.length c] w fun e w' => ∃ A' c', e = .returned (.slice A' l.length c') ∧ Made w w' A' c' l
theorem copy_of (x : S25) (h : CopiesAt 59 x.f3) : CopyAt 31 x := by
 intro A c w ha hc
 have HA := Aside0.mk ha
 clear ha
 go_enter Try.func31, Try.ntmps31
 go_wp2_with fail
 refine (h A c _ (Kd.C_below HA.out ((((Below.refl _ _).alloc (Nat.le_refl _) _).alloc (by simp) _))) hc).mono ?_
 rintro e w2 ⟨A', c', rfl, hm⟩
 have HM := Aside0.mk hm
 clear hm
 have b1 : w2.heap[w.heap.size]? = some (.cells #[.int .u8 x.f0, .int .u64 x.f1, .string x.f2, .slice A x.f3.length c] 25 (0, 0)) := blk_below (blk_alloc (blk_new _ _) _) HM.out.2
 have b2 : w2.heap[w.heap.size + 1]? = some (.cells #[.int .u8 0, .int .u64 0, .string ⟨#[]⟩, .slice none 0 0] 25 (0, 0)) := by
  refine blk_below ?_ HM.out.2
  have := blk_new (w.alloc (.cells #[.int .u8 x.f0, .int .u64 x.f1, .string x.f2, .slice A x.f3.length c] 25)) (.cells #[.int .u8 0, .int .u64 0, .string ⟨#[]⟩, .slice none 0 0] 25)
  simpa using this
 have hz : w2.heap.size > w.heap.size + 1 := blk_lt b2
 have B1 := Aside0.mk b1
 have B2 := Aside0.mk b2
 have c0 : w2.cell? ⟨w.heap.size, 0, none⟩ = some (.int .u8 x.f0) := (blk_cell b1 0).trans rfl
 have c1 : w2.cell? ⟨w.heap.size, 1, none⟩ = some (.int .u64 x.f1) := (blk_cell b1 1).trans rfl
 have c2 : w2.cell? ⟨w.heap.size, 2, none⟩ = some (.string x.f2) := (blk_cell b1 2).trans rfl
 have c3 : w2.cell? ⟨w.heap.size, 3, none⟩ = some (.slice A x.f3.length c) := (blk_cell b1 3).trans rfl
 have d0 : w2.cell? ⟨w.heap.size + 1, 0, none⟩ = some (.int .u8 0) := (blk_cell b2 0).trans rfl
 have d1 : w2.cell? ⟨w.heap.size + 1, 1, none⟩ = some (.int .u64 0) := (blk_cell b2 1).trans rfl
 have d2 : w2.cell? ⟨w.heap.size + 1, 2, none⟩ = some (.string ⟨#[]⟩) := (blk_cell b2 2).trans rfl
 have d3 : w2.cell? ⟨w.heap.size + 1, 3, none⟩ = some (.slice none 0 0) := (blk_cell b2 3).trans rfl
 have f1 := blk_frozen b1
 have f2 := blk_frozen b2
 clear b1 b2
 go_wp2_with fail
 refine bodyPost_ret (results_cell_row rfl _ _ (w.heap.size + 1) 25 #[.int .u8 x.f0, .int .u64 x.f1, .string x.f2, .slice A' x.f3.length c'] (0, 0) _ rfl (by
  refine blk_put (cs := #[.int .u8 x.f0, .int .u64 x.f1, .string x.f2, .slice none 0 0]) ?_ 3 _ rfl
  refine blk_put (cs := #[.int .u8 x.f0, .int .u64 x.f1, .string ⟨#[]⟩, .slice none 0 0]) ?_ 2 _ rfl
  refine blk_put (cs := #[.int .u8 x.f0, .int .u64 0, .string ⟨#[]⟩, .slice none 0 0]) ?_ 1 _ rfl
  refine blk_put (cs := #[.int .u8 0, .int .u64 0, .string ⟨#[]⟩, .slice none 0 0]) ?_ 0 _ rfl
  exact blk_far B2.out (by simp) _) Try.underlying25 rfl (by kernel_rfl)) rfl ?_
 refine ⟨A', c', rfl, ?_, ?_⟩
 ·refine R_lower_far HM.out.1 (by simp; omega) ?_
  exact (((((SetsBelow.nil).snoc (by simp; omega) _).snoc (by simp) _).snoc (by simp) _).snoc (by simp) _).snoc (by simp) _
 ·exact below_set (below_set (below_set (below_set (below_set (below_step (below_alloc (below_alloc (Below.refl _ _) _) _) HM.out.2) (by simp)) (by simp)) (by simp)) (by simp)) (by simp)
theorem copies_of (l : List S25) (hs : itemsL l ≤ 4294967296) (ih : ∀ x ∈ l, CopyAt 31 x) : CopiesAt 59 l := by
 intro A c w ha hc
 have HA := Aside0.mk ha
 have hm : l.length ≤ 4294967296 := Nat.le_trans (itemsL_length l) hs
 have IH := Aside0.mk ih
 clear ha ih
 go_enter Try.func59, Try.ntmps59
 go_wp2_with fail
 go_loopg [2, 7] l.length (fun gk v2 v7 wr => ∃ (i : Int) (A2 : Option Addr) (n2 c2 : Nat), v2 = .slice A2 n2 c2 ∧ v7 = .int .i64 i ∧ Aside0 (0 ≤ i ∧ i ≤ l.length ∧ gk = l.length - i.toNat ∧ n2 = i.toNat) ∧ Aside0 (k25.R 25 wr w.heap.size (fun _ => True) (.slice A2 n2 c2) (l.take i.toNat)) ∧ Aside0 (Below w.heap.size w wr))
 case atStart => exact ⟨0, none, 0, 0, rfl, rfl, ⟨by omega, by omega, by simp, rfl⟩, ⟨by simpa using Kd.R_nil _ _ _ _ _⟩, ⟨Below.refl _ _⟩⟩
 case round =>
  obtain ⟨i, A2, n2, c2, rfl, rfl, HI, HO, HW⟩ := hrel
  obtain ⟨hi0, hi1, hgk, rfl⟩ := HI.out
  have HG := Aside0.mk hgk
  clear HI hgk
  by_cases hlt : i < l.length
  ·obtain ⟨ad1, A1, c1, e1, hx0, hx1, hx2, hx3, hl1, hC1⟩ := at_T25 (Kd.C_below HA.out HW.out) i hi0 hlt
   cases e1
   have HC1 := Aside0.mk hC1
   have HX := Aside0.mk (IH.out (rd_T25 l i) (rd_mem hi0 hlt))
   clear hC1
   go_wp2_with fail
   refine (HX.out A1 c1 _ (Kd.C_below HC1.out ((Below.refl _ _).alloc (Nat.le_refl _) _)) hl1).mono ?_
   rintro e w2 ⟨A', c', rfl, hm⟩
   have HM := Aside0.mk hm
   clear hm
   have hM : Aside0 (k25.M w2 w.heap.size (fun k => True ∧ some k ≠ (Value.slice A2 i.toNat c2).ownBlock) (rd_T25 l i) [.int .u8 (rd_T25 l i).f0, .int .u64 (rd_T25 l i).f1, .string (rd_T25 l i).f2, .slice A' (rd_T25 l i).f3.length c']) := by
    refine ⟨k25_mkM w2 w.heap.size _ (rd_T25 l i) ?_⟩
    exact Kd.R_lower (Kd.R_newR HM.out.1 (Kd.R_alloc HO.out _)) (Nat.le_trans HW.out.size (by simp))
   have HO2 : Aside0 (k25.R 25 w2 w.heap.size (fun _ => True) (.slice A2 i.toNat c2) (l.take i.toNat)) := ⟨Kd.R_below (Kd.R_alloc HO.out _) HM.out.2⟩
   have HW2 : Aside0 (Below w.heap.size w w2) := ⟨below_step (below_alloc HW.out _) HM.out.2⟩
   have hlt' : (l.take i.toNat).length = i.toNat := by rw [List.length_take]; omega
   have HLT := Aside0.mk hlt'
   clear HO HW HM hlt'
   go_wp2_with (at_builtin; refine Kd.R_append k25 (w0 := w) w.heap.size rfl (.tmp 11) (.tmp 14) 23 25 _ 56 rfl Try.underlying23 info25v rfl (by decide) (by decide) (.slice A2 i.toNat c2) (l.take i.toNat) (rd_T25 l i) [.int .u8 (rd_T25 l i).f0, .int .u64 (rd_T25 l i).f1, .string (rd_T25 l i).f2, .slice A' (rd_T25 l i).f3.length c'] (fun _ => True) _ rfl rfl hM.out (fun _ h => h) (fun _ _ => trivial) HO2.out HW2.out HW2.out.size (by rw [HLT.out]; omega) ?_; intro v1 w3 hR hB hG hA)
   have htk := take_rd hi0 hlt
   rw [← htk] at hR
   obtain ⟨A3, c3, rfl⟩ := Kd.R_slice hR
   have hln : (l.take (i + 1).toNat).length = (i + 1).toNat := by rw [List.length_take]; omega
   go_roundg (l.length - (i + 1).toNat)
   case measure => rw [HG.out]; omega
   case rel => exact ⟨i + 1, A3, (l.take (i + 1).toNat).length, c3, rfl, by go_num, ⟨by omega, by omega, rfl, hln⟩, ⟨hR⟩, ⟨hB⟩⟩
  ·obtain rfl : i = l.length := by omega
   have hO := HO.out
   simp only [Int.toNat_natCast, List.take_length] at hO
   have HO2 := Aside0.mk hO
   clear hO HO
   go_wp2_with fail
   go_ret
   exact ⟨A2, c2, by simp, HO2.out, HW.out⟩
theorem copy_all31 : ∀ (n : Nat), n ≤ 4294967296 → ∀ (x : S25), itemsN x ≤ n → CopyAt 31 x
 | 0, _, x, h => absurd (itemsN_pos x) (by omega)
 | n + 1, hn, x, h => copy_of x (copies_of x.f3 (by rw [itemsN_eq] at h; omega) fun a ha => copy_all31 n (by omega) a (by have := itemsL_mem ha; rw [itemsN_eq] at h; omega))
theorem copy16_of (x : S25) (h : CopiesAt 20 x.f3) : CopyAt 16 x := by
 intro A c w ha hc
 have HA := Aside0.mk ha
 clear ha
 go_enter Try.func16, Try.ntmps16
 go_wp2_with fail
 refine (h A c _ (Kd.C_below HA.out ((((Below.refl _ _).alloc (Nat.le_refl _) _).alloc (by simp) _))) hc).mono ?_
 rintro e w2 ⟨A', c', rfl, hm⟩
 have HM := Aside0.mk hm
 clear hm
 have b1 : w2.heap[w.heap.size]? = some (.cells #[.int .u8 x.f0, .int .u64 x.f1, .string x.f2, .slice A x.f3.length c] 25 (0, 0)) := blk_below (blk_alloc (blk_new _ _) _) HM.out.2
 have b2 : w2.heap[w.heap.size + 1]? = some (.cells #[.int .u8 0, .int .u64 0, .string ⟨#[]⟩, .slice none 0 0] 25 (0, 0)) := by
  refine blk_below ?_ HM.out.2
  have := blk_new (w.alloc (.cells #[.int .u8 x.f0, .int .u64 x.f1, .string x.f2, .slice A x.f3.length c] 25)) (.cells #[.int .u8 0, .int .u64 0, .string ⟨#[]⟩, .slice none 0 0] 25)
  simpa using this
 have hz : w2.heap.size > w.heap.size + 1 := blk_lt b2
 have B1 := Aside0.mk b1
 have B2 := Aside0.mk b2
 have c0 : w2.cell? ⟨w.heap.size, 0, none⟩ = some (.int .u8 x.f0) := (blk_cell b1 0).trans rfl
 have c1 : w2.cell? ⟨w.heap.size, 1, none⟩ = some (.int .u64 x.f1) := (blk_cell b1 1).trans rfl
 have c2 : w2.cell? ⟨w.heap.size, 2, none⟩ = some (.string x.f2) := (blk_cell b1 2).trans rfl
 have c3 : w2.cell? ⟨w.heap.size, 3, none⟩ = some (.slice A x.f3.length c) := (blk_cell b1 3).trans rfl
 have d0 : w2.cell? ⟨w.heap.size + 1, 0, none⟩ = some (.int .u8 0) := (blk_cell b2 0).trans rfl
 have d1 : w2.cell? ⟨w.heap.size + 1, 1, none⟩ = some (.int .u64 0) := (blk_cell b2 1).trans rfl
 have d2 : w2.cell? ⟨w.heap.size + 1, 2, none⟩ = some (.string ⟨#[]⟩) := (blk_cell b2 2).trans rfl
 have d3 : w2.cell? ⟨w.heap.size + 1, 3, none⟩ = some (.slice none 0 0) := (blk_cell b2 3).trans rfl
 have f1 := blk_frozen b1
 have f2 := blk_frozen b2
 clear b1 b2
 go_wp2_with fail
 refine bodyPost_ret (results_cell_row rfl _ _ (w.heap.size + 1) 25 #[.int .u8 x.f0, .int .u64 x.f1, .string x.f2, .slice A' x.f3.length c'] (0, 0) _ rfl (by
  refine blk_put (cs := #[.int .u8 x.f0, .int .u64 x.f1, .string x.f2, .slice none 0 0]) ?_ 3 _ rfl
  refine blk_put (cs := #[.int .u8 x.f0, .int .u64 x.f1, .string ⟨#[]⟩, .slice none 0 0]) ?_ 2 _ rfl
  refine blk_put (cs := #[.int .u8 x.f0, .int .u64 0, .string ⟨#[]⟩, .slice none 0 0]) ?_ 1 _ rfl
  refine blk_put (cs := #[.int .u8 0, .int .u64 0, .string ⟨#[]⟩, .slice none 0 0]) ?_ 0 _ rfl
  exact blk_far B2.out (by simp) _) Try.underlying25 rfl (by kernel_rfl)) rfl ?_
 refine ⟨A', c', rfl, ?_, ?_⟩
 ·refine R_lower_far HM.out.1 (by simp; omega) ?_
  exact (((((SetsBelow.nil).snoc (by simp; omega) _).snoc (by simp) _).snoc (by simp) _).snoc (by simp) _).snoc (by simp) _
 ·exact below_set (below_set (below_set (below_set (below_set (below_step (below_alloc (below_alloc (Below.refl _ _) _) _) HM.out.2) (by simp)) (by simp)) (by simp)) (by simp)) (by simp)
theorem copyAll_of (l : List S25) (hs : itemsL l ≤ 4294967296) (ih : ∀ x ∈ l, CopyAt 16 x) : CopiesAt 20 l := by
 intro A c w ha hc
 have HA := Aside0.mk ha
 have hm : l.length ≤ 4294967296 := Nat.le_trans (itemsL_length l) hs
 have IH := Aside0.mk ih
 clear ha ih
 go_enter Try.func20, Try.ntmps20
 go_wp2_with fail
 go_loopg [3, 4] l.length (fun gk v2 v7 wr => ∃ (i : Int) (A2 : Option Addr) (n2 c2 : Nat), v2 = .slice A2 n2 c2 ∧ v7 = .int .i64 i ∧ Aside0 (0 ≤ i ∧ i ≤ l.length ∧ gk = l.length - i.toNat ∧ n2 = i.toNat) ∧ Aside0 (k25.R 25 wr w.heap.size (fun _ => True) (.slice A2 n2 c2) (l.take i.toNat)) ∧ Aside0 (Below w.heap.size w wr))
 case atStart => exact ⟨0, none, 0, 0, rfl, rfl, ⟨by omega, by omega, by simp, rfl⟩, ⟨by simpa using Kd.R_nil _ _ _ _ _⟩, ⟨Below.refl _ _⟩⟩
 case round =>
  obtain ⟨i, A2, n2, c2, rfl, rfl, HI, HO, HW⟩ := hrel
  obtain ⟨hi0, hi1, hgk, rfl⟩ := HI.out
  have HG := Aside0.mk hgk
  clear HI hgk
  by_cases hlt : i < l.length
  ·obtain ⟨ad1, A1, c1, e1, hx0, hx1, hx2, hx3, hl1, hC1⟩ := at_T25 (Kd.C_below HA.out HW.out) i hi0 hlt
   cases e1
   have HC1 := Aside0.mk hC1
   have HX := Aside0.mk (IH.out (rd_T25 l i) (rd_mem hi0 hlt))
   clear hC1
   go_wp2_with fail
   refine (HX.out A1 c1 _ HC1.out hl1).mono ?_
   rintro e w2 ⟨A', c', rfl, hm⟩
   have HM := Aside0.mk hm
   clear hm
   have hM : Aside0 (k25.M w2 w.heap.size (fun k => True ∧ some k ≠ (Value.slice A2 i.toNat c2).ownBlock) (rd_T25 l i) [.int .u8 (rd_T25 l i).f0, .int .u64 (rd_T25 l i).f1, .string (rd_T25 l i).f2, .slice A' (rd_T25 l i).f3.length c']) := by
    refine ⟨k25_mkM w2 w.heap.size _ (rd_T25 l i) ?_⟩
    exact Kd.R_lower (Kd.R_newR HM.out.1 HO.out) HW.out.size
   have HO2 : Aside0 (k25.R 25 w2 w.heap.size (fun _ => True) (.slice A2 i.toNat c2) (l.take i.toNat)) := ⟨Kd.R_below HO.out HM.out.2⟩
   have HW2 : Aside0 (Below w.heap.size w w2) := ⟨below_step HW.out HM.out.2⟩
   have hlt' : (l.take i.toNat).length = i.toNat := by rw [List.length_take]; omega
   have HLT := Aside0.mk hlt'
   clear HO HW HM hlt'
   go_wp2_with (at_builtin; refine Kd.R_append k25 (w0 := w) w.heap.size rfl (.tmp 11) (.tmp 17) 23 25 _ 56 rfl Try.underlying23 info25v rfl (by decide) (by decide) (.slice A2 i.toNat c2) (l.take i.toNat) (rd_T25 l i) [.int .u8 (rd_T25 l i).f0, .int .u64 (rd_T25 l i).f1, .string (rd_T25 l i).f2, .slice A' (rd_T25 l i).f3.length c'] (fun _ => True) _ rfl rfl hM.out (fun _ h => h) (fun _ _ => trivial) HO2.out HW2.out HW2.out.size (by rw [HLT.out]; omega) ?_; intro v1 w3 hR hB hG hA)
   have htk := take_rd hi0 hlt
   rw [← htk] at hR
   obtain ⟨A3, c3, rfl⟩ := Kd.R_slice hR
   have hln : (l.take (i + 1).toNat).length = (i + 1).toNat := by rw [List.length_take]; omega
   go_roundg (l.length - (i + 1).toNat)
   case measure => rw [HG.out]; omega
   case rel => exact ⟨i + 1, A3, (l.take (i + 1).toNat).length, c3, rfl, by go_num, ⟨by omega, by omega, rfl, hln⟩, ⟨hR⟩, ⟨hB⟩⟩
  ·obtain rfl : i = l.length := by omega
   have hO := HO.out
   simp only [Int.toNat_natCast, List.take_length] at hO
   have HO2 := Aside0.mk hO
   clear hO HO
   go_wp2_with fail
   go_ret
   exact ⟨A2, c2, by simp, HO2.out, HW.out⟩
theorem copy_all16 : ∀ (n : Nat), n ≤ 4294967296 → ∀ (x : S25), itemsN x ≤ n → CopyAt 16 x
 | 0, _, x, h => absurd (itemsN_pos x) (by omega)
 | n + 1, hn, x, h => copy16_of x (copyAll_of x.f3 (by rw [itemsN_eq] at h; omega) fun a ha => copy_all16 n (by omega) a (by have := itemsL_mem ha; rw [itemsN_eq] at h; omega))
theorem copy31_any (x : S25) (h : itemsN x ≤ 4294967296) : CopyAt 31 x := copy_all31 _ (Nat.le_refl _) x h
theorem copy16_any (x : S25) (h : itemsN x ≤ 4294967296) : CopyAt 16 x := copy_all16 _ (Nat.le_refl _) x h
theorem copies59_any (l : List S25) (h : itemsL l ≤ 4294967296) : CopiesAt 59 l := copies_of l h fun x hx => copy31_any x (Nat.le_trans (itemsL_mem hx) h)
theorem copyAll20_any (l : List S25) (h : itemsL l ≤ 4294967296) : CopiesAt 20 l := copyAll_of l h fun x hx => copy16_any x (Nat.le_trans (itemsL_mem hx) h)
end Go.Proofs.Ytdilbnggedidnaa.PVal
namespace Go.Proofs.Ytdilbnggedidnaa.PVal
open Go.RowKit Go.Shelf Go.Proofs.YtdilbnggedidnaaW.PrintWords Go.Proofs.YtdilbnggedidnaaW.PrintLast
set_option linter.unusedVariables false
set_option linter.unusedSimpArgs false
attribute [local go_sem] Oper.semAt_some
def Blk (W : World) (b : Nat) (cs : Array Value) (t : TypeId) : Prop := W.heap[b]? = some (.cells cs t (0, 0))
theorem Blk.own {β : Type} (b : Nat) (t : TypeId) (f : β → Array Value) : Own (fun s W => Blk W b (f s) t) := fun s X Y row hs hg hr =>
 (hg.block b (Array.getElem?_eq_some_iff.1 hs).1 (fun e => by obtain ⟨o, ho, hc⟩ := hr b e.symm; rw [show X.heap[b]? = _ from hs] at ho; cases ho; cases hc)).trans hs
theorem own_and {β : Type} {I J : β → World → Prop} (h : Own I) (h' : Own J) : Own (fun s W => I s W ∧ J s W) := fun s W W' row hs hg hr => ⟨h s W W' row hs.1 hg hr, h' s W W' row hs.2 hg hr⟩
theorem own_pure {β : Type} (p : β → Prop) : Own (fun s (_ : World) => p s) := fun _ _ _ _ hs _ _ => hs
theorem Blk.new (W : World) (cs : Array Value) (t : TypeId) : Blk (W.alloc (.cells cs t)) W.heap.size cs t := blk_new _ _
theorem Blk.alloc {W : World} {b : Nat} {cs : Array Value} {t : TypeId} (h : Blk W b cs t) (o : Obj) : Blk (W.alloc o) b cs t := blk_alloc h o
theorem Blk.below {W W' : World} {b : Nat} {cs : Array Value} {t : TypeId} (h : Blk W b cs t) (hb : Below W.heap.size W W') : Blk W' b cs t := blk_below h hb
theorem Blk.lt {W : World} {b : Nat} {cs : Array Value} {t : TypeId} (h : Blk W b cs t) : b < W.heap.size := blk_lt h
theorem Blk.far {W : World} {b : Nat} {cs : Array Value} {t : TypeId} (h : Blk W b cs t) {p : Addr} (hp : b ≠ p.block) (u : Value) : Blk (W.setCell p u) b cs t := blk_far h hp u
theorem keepsFrom_below {W W' : World} (h : Below W.heap.size W W') (B : Nat) : KeepsFrom B W W' := ⟨h.size, fun k o _ hk _ => (h.block k (Array.getElem?_eq_some_iff.1 hk).1).trans hk⟩
theorem Blk.c4 {W : World} {b : Nat} {a0 a1 a2 a3 : Value} {t : TypeId} (h : Blk W b #[a0, a1, a2, a3] t) : W.cell? ⟨b, 0, none⟩ = some a0 ∧ W.cell? ⟨b, 1, none⟩ = some a1 ∧ W.cell? ⟨b, 2, none⟩ = some a2 ∧ W.cell? ⟨b, 3, none⟩ = some a3 := ⟨(blk_cell h 0).trans rfl, (blk_cell h 1).trans rfl, (blk_cell h 2).trans rfl, (blk_cell h 3).trans rfl⟩
theorem Blk.c1 {W : World} {b : Nat} {a0 : Value} {t : TypeId} (h : Blk W b #[a0] t) : W.cell? ⟨b, 0, none⟩ = some a0 := (blk_cell h 0).trans rfl
theorem Blk.fz {W : World} {b : Nat} {cs : Array Value} {t : TypeId} (h : Blk W b cs t) : ∀ j, W.frozen? ⟨b, j, none⟩ = false := blk_frozen h
end Go.Proofs.Ytdilbnggedidnaa.PVal
namespace Go.Proofs.Ytdilbnggedidnaa.PVal
open Go.RowKit Go.Shelf Go.Proofs.YtdilbnggedidnaaW.PrintWords Go.Proofs.YtdilbnggedidnaaW.PrintLast
set_option linter.unusedVariables false
set_option linter.unusedSimpArgs false
attribute [local go_sem] Oper.semAt_some
def unlikeL : List S25 → List S25 → Bool
 | _, [] => true
 | seen, k :: l => !seen.any (fun s => veq s k) && unlikeL (seen ++ [k]) l
theorem unlikeL_snoc : ∀ (l seen : List S25) (k : S25), unlikeL seen (l ++ [k]) = (unlikeL seen l && !(seen ++ l).any (fun s => veq s k))
 | [], seen, k => by simp [unlikeL]
 | a :: l, seen, k => by
  simp only [List.cons_append, unlikeL, unlikeL_snoc l]
  rw [List.append_assoc, List.singleton_append, Bool.and_assoc]
theorem unlikeL_pre : ∀ (l r seen : List S25), unlikeL seen l = false → unlikeL seen (l ++ r) = false
 | [], r, seen, h => by simp [unlikeL] at h
 | a :: l, r, seen, h => by
  simp only [List.cons_append, unlikeL, Bool.and_eq_false_iff] at h ⊢
  rcases h with h | h
  ·exact .inl h
  ·exact .inr (unlikeL_pre l r _ h)
def unlikeB (m : S25) : Bool := unlikeL [] ((pairsOf m.f3).map (·.1))
theorem pred128_of (b : Nat) (k : S25) (Ak : Option Addr) (ck : Nat) (w : World) (hb : Blk w b #[.int .u8 k.f0, .int .u64 k.f1, .string k.f2, .slice Ak k.f3.length ck] 25) (hk : k25.C w Ak k.f3.length k.f3) (hl : k.f3.length ≤ ck) (x : S25) : Pred128 b (fun s => veq s k) w x := by
 intro A c w' hw ha hc
 have HA := Aside0.mk ha
 have HK := Aside0.mk (Kd.C_below hk hw)
 obtain ⟨q0, q1, q2, q3⟩ := (hb.below hw).c4
 have hlt : b < w'.heap.size := (hb.below hw).lt
 clear ha hk hb hw
 go_enter Try.func128, Try.ntmps128
 go_wp2_with fail
 refine (same_any x k A Ak c ck _ (Kd.C_below HA.out (below_alloc (Below.refl _ _) _)) hc (Kd.C_below HK.out (below_alloc (Below.refl _ _) _)) hl).mono ?_
 rintro e w2 ⟨rfl, hb2⟩
 have HB2 := Aside0.mk hb2
 clear hb2
 go_wp2_with fail
 go_ret
 exact ⟨rfl, below_step (below_alloc (Below.refl _ _) _) HB2.out⟩
theorem results119 (tmps : Array Value) (w : World) (g : Nat) (b : Bool) (hp : tmps.getD 2 undef = .pointer (some ⟨g, 0, none⟩)) (hg : Blk w g #[.bool b] 4) : (results Try.f119 tmps).run Try.prog w = .ok (.bool b) w := by
 have h1 : tmps[2]?.getD undef = .pointer (some ⟨g, 0, none⟩) := by simpa using hp
 have hc : w.cell? ⟨g, 0, none⟩ = some (.bool b) := (blk_cell hg 0).trans rfl
 have h4 := Try.underlying4
 have hr4 : (loadVar 4 ⟨g, 0, none⟩).run Try.prog w = .ok (.bool b) w := by simp [go_sem, h4, hc]
 simp [results, Try.f119, h1, asAddr, hr4]
theorem own_put {w : World} {base e size n cap g : Nat} {xs : List Value} (h : w.ownsRow base e size (.slice (some ⟨g, 0, none⟩) n cap) n xs) (j : Nat) (u : Value) : (w.setCell ⟨g, j, none⟩ u).ownsRow base e size (.slice (some ⟨g, 0, none⟩) n cap) n (xs.set j u) := by
 obtain ⟨h1, h2⟩ := h
 refine ⟨by rw [List.length_set]; exact h1, ?_⟩
 rcases h2 with ⟨h2, _⟩ | ⟨g', cap', cur, hv, hg, hh, hn, hc, hs, ht⟩
 ·cases h2
 ·cases hv
  exact .inr ⟨g, cap, cur.setIfInBounds j u, rfl, hg, blk_put hh j u rfl, hn, hc, by simpa using hs, by rw [Array.toList_setIfInBounds, List.take_set, ht]⟩
theorem set4 {fl : List Value} {n : Nat} (h : fl.length = n * 4) (z0 z1 z2 z3 a0 a1 a2 a3 : Value) : ((((fl ++ [z0, z1, z2, z3]).set (n * 4) a0).set (n * 4 + 1) a1).set (n * 4 + 2) a2).set (n * 4 + 3) a3 = fl ++ [a0, a1, a2, a3] := by
 rw [← h, List.set_append_right _ _ (Nat.le_refl _), List.set_append_right _ _ (by omega), List.set_append_right _ _ (by omega), List.set_append_right _ _ (by omega)]
 simp
theorem own_at {w : World} {base e size n cap g : Nat} {xs : List Value} (h : w.ownsRow base e size (.slice (some ⟨g, 0, none⟩) n cap) n xs) {j : Nat} {u : Value} (hj : xs[j]? = some u) : w.cell? ⟨g, j, none⟩ = some u ∧ w.frozen? ⟨g, j, none⟩ = false := by
 obtain ⟨h1, h2⟩ := h
 rcases h2 with ⟨h2, _⟩ | ⟨g', cap', cur, hv, hg, hh, hn, hc, hs, ht⟩
 ·cases h2
 ·cases hv
  refine ⟨(blk_cell hh j).trans ?_, blk_frozen hh j⟩
  rw [← ht, List.getElem?_take] at hj
  split at hj
  ·simpa using hj
  ·cases hj
structure Six (n₀ base b : Nat) (w w' : World) : Prop where
 others : KeepsOthers w w'
 below : Below n₀ w w'
 same : ∀ k, k < base → k ≠ b → w'.heap[k]? = w.heap[k]?
theorem Six.refl (n₀ base b : Nat) (w : World) : Six n₀ base b w w := ⟨KeepsOthers.refl _, Below.refl _ _, fun _ _ _ => rfl⟩
theorem Six.drew {n₀ base b : Nat} {w w' : World} (h : Six n₀ base b w w') : Six n₀ base b w w'.drew := ⟨h.others.trans (KeepsOthers.drew _), h.below.drew, h.same⟩
theorem Six.set {n₀ base b : Nat} {w w' : World} (h : Six n₀ base b w w') {p : Addr} (hp : base ≤ p.block ∨ p.block = b) (h0 : n₀ ≤ p.block) (u : Value) : Six n₀ base b w (w'.setCell p u) :=
 ⟨h.others.trans (KeepsOthers.setCell _ _ _), h.below.setCell h0 _, fun k hk hb => (Below.heap_setCell _ _ _ k (by omega)).trans (h.same k hk hb)⟩
theorem Six.alloc {n₀ base b : Nat} {w w' : World} (h : Six n₀ base b w w') (hb : base ≤ w'.heap.size) (h0 : n₀ ≤ w'.heap.size) (o : Obj) : Six n₀ base b w (w'.alloc o) :=
 ⟨h.others.trans (KeepsOthers.alloc _ _), h.below.alloc h0 _, fun k hk hn => (Below.heap_alloc _ _ k (by omega)).trans (h.same k hk hn)⟩
theorem Six.grown {n₀ base b e size n : Nat} {w w' w1 : World} {v : Value} {xs : List Value} (h : Six n₀ base b w w') (hn : n₀ ≤ base) (hb : base ≤ w'.heap.size) (hown : w'.ownsRow base e size v n xs) (hg : w'.grownBy w1 v.ownBlock) : Six n₀ base b w w1 := by
 have hrow : ∀ j, v.ownBlock = some j → base ≤ j ∧ ∃ cells, w'.heap[j]? = some (.cells cells e (0, 0)) := fun j hj => ⟨own_base hown j hj, own_typed hown j hj⟩
 refine ⟨h.others.trans (KeepsOthers.of_grownBy hg fun j o ej hj => ?_), h.below.trans ((Below.refl n₀ w').grown hg (by omega) fun j ej => Nat.le_trans hn (hrow j ej).1), fun k hk hkb => (hg.block k (by omega) fun e => by have := (hrow k e.symm).1; omega).trans (h.same k hk hkb)⟩
 obtain ⟨_, cells, hc⟩ := hrow j ej
 rw [hc] at hj; cases hj; rfl
def KvR (w : World) (q : KV) (cs : List Value) : Prop := q.ok w ∧ cs = [.int .u8 q.x.f0, .int .u64 q.x.f1, .string q.x.f2, .slice q.A q.x.f3.length q.c]
theorem C_of_kvs {w W : World} {A : Option Addr} {n : Nat} {ks : List KV} (hb : Below w.heap.size w W) (h : ReadsRow (KvR w) 4 W A n ks) : k25.C W A n (ks.map (·.x)) := by
 refine ⟨by simpa using h.1, h.2.1, fun hn => ?_⟩
 obtain ⟨ad, e, hc⟩ := h.2.2 hn
 refine ⟨ad, e, fun j p hj => ?_⟩
 rw [List.getElem?_map] at hj
 obtain ⟨q, hq, rfl⟩ := Option.map_eq_some_iff.1 hj
 obtain ⟨cs, hs, ⟨hok, rfl⟩, hcell⟩ := hc j q hq
 exact ⟨_, hs, k25_mk W q.x hok.2 (Kd.C_below hok.1 hb), hcell⟩
theorem cf128 (b : Nat) (p : S25 → Bool) (l : List S25) (A : Option Addr) (n c : Nat) (w : World) (hn : n = l.length) (hp : ∀ x ∈ l, Pred128 b p w x) (ha : k25.C w A n l) (hc : n ≤ c) :
  Calls Try.prog 70 #[.slice A n c, .func (.func 128) #[] #[.pointer (some ⟨b, 0, none⟩)]] w fun e w' => e = .returned (.bool (l.any p)) ∧ Below w.heap.size w w' := by
 subst hn
 exact containsFunc_128 b p l A c w hp ha hc
theorem unlike119_any (m : S25) (hs : m.f3.length ≤ 4294967296) (A : Option Addr) (c : Nat) (w : World) (ha : k25.C w A m.f3.length m.f3) (hc : m.f3.length ≤ c) :
  Calls Try.prog 119 #[.agg #[.int .u8 m.f0, .int .u64 m.f1, .string m.f2, .slice A m.f3.length c]] w fun e w' => e = .returned (.bool (unlikeB m)) ∧ Below w.heap.size w w' := by
 refine (callsIn_wide (n := 9)).1 ?_
 have HA := Aside0.mk ha
 have h1 : (1 : Nat) ≤ 9 := by decide
 clear ha
 refine callsIn_of_wp_marks Try.func119 rfl trivial ?_ rfl
 simp only [Try.ntmps119, List.size_toArray, List.length_cons, List.length_nil, Nat.reduceAdd, Nat.reduceSub, Array.replicate_succ, Array.replicate_zero, List.push_toArray, List.append_toArray, List.nil_append, List.cons_append]
 gi_wp2_with (refine ⟨trivial, ?_⟩; gi_at_call 64; refine (callsIn_wide.2 (keys64_any m A c _)).mono ?_; rintro e w' ⟨rfl, rfl⟩)
 have bB : Blk ((((w.alloc (.cells #[.int .u8 m.f0, .int .u64 m.f1, .string m.f2, .slice A m.f3.length c] 25)).alloc (.cells #[.bool false] 4)).alloc (.cells #[.slice none 0 0] 23)).alloc (.cells #[.int .u8 m.f0, .int .u64 m.f1, .string m.f2, .slice A m.f3.length c] 25)) (w.heap.size + 1) #[.bool false] 4 := by
  have := (((Blk.new (w.alloc (.cells #[.int .u8 m.f0, .int .u64 m.f1, .string m.f2, .slice A m.f3.length c] 25)) #[.bool false] 4).alloc (.cells #[.slice none 0 0] 23)).alloc (.cells #[.int .u8 m.f0, .int .u64 m.f1, .string m.f2, .slice A m.f3.length c] 25)); simpa using this
 have bS : Blk ((((w.alloc (.cells #[.int .u8 m.f0, .int .u64 m.f1, .string m.f2, .slice A m.f3.length c] 25)).alloc (.cells #[.bool false] 4)).alloc (.cells #[.slice none 0 0] 23)).alloc (.cells #[.int .u8 m.f0, .int .u64 m.f1, .string m.f2, .slice A m.f3.length c] 25)) (w.heap.size + 1 + 1) #[.slice none 0 0] 23 := by
  have := ((Blk.new ((w.alloc (.cells #[.int .u8 m.f0, .int .u64 m.f1, .string m.f2, .slice A m.f3.length c] 25)).alloc (.cells #[.bool false] 4)) #[.slice none 0 0] 23).alloc (.cells #[.int .u8 m.f0, .int .u64 m.f1, .string m.f2, .slice A m.f3.length c] 25)); simpa using this
 have bI : Blk ((((w.alloc (.cells #[.int .u8 m.f0, .int .u64 m.f1, .string m.f2, .slice A m.f3.length c] 25)).alloc (.cells #[.bool false] 4)).alloc (.cells #[.slice none 0 0] 23)).alloc (.cells #[.int .u8 m.f0, .int .u64 m.f1, .string m.f2, .slice A m.f3.length c] 25)) (w.heap.size + 1 + 1 + 1) #[.int .u8 m.f0, .int .u64 m.f1, .string m.f2, .slice A m.f3.length c] 25 := by
  have := (Blk.new (((w.alloc (.cells #[.int .u8 m.f0, .int .u64 m.f1, .string m.f2, .slice A m.f3.length c] 25)).alloc (.cells #[.bool false] 4)).alloc (.cells #[.slice none 0 0] 23)) #[.int .u8 m.f0, .int .u64 m.f1, .string m.f2, .slice A m.f3.length c] 25); simpa using this
 have hB0 : Below w.heap.size w ((((w.alloc (.cells #[.int .u8 m.f0, .int .u64 m.f1, .string m.f2, .slice A m.f3.length c] 25)).alloc (.cells #[.bool false] 4)).alloc (.cells #[.slice none 0 0] 23)).alloc (.cells #[.int .u8 m.f0, .int .u64 m.f1, .string m.f2, .slice A m.f3.length c] 25)) := below_alloc (below_alloc (below_alloc (below_alloc (Below.refl _ _) _) _) _) _
 have hsz : ((((w.alloc (.cells #[.int .u8 m.f0, .int .u64 m.f1, .string m.f2, .slice A m.f3.length c] 25)).alloc (.cells #[.bool false] 4)).alloc (.cells #[.slice none 0 0] 23)).alloc (.cells #[.int .u8 m.f0, .int .u64 m.f1, .string m.f2, .slice A m.f3.length c] 25)).heap.size = w.heap.size + 4 := by simp
 obtain ⟨W0, hW0⟩ : ∃ W0, ((((w.alloc (.cells #[.int .u8 m.f0, .int .u64 m.f1, .string m.f2, .slice A m.f3.length c] 25)).alloc (.cells #[.bool false] 4)).alloc (.cells #[.slice none 0 0] 23)).alloc (.cells #[.int .u8 m.f0, .int .u64 m.f1, .string m.f2, .slice A m.f3.length c] 25)) = W0 := ⟨_, rfl⟩
 rw [hW0] at bB bS bI hB0 hsz ⊢
 clear hW0
 refine wpIn_rangeFunc_ownH rfl h1 (gf := 94) (lb := #[.pointer (some ⟨w.heap.size + 1 + 1 + 1, 0, none⟩)]) rfl trivial (enters_of Try.func94 (by kernel_rfl) rfl)
  (keys_stops 8 (w.heap.size + 1 + 1 + 1) w.heap.size m A c w W0 (Nat.le_refl _) (by omega) HA.out hc hs hB0 bI) kpB_t (kpB_b (by omega) (by omega)) (Below.refl _ _) (fun _ => rfl)
  (fun pre W => ((unlikeL [] (pre.map (fun p => p.k.x)) = true ∧ W0.heap.size ≤ W.heap.size ∧ Blk W (w.heap.size + 1) #[.bool false] 4 ∧ ∃ (v : Value) (fl : List Value), Blk W (w.heap.size + 1 + 1) #[v] 23 ∧ W.ownsRow W0.heap.size 25 4 v pre.length fl ∧ Reps (KvR w) 4 (pre.map (fun p => p.k)) fl) ∧ Below w.heap.size w W))
  (fun cc pre W => (cc = .ret ∧ unlikeL [] (pre.map (fun p => p.k.x)) = false ∧ Blk W (w.heap.size + 1) #[.bool false] 4) ∧ Below w.heap.size w W)
  (OwnFrom.and (Own.from (fun pre X Y row hs hg hr => by
   obtain ⟨h1, h2, h3, v, fl, h4, h5, h6⟩ := hs
   refine ⟨h1, Nat.le_trans h2 hg.size, Blk.own _ _ (fun (_ : Unit) => #[.bool false]) () X Y row h3 hg hr, v, fl, Blk.own _ _ (fun (_ : Unit) => #[v]) () X Y row h4 hg hr, h5.kept hg ?_, h6⟩
   rcases h5.2 with ⟨rfl, _⟩ | ⟨g, cap, cur, rfl, _, hgb, _⟩
   ·exact .inl rfl
   ·refine .inr fun e' => ?_
    obtain ⟨o, ho, hc⟩ := hr g (by simpa [Value.ownBlock] using e'.symm)
    rw [hgb] at ho; cases ho; cases hc) _) (ownFrom_below (Nat.le_refl _) (by omega)))
  (fun cc => OwnFrom.and (Own.from (own_and (own_pure _) (own_and (own_pure _) (Blk.own _ _ _))) _) (ownFrom_below (Nat.le_refl _) (by omega)))
  ⟨⟨rfl, Nat.le_refl _, bB, .slice none 0 0, [], bS, World.ownsRow_nil _ _ _ _, Reps.none _ _⟩, hB0⟩
  (fun x a' W => ∃ Bx, w.heap.size + 1 + 1 + 1 < Bx ∧ Blk W Bx #[.int .u8 x.1.1.x.f0, .int .u64 x.1.1.x.f1, .string x.1.1.x.f2, .slice x.1.1.A x.1.1.x.f3.length x.1.1.c] 25 ∧ a' = { tmps := #[.agg #[.int .u8 m.f0, .int .u64 m.f1, .string m.f2, .slice A m.f3.length c], .pointer (some ⟨w.heap.size, 0, none⟩), .pointer (some ⟨w.heap.size + 1, 0, none⟩), .pointer (some ⟨w.heap.size + 1 + 1, 0, none⟩), .pointer (some ⟨Bx, 0, none⟩), .agg #[.int .u8 m.f0, .int .u64 m.f1, .string m.f2, .slice A m.f3.length c], .func (.func 94) #[] #[.pointer (some ⟨w.heap.size + 1 + 1 + 1, 0, none⟩)], .agg #[.int .u8 x.1.1.x.f0, .int .u64 x.1.1.x.f1, .string x.1.1.x.f2, .slice x.1.1.A x.1.1.x.f3.length x.1.1.c], .agg #[.int .u8 x.1.2.x.f0, .int .u64 x.1.2.x.f1, .string x.1.2.x.f2, .slice x.1.2.A x.1.2.x.f3.length x.1.2.c], undef, undef, undef, undef, undef, undef, undef, undef, undef], defers := [] })
  (fun x a' _ X Y row hs hg hr => by
   obtain ⟨Bx, h1, h2, h3⟩ := hs
   exact ⟨Bx, h1, Blk.own _ _ (fun (_ : Unit) => #[.int .u8 x.1.1.x.f0, .int .u64 x.1.1.x.f1, .string x.1.1.x.f2, .slice x.1.1.A x.1.1.x.f3.length x.1.1.c]) () X Y row h2 hg (fun r e => (hr r e).2), h3⟩)
  ?assign ?body ?done ?stop
 case assign =>
  rintro l pre x W K ⟨⟨hp, hsW, bB1, v, fl, bS1, hO, hR⟩, hB1⟩ hK
  have hlt : w.heap.size + 1 + 1 + 1 < W.heap.size := by omega
  gi_wp2
  refine hK _ _ ((KeepsOthers.alloc _ _).from _) ⟨below_alloc (Below.refl _ _) _ |>.mono (by omega), ?_⟩ ⟨⟨hp, by simp; omega, bB1.alloc _, v, fl, bS1.alloc _, hO.alloc _, hR⟩, below_alloc hB1 _⟩ ⟨W.heap.size, hlt, Blk.new W _ _, rfl⟩
  exact (below_alloc (Below.refl W.heap.size W) _).block _ hlt
 case body =>
  rintro l pre x a' W hl ⟨r, hr⟩ ⟨⟨hp, hsW, bB1, v, fl, bS1, hO, hRp⟩, hB1⟩ ⟨Bx, hBx, bX, rfl⟩ hlt
  obtain ⟨⟨hx1, hl1⟩, hin⟩ := x.2.1
  obtain ⟨y, hy⟩ : ∃ y, y = x := ⟨x, rfl⟩
  obtain ⟨v1, hv1⟩ : ∃ v1, v1 = x.1.1 := ⟨_, rfl⟩
  have hyv : y.k = v1 := by rw [hy, hv1]; rfl
  rw [← hv1] at hx1 hl1 bX hin
  rw [← hv1, ← hy]
  obtain ⟨v2, hv2⟩ : ∃ v2, v2 = y.1.2 := ⟨_, rfl⟩
  rw [← hv2]
  clear hv2 hv1
  clear hy
  clear x
  obtain ⟨x1, A1, c1⟩ := v1
  dsimp only at hx1 hl1 bX hin ⊢
  have HX1 := Aside0.mk (Kd.C_below hx1 hB1)
  have hok : KV.ok w ⟨x1, A1, c1⟩ := ⟨hx1, hl1⟩
  have hOR : OwnRow (KvR w) 25 4 W W0.heap.size v (pre.map (fun p => p.k)) := ⟨fl, by rw [List.length_map]; exact hO, hRp⟩
  obtain ⟨As, cs, rfl, hcs, hrd⟩ := hOR.reads
  have hC := C_of_kvs hB1 hrd
  rw [List.length_map] at hcs hC hrd
  obtain ⟨q0, q1, q2, q3⟩ := bX.c4
  have s0 := bS1.c1
  rw [List.length_map] at s0
  have HC := Aside0.mk hC
  have HP := Aside0.mk hp
  have HYV := Aside0.mk hyv
  have HPR : Aside0 (∀ x ∈ (pre.map (fun p => p.k)).map (·.x), Pred128 Bx (fun s => veq s x1) W x) := ⟨fun x _ => pred128_of Bx x1 A1 c1 W bX HX1.out hl1 x⟩
  clear hC hrd hOR hp hyv
  gi_wp2_with (refine ⟨trivial, ?_⟩; gi_at_call 70; refine (CallsIn.inRound l (callsIn_wide.2 (cf128 Bx (fun s => veq s x1) _ As pre.length cs _ (by simp) HPR.out HC.out hcs))).mono ?_; rintro e w2 ⟨rfl, hb2⟩; have bB2 := bB1.below hb2; have bX2 := bX.below hb2; have bS2 := bS1.below hb2; obtain ⟨t0, t1, t2, t3⟩ := bX2.c4; have u0 := bB2.c1; have v0 := bS2.c1; rw [List.length_map] at v0; have fB := bB2.fz; have fS := bS2.fz)
  ·rename_i hq
   refine ⟨(keepsFrom_below hb2 _).trans ((KeepsOthers.setCell _ _ _).from _), ⟨rfl, ?_, ?_⟩, below_set (below_step hB1 hb2) (by omega)⟩
   ·rw [List.map_append, List.map_cons, List.map_nil, HYV.out, unlikeL_snoc, HP.out, List.nil_append]
    have : pre.any ((fun s => veq s x1) ∘ (fun p => p.k.x)) = true := hq
    rw [List.any_map, this]
    rfl
   ·exact blk_put bB2 0 _ rfl
  ·rename_i hq
   have hzk := hb2.size
   have hO2 : w2.ownsRow W0.heap.size 25 4 (.slice As pre.length cs) pre.length fl := (own_move (by simpa using hO) (fun k hk => hb2.block k (own_lt (by simpa using hO) k hk)))
   have hpm : pre.length ≤ 4294967296 := by omega
   refine startIn (S := fun w' => w'.cell? ⟨w.heap.size + 1 + 1, 0, none⟩ = some (.slice As pre.length cs) ∧ w'.cell? ⟨Bx, 0, none⟩ = some (.int .u8 x1.f0) ∧ w'.cell? ⟨Bx, 1, none⟩ = some (.int .u64 x1.f1) ∧ w'.cell? ⟨Bx, 2, none⟩ = some (.string x1.f2) ∧ w'.cell? ⟨Bx, 3, none⟩ = some (.slice A1 x1.f3.length c1)) [4, 6, 7] l #[ff,ff,ff,ff,ff,ff,ff,ff] (by kernel_rfl) (by simp) (by rintro ⟨_, _, h⟩; exact h) rfl rfl ?_
   have hS : w2.drew.cell? ⟨w.heap.size + 1 + 1, 0, none⟩ = some (.slice As pre.length cs) ∧ w2.drew.cell? ⟨Bx, 0, none⟩ = some (.int .u8 x1.f0) ∧ w2.drew.cell? ⟨Bx, 1, none⟩ = some (.int .u64 x1.f1) ∧ w2.drew.cell? ⟨Bx, 2, none⟩ = some (.string x1.f2) ∧ w2.drew.cell? ⟨Bx, 3, none⟩ = some (.slice A1 x1.f3.length c1) := ⟨v0, t0, t1, t2, t3⟩
   refine take_ (i := 0) (N := some 12) (v := .slice As pre.length cs) #[tt,ff,ff,ff,ff,ff,ff,ff] rfl rfl (by kernel_rfl) (fun _ _ _ h => h) (Or.inl ⟨by rfl, ?_⟩) hS rfl ?_
   ·rintro w' ⟨e0, e1, e2, e3, e4⟩
    go_simp
   refine take_ (i := 1) (N := some 13) (v := .agg #[.int .u8 x1.f0, .int .u64 x1.f1, .string x1.f2, .slice A1 x1.f3.length c1]) #[tt,tt,ff,ff,ff,ff,ff,ff] rfl rfl (by kernel_rfl) (fun _ _ _ h => h) (Or.inl ⟨by rfl, ?_⟩) hS rfl ?_
   ·rintro w' ⟨e0, e1, e2, e3, e4⟩
    go_simp
   refine pure_ (i := 2) (N := some 14) (v := .int .i64 (pre.length : Int)) #[tt,tt,tt,ff,ff,ff,ff,ff] rfl rfl (by kernel_rfl) (fun _ _ _ h => h) (Or.inl ⟨by rfl, ?_⟩) rfl ?_
   ·intro w'
    go_simp
   refine norm_ (a' := ?_) ?_ ?_
   rotate_left
   ·try simp only [Act.put, List.setIfInBounds_toArray, List.set_cons_zero, List.set_cons_succ]
    rfl
   refine one_ (i := 3) (N := some 15) #[tt,tt,tt,tt,ff,ff,ff,ff] rfl rfl (by kernel_rfl) (by decide) (fun K hK => ?_)
   rw [if_pos (by rfl)]
   unfold Oper.wp
   go_simp
   have bZ : Blk (w2.alloc (.cells #[.int .u8 0, .int .u64 0, .string ⟨#[]⟩, .slice none 0 0] 25)).drew w2.heap.size #[.int .u8 0, .int .u64 0, .string ⟨#[]⟩, .slice none 0 0] 25 := Blk.new w2 _ _
   have hb3 : Six w.heap.size W0.heap.size (w.heap.size + 1 + 1) w2 (w2.alloc (.cells #[.int .u8 0, .int .u64 0, .string ⟨#[]⟩, .slice none 0 0] 25)).drew := ((Six.refl _ _ _ _).alloc (by omega) (by omega) _).drew
   have hO3 : (w2.alloc (.cells #[.int .u8 0, .int .u64 0, .string ⟨#[]⟩, .slice none 0 0] 25)).drew.ownsRow W0.heap.size 25 4 (.slice As pre.length cs) pre.length fl := own_alloc hO2 _
   have bS3 : Blk (w2.alloc (.cells #[.int .u8 0, .int .u64 0, .string ⟨#[]⟩, .slice none 0 0] 25)).drew (w.heap.size + 1 + 1) #[.slice As pre.length cs] 23 := by have := bS2.alloc (.cells #[.int .u8 0, .int .u64 0, .string ⟨#[]⟩, .slice none 0 0] 25); rw [List.length_map] at this; exact this
   have bX3 : Blk (w2.alloc (.cells #[.int .u8 0, .int .u64 0, .string ⟨#[]⟩, .slice none 0 0] 25)).drew Bx #[.int .u8 x1.f0, .int .u64 x1.f1, .string x1.f2, .slice A1 x1.f3.length c1] 25 := bX2.alloc _
   obtain ⟨W3, hW3⟩ : ∃ W3, (w2.alloc (.cells #[.int .u8 0, .int .u64 0, .string ⟨#[]⟩, .slice none 0 0] 25)).drew = W3 := ⟨_, rfl⟩
   have hs3 : W3.heap.size = w2.heap.size + 1 := by rw [← hW3]; simp [World.drew]
   rw [hW3] at bZ hb3 hO3 bS3 bX3 ⊢
   clear hW3
   refine hK.out _ _ ⟨bS3.c1, bX3.c4.1, bX3.c4.2.1, bX3.c4.2.2.1, bX3.c4.2.2.2⟩ (fun _ => ?_)
   clear hK K
   refine norm_ (a' := ?_) ?_ ?_
   rotate_left
   ·try simp only [Act.put, List.setIfInBounds_toArray, List.set_cons_zero, List.set_cons_succ]
    rfl
   refine last_ (i := 4) (N := some 16) #[tt,tt,tt,tt,tt,ff,ff,ff] rfl rfl (by kernel_rfl) (by decide) (fun K hK => ?_)
   rw [if_pos (by rfl)]
   obtain ⟨i0, hi, hz, hsz0, hbz⟩ := info_parts info25v
   refine wp_append_lies W3 (.tmp 12) (.tmp 15) 23 rfl W0.heap.size 25 i0 (.agg #[.int .u8 0, .int .u64 0, .string ⟨#[]⟩, .slice none 0 0]) 4 56 Try.underlying23 hi hz hsz0 hbz rfl (by decide) (.slice As pre.length cs) pre.length fl rfl hO3 ⟨w2.heap.size, 0, none⟩ 1 1 [.int .u8 0, .int .u64 0, .string ⟨#[]⟩, .slice none 0 0] rfl rfl (World.news_of_block bZ) (by simp [Value.oneCell']) (by decide) (by unfold maxLen; omega) (by omega) (by omega) _ rfl ?_
   intro g cap w4 hO4 hgrow hat hlt4
   have hb4 : Six w.heap.size W0.heap.size (w.heap.size + 1 + 1) w2 w4 := hb3.grown (by omega) (by omega) hO3 hgrow
   have bS4 : Blk w4 (w.heap.size + 1 + 1) #[.slice As pre.length cs] 23 := (hgrow.block _ bS3.lt (by
    intro e
    have := own_base hO3 _ e.symm
    omega)).trans bS3
   refine hK.out _ _ ?_
   clear hK K
   refine norm_ (a' := ?_) ?_ ?_
   rotate_left
   ·try simp only [Act.put, List.setIfInBounds_toArray, List.set_cons_zero, List.set_cons_succ]
    rfl
   have ht1 : (0 : Int) ≤ (pre.length : Int) := by omega
   have ht2 : (pre.length : Int) < ((pre.length + 1 : Nat) : Int) := by omega
   have hfl : fl.length = pre.length * 4 := hO3.1
   have hg : W0.heap.size ≤ g := own_base hO4 g rfl
   obtain ⟨y0, z0⟩ := own_at hO4 (j := pre.length * 4) (u := .int .u8 0) (by rw [List.getElem?_append_right (by omega), hfl, Nat.sub_self]; rfl)
   obtain ⟨y1, z1⟩ := own_at hO4 (j := pre.length * 4 + 1) (u := .int .u64 0) (by rw [List.getElem?_append_right (by omega), hfl, Nat.add_sub_cancel_left]; rfl)
   obtain ⟨y2, z2⟩ := own_at hO4 (j := pre.length * 4 + 2) (u := .string ⟨#[]⟩) (by rw [List.getElem?_append_right (by omega), hfl, Nat.add_sub_cancel_left]; rfl)
   obtain ⟨y3, z3⟩ := own_at hO4 (j := pre.length * 4 + 3) (u := .slice none 0 0) (by rw [List.getElem?_append_right (by omega), hfl, Nat.add_sub_cancel_left]; rfl)
   have y4 := bS4.c1
   have z4 := bS4.fz 0
   have hgs : ¬ g = w.heap.size + 1 + 1 := by omega
   have hgs' : ¬ w.heap.size + 1 + 1 = g := by omega
   have HFIN : Aside0 (∀ wF, Six w.heap.size W0.heap.size (w.heap.size + 1 + 1) w2 wF → Blk wF (w.heap.size + 1 + 1) #[(.slice (some ⟨g, 0, none⟩) (pre.length + 1) cap)] 23 → wF.ownsRow W0.heap.size 25 4 (.slice (some ⟨g, 0, none⟩) (pre.length + 1) cap) (pre.length + 1) (fl ++ [.int .u8 x1.f0, .int .u64 x1.f1, .string x1.f2, .slice A1 x1.f3.length c1]) → KeepsFrom W0.heap.size W wF ∧ KpB w.heap.size (w.heap.size + 1 + 1 + 1) W wF ∧ (unlikeL [] ((pre ++ [y]).map (fun p => p.k.x)) = true ∧ W0.heap.size ≤ wF.heap.size ∧ Blk wF (w.heap.size + 1) #[.bool false] 4 ∧ ∃ (v : Value) (fl : List Value), Blk wF (w.heap.size + 1 + 1) #[v] 23 ∧ wF.ownsRow W0.heap.size 25 4 v (pre ++ [y]).length fl ∧ Reps (KvR w) 4 ((pre ++ [y]).map (fun p => p.k)) fl) ∧ Below w.heap.size w wF) := ⟨fun wF h6 hbF hOF => by
    have hB6 : Below w.heap.size W wF := (hb2.mono hB1.size).trans h6.below
    refine ⟨(keepsFrom_below hb2 _).trans (h6.others.from _), ⟨hB6, (h6.same _ (by omega) (by omega)).trans (hb2.block _ (by omega))⟩, ⟨?_, ?_, (h6.same _ (by omega) (by omega)).trans bB2, _, fl ++ [.int .u8 x1.f0, .int .u64 x1.f1, .string x1.f2, .slice A1 x1.f3.length c1], hbF, ?_, ?_⟩, hB1.trans hB6⟩
    ·rw [List.map_append, List.map_cons, List.map_nil, HYV.out, unlikeL_snoc, HP.out, List.nil_append]
     have : pre.any ((fun s => veq s x1) ∘ (fun p => p.k.x)) = false := hq
     rw [List.any_map, this]
     rfl
    ·exact Nat.le_trans hsW (Nat.le_trans hb2.size h6.others.size)
    ·rw [List.length_append]; exact hOF
    ·rw [List.map_append, List.map_cons, List.map_nil, HYV.out]
     exact hRp.snoc ⟨hok, rfl⟩ rfl⟩
   refine pure_ (i := 5) (N := some 17) (v := .pointer (some ⟨g, pre.length * 4, none⟩)) #[tt,tt,tt,tt,tt,tt,ff,ff] rfl rfl (by kernel_rfl) (fun _ _ _ h => h) (Or.inl ⟨by rfl, ?_⟩) rfl ?_
   ·intro w'
    go_simp
    intro h
    omega
   refine norm_ (a' := ?_) ?_ ?_
   rotate_left
   ·try simp only [Act.put, List.setIfInBounds_toArray, List.set_cons_zero, List.set_cons_succ]
    rfl
   refine wpAnyLast_ready (rs := [6, 7]) (by kernel_rfl) (by simp) (AllReadyL.cons_last rfl (by simp) (fun K hK => ?_) (AllReadyL.cons_last rfl (by simp) (fun K hK => ?_) AllReadyL.nil))
   ·rw [if_pos (by rfl)]
    unfold Oper.wp
    go_simp
    refine hK.out _ _ ?_
    clear hK K
    refine norm_ (a' := ?_) ?_ ?_
    rotate_left
    ·try simp only [Act.put, List.setIfInBounds_toArray, List.set_cons_zero, List.set_cons_succ]
     rfl
    refine last_ (i := 7) (N := none) #[tt,tt,tt,tt,tt,tt,tt,tt] rfl rfl (by kernel_rfl) (by decide) (fun K hK => ?_)
    rw [if_pos (by rfl)]
    unfold Oper.wp
    go_simp
    refine hK.out _ _ ?_
    refine done_ (by kernel_rfl) ?_
    refine HFIN.out _ (((((hb4.set (.inl hg) (show _ ≤ g by omega) _).set (.inl hg) (show _ ≤ g by omega) _).set (.inl hg) (show _ ≤ g by omega) _).set (.inl hg) (show _ ≤ g by omega) _).set (.inr rfl) (show w.heap.size ≤ w.heap.size + 1 + 1 by omega) _) ?_ ?_
    ·exact blk_put (Blk.far (Blk.far (Blk.far (Blk.far bS4 hgs' _) hgs' _) hgs' _) hgs' _) 0 _ rfl
    ·have := own_put (own_put (own_put (own_put hO4 (pre.length * 4) (.int .u8 x1.f0)) (pre.length * 4 + 1) (.int .u64 x1.f1)) (pre.length * 4 + 2) (.string x1.f2)) (pre.length * 4 + 3) (.slice A1 x1.f3.length c1)
     rw [set4 hfl] at this
     exact own_setCell this (by simp [Value.ownBlock]; omega) _
   ·rw [if_pos (by rfl)]
    unfold Oper.wp
    go_simp
    refine hK.out _ _ ?_
    clear hK K
    refine norm_ (a' := ?_) ?_ ?_
    rotate_left
    ·try simp only [Act.put, List.setIfInBounds_toArray, List.set_cons_zero, List.set_cons_succ]
     rfl
    refine last_ (i := 6) (N := none) #[tt,tt,tt,tt,tt,tt,tt,tt] rfl rfl (by kernel_rfl) (by decide) (fun K hK => ?_)
    rw [if_pos (by rfl)]
    unfold Oper.wp
    go_simp
    refine hK.out _ _ ?_
    refine done_ (by kernel_rfl) ?_
    refine HFIN.out _ (((((hb4.set (.inr rfl) (show w.heap.size ≤ w.heap.size + 1 + 1 by omega) _).set (.inl hg) (show _ ≤ g by omega) _).set (.inl hg) (show _ ≤ g by omega) _).set (.inl hg) (show _ ≤ g by omega) _).set (.inl hg) (show _ ≤ g by omega) _) ?_ ?_
    ·exact Blk.far (Blk.far (Blk.far (Blk.far (blk_put bS4 0 _ rfl) hgs' _) hgs' _) hgs' _) hgs' _
    ·have h4 : (w4.setCell ⟨w.heap.size + 1 + 1, 0, none⟩ (.slice (some ⟨g, 0, none⟩) (pre.length + 1) cap)).ownsRow W0.heap.size 25 4 (.slice (some ⟨g, 0, none⟩) (pre.length + 1) cap) (pre.length + 1) _ := own_setCell hO4 (by simp [Value.ownBlock]; omega) _
     have := own_put (own_put (own_put (own_put h4 (pre.length * 4) (.int .u8 x1.f0)) (pre.length * 4 + 1) (.int .u64 x1.f1)) (pre.length * 4 + 2) (.string x1.f2)) (pre.length * 4 + 3) (.slice A1 x1.f3.length c1)
     rw [set4 hfl] at this
     exact this
 case done =>
  rintro D ys W hD hys ⟨⟨hp, hsW, bB1, v, fl, bS1, hO, hR⟩, hB1⟩ hK
  have u0 := bB1.c1
  have fB := bB1.fz
  gi_wp2
  have hK' := (KeepsOthers.setCell W ⟨w.heap.size + 1, 0, none⟩ (.bool true)).same D _ hK rfl
  refine ⟨by simp, .inl ⟨_, _, rfl, run_takeDeferred hK', ?_⟩⟩
  have bB3 : Blk (W.setCell ⟨w.heap.size + 1, 0, none⟩ (.bool true)) (w.heap.size + 1) #[.bool true] 4 := blk_put bB1 0 _ rfl
  have bB4 := Blk.own _ _ (fun (_ : Unit) => _) () _ _ _ bB3 (grownBy_putObj' _ D (.deferred none)) (fun r e => by cases e; exact ⟨_, hK', rfl⟩)
  have hu : unlikeB m = true := by
   unfold unlikeB
   rw [← hys, List.map_map]
   exact hp
  refine ⟨_, results119 _ _ (w.heap.size + 1) true rfl bB4, by rw [hu], (below_set hB1 (by omega)).trans (belowK_b (w := w) (Nat.le_refl _) _ D _ _ (by omega) hK' rfl rfl)⟩
 case stop =>
  rintro D cc pre W hD hS ⟨⟨rfl, hp, bB1⟩, hB1⟩ hK
  gi_wp2
  refine ⟨by simp, .inl ⟨_, _, rfl, run_takeDeferred hK, ?_⟩⟩
  have bB4 := Blk.own _ _ (fun (_ : Unit) => _) () _ _ _ bB1 (grownBy_putObj' _ D (.deferred none)) (fun r e => by cases e; exact ⟨_, hK, rfl⟩)
  obtain ⟨rest, hrest⟩ := hS
  have hu : unlikeB m = false := by
   unfold unlikeB
   rw [← hrest, List.map_append, List.map_map]
   exact unlikeL_pre _ _ _ hp
  refine ⟨_, results119 _ _ (w.heap.size + 1) false rfl bB4, by rw [hu], hB1.trans (belowK_b (w := w) (Nat.le_refl _) _ D _ _ (by omega) hK rfl rfl)⟩
end Go.Proofs.Ytdilbnggedidnaa.PVal
namespace Go.Proofs.Ytdilbnggedidnaa.PVal
def isChar (x : Int) : Bool := decide (0 ≤ x ∧ (x < 55296 ∨ 57343 < x ∧ x ≤ 1114111))
def moreN (x : Int) : Nat := if x ≤ 127 then 0 else if x ≤ 2047 then 1 else if x ≤ 65535 then 2 else 3
def oneP (x : Int) : List Int :=
 if x < 128 then [x] else if x < 2048 then [192 + x / 64, 128 + x % 64] else if x < 65536 then [224 + x / 4096, 128 + x / 64 % 64, 128 + x % 64]
 else [240 + x / 262144, 128 + x / 4096 % 64, 128 + x / 64 % 64, 128 + x % 64]
def headP (x : Int) : Option (Int × Nat) :=
 if x < 128 then some (x, 0) else if x ≥ 248 then none else if x < 192 then none else if x ≥ 240 then some (x % 8, 3) else if x ≥ 224 then some (x % 16, 2) else some (x % 32, 1)
def tailP : Nat → Int → List Int → Option Int
 | 0, c, _ => some c
 | _ + 1, _, [] => none
 | n + 1, c, y :: t => if y / 64 = 2 then tailP n (64 * c + y % 64) t else none
def charP : List Int → Option (Int × Nat)
 | [] => none
 | x :: t => match headP x with
  | none => none
  | some (c, n) => if t.length < n then none else match tailP n c t with
   | none => none
   | some c => if isChar c && moreN c == n then some (c, n + 1) else none
def charsF : Nat → List Int → Option (List Int)
 | _, [] => some []
 | 0, _ => none
 | k + 1, b => match charP b with
  | none => none
  | some (c, m) => (charsF k (b.drop m)).map (c :: ·)
def bytesR (l : List Int) : Prop := ∀ x ∈ l, 0 ≤ x ∧ x ≤ 255
def textR (b : List Int) : Bool := (charsF b.length b).isSome
theorem oneP_pos (x : Int) : 1 ≤ (oneP x).length := by by_cases h1 : x < 128 <;> by_cases h2 : x < 2048 <;> by_cases h3 : x < 65536 <;> simp [oneP, h1, h2, h3]
theorem charP_one {x : Int} (h : isChar x = true) (rest : List Int) : charP (oneP x ++ rest) = some (x, (oneP x).length) := by
 simp only [isChar, decide_eq_true_eq] at h
 have hx := h
 unfold oneP
 by_cases h1 : x < 128
 ·rw [if_pos h1]
  have m1 : moreN x = 0 := by unfold moreN; rw [if_pos (by omega)]
  have hc : isChar x = true := by simp [isChar]; omega
  simp only [List.cons_append, List.nil_append, charP, headP]
  rw [if_pos h1]
  simp [tailP, hc, m1]
 ·rw [if_neg h1]
  by_cases h2 : x < 2048
  ·rw [if_pos h2]
   have m1 : moreN x = 1 := by unfold moreN; rw [if_neg (by omega), if_pos (by omega)]
   have hc : isChar x = true := by simp [isChar]; omega
   simp only [List.cons_append, List.nil_append, charP, headP]
   rw [if_neg (by omega), if_neg (by omega), if_neg (by omega), if_neg (by omega), if_neg (by omega)]
   simp only [List.length_cons]
   rw [if_neg (by omega)]
   simp only [tailP]
   rw [if_pos (by omega)]
   have e : 64 * ((192 + x / 64) % 32) + (128 + x % 64) % 64 = x := by omega
   simp only [e, hc, m1]
   simp
  ·rw [if_neg h2]
   by_cases h3 : x < 65536
   ·rw [if_pos h3]
    have m1 : moreN x = 2 := by unfold moreN; rw [if_neg (by omega), if_neg (by omega), if_pos (by omega)]
    have hc : isChar x = true := by simp [isChar]; omega
    simp only [List.cons_append, List.nil_append, charP, headP]
    rw [if_neg (by omega), if_neg (by omega), if_neg (by omega), if_neg (by omega), if_pos (by omega)]
    simp only [List.length_cons]
    rw [if_neg (by omega)]
    simp only [tailP]
    rw [if_pos (by omega), if_pos (by omega)]
    have e : 64 * (64 * ((224 + x / 4096) % 16) + (128 + x / 64 % 64) % 64) + (128 + x % 64) % 64 = x := by omega
    simp only [e, hc, m1]
    simp
   ·rw [if_neg h3]
    have m1 : moreN x = 3 := by unfold moreN; rw [if_neg (by omega), if_neg (by omega), if_neg (by omega)]
    have hc : isChar x = true := by simp [isChar]; omega
    simp only [List.cons_append, List.nil_append, charP, headP]
    rw [if_neg (by omega), if_neg (by omega), if_neg (by omega), if_pos (by omega)]
    simp only [List.length_cons]
    rw [if_neg (by omega)]
    simp only [tailP]
    rw [if_pos (by omega), if_pos (by omega), if_pos (by omega)]
    have e : 64 * (64 * (64 * ((240 + x / 262144) % 8) + (128 + x / 4096 % 64) % 64) + (128 + x / 64 % 64) % 64) + (128 + x % 64) % 64 = x := by omega
    simp only [e, hc, m1]
    simp
theorem one_charP {b : List Int} (hb : bytesR b) {c : Int} {m : Nat} (h : charP b = some (c, m)) : isChar c = true ∧ m = (oneP c).length ∧ b = oneP c ++ b.drop m := by
 cases b with
 | nil => simp [charP] at h
 | cons x t =>
  have hx := hb x (by simp)
  simp only [charP, headP] at h
  by_cases h1 : x < 128
  ·rw [if_pos h1] at h
   simp only [tailP] at h
   rw [if_neg (by omega)] at h
   split at h
   ·rename_i hc
    simp only [Bool.and_eq_true, beq_iff_eq] at hc
    simp only [Option.some.injEq, Prod.mk.injEq] at h
    obtain ⟨rfl, rfl⟩ := h
    refine ⟨hc.1, ?_, ?_⟩ <;> simp [oneP, h1]
   ·simp at h
  ·rw [if_neg h1] at h
   by_cases h2 : x ≥ 248
   ·rw [if_pos h2] at h; simp at h
   ·rw [if_neg h2] at h
    by_cases h3 : x < 192
    ·rw [if_pos h3] at h; simp at h
    ·rw [if_neg h3] at h
     by_cases h4 : x ≥ 240
     ·rw [if_pos h4] at h
      simp only at h
      split at h
      ·simp at h
      ·rename_i hl
       match t, hl with
       | [], hl => simp at hl
       | [_], hl => simp at hl
       | [_, _], hl => simp at hl
       | y0 :: y1 :: y2 :: t, _ =>
        simp only [tailP] at h
        have r0 := hb y0 (by simp)
        have r1 := hb y1 (by simp)
        have r2 := hb y2 (by simp)
        by_cases g0 : y0 / 64 = 2
        ·by_cases g1 : y1 / 64 = 2
         ·by_cases g2 : y2 / 64 = 2
          ·rw [if_pos g0, if_pos g1, if_pos g2] at h
           simp only at h
           split at h
           ·rename_i hc
            simp only [Bool.and_eq_true, beq_iff_eq] at hc
            simp only [Option.some.injEq, Prod.mk.injEq] at h
            obtain ⟨rfl, rfl⟩ := h
            obtain ⟨hc, hm⟩ := hc
            have n1 : ¬ 64 * (64 * (64 * (x % 8) + y0 % 64) + y1 % 64) + y2 % 64 < 65536 := by
             intro hlt
             unfold moreN at hm
             split at hm <;> try omega
             split at hm <;> try omega
             split at hm <;> omega
            refine ⟨hc, ?_, ?_⟩
            ·unfold oneP; rw [if_neg (by omega), if_neg (by omega), if_neg n1]; rfl
            ·unfold oneP; rw [if_neg (by omega), if_neg (by omega), if_neg n1]
             simp only [List.drop_succ_cons, List.drop_zero, List.cons_append, List.nil_append, List.cons.injEq, and_true]
             refine ⟨?_, ?_, ?_, ?_⟩ <;> omega
           ·simp at h
          ·rw [if_pos g0, if_pos g1, if_neg g2] at h; simp at h
         ·rw [if_pos g0, if_neg g1] at h; simp at h
        ·rw [if_neg g0] at h; simp at h
     ·rw [if_neg h4] at h
      by_cases h5 : x ≥ 224
      ·rw [if_pos h5] at h
       simp only at h
       split at h
       ·simp at h
       ·rename_i hl
        match t, hl with
        | [], hl => simp at hl
        | [_], hl => simp at hl
        | y0 :: y1 :: t, _ =>
         simp only [tailP] at h
         have r0 := hb y0 (by simp)
         have r1 := hb y1 (by simp)
         by_cases g0 : y0 / 64 = 2
         ·by_cases g1 : y1 / 64 = 2
          ·rw [if_pos g0, if_pos g1] at h
           simp only at h
           split at h
           ·rename_i hc
            simp only [Bool.and_eq_true, beq_iff_eq] at hc
            simp only [Option.some.injEq, Prod.mk.injEq] at h
            obtain ⟨rfl, rfl⟩ := h
            obtain ⟨hc, hm⟩ := hc
            have n1 : ¬ 64 * (64 * (x % 16) + y0 % 64) + y1 % 64 < 2048 := by
             intro hlt
             unfold moreN at hm
             split at hm <;> try omega
             split at hm <;> omega
            refine ⟨hc, ?_, ?_⟩
            ·unfold oneP; rw [if_neg (by omega), if_neg n1, if_pos (by omega)]; rfl
            ·unfold oneP; rw [if_neg (by omega), if_neg n1, if_pos (by omega)]
             simp only [List.drop_succ_cons, List.drop_zero, List.cons_append, List.nil_append, List.cons.injEq, and_true]
             refine ⟨?_, ?_, ?_⟩ <;> omega
           ·simp at h
          ·rw [if_pos g0, if_neg g1] at h; simp at h
         ·rw [if_neg g0] at h; simp at h
      ·rw [if_neg h5] at h
       simp only at h
       split at h
       ·simp at h
       ·rename_i hl
        match t, hl with
        | [], hl => simp at hl
        | y0 :: t, _ =>
         simp only [tailP] at h
         have r0 := hb y0 (by simp)
         by_cases g0 : y0 / 64 = 2
         ·rw [if_pos g0] at h
          simp only at h
          split at h
          ·rename_i hc
           simp only [Bool.and_eq_true, beq_iff_eq] at hc
           simp only [Option.some.injEq, Prod.mk.injEq] at h
           obtain ⟨rfl, rfl⟩ := h
           obtain ⟨hc, hm⟩ := hc
           have n1 : ¬ 64 * (x % 32) + y0 % 64 < 128 := by
            intro hlt
            unfold moreN at hm
            split at hm <;> omega
           refine ⟨hc, ?_, ?_⟩
           ·unfold oneP; rw [if_neg n1, if_pos (by omega)]; rfl
           ·unfold oneP; rw [if_neg n1, if_pos (by omega)]
            simp only [List.drop_succ_cons, List.drop_zero, List.cons_append, List.nil_append, List.cons.injEq, and_true]
            refine ⟨?_, ?_⟩ <;> omega
          ·simp at h
         ·rw [if_neg g0] at h; simp at h
theorem bytesR_drop {b : List Int} (h : bytesR b) (m : Nat) : bytesR (b.drop m) := fun x hx => h x (List.mem_of_mem_drop hx)
theorem charsF_of : ∀ (l : List Int) (k : Nat), (∀ c ∈ l, isChar c = true) → (l.flatMap oneP).length ≤ k → charsF k (l.flatMap oneP) = some l
 | [], k, _, _ => by cases k <;> simp [charsF]
 | c :: l, k, h, hk => by
  have hc := h c (by simp)
  have hp := oneP_pos c
  simp only [List.flatMap_cons, List.length_append] at hk ⊢
  obtain ⟨k, rfl⟩ : ∃ m, k = m + 1 := ⟨k - 1, by omega⟩
  have hne : oneP c ++ l.flatMap oneP ≠ [] := by
   intro e
   have := congrArg List.length e
   simp at this; simp [this.1] at hp
  obtain ⟨y, r, hy⟩ := List.exists_cons_of_ne_nil hne
  have h1 := charP_one hc (l.flatMap oneP)
  have ih := charsF_of l k (fun c hc => h c (by simp [hc])) (by omega)
  rw [hy] at h1 ⊢
  simp only [charsF, h1]
  rw [← hy, List.drop_left, ih]
  rfl
theorem of_charsF : ∀ (k : Nat) (b : List Int), bytesR b → ∀ l, charsF k b = some l → (∀ c ∈ l, isChar c = true) ∧ b = l.flatMap oneP
 | k, [], _, l, h => by
  cases k <;> (simp only [charsF, Option.some.injEq] at h; subst h; simp)
 | 0, _ :: _, _, l, h => by simp [charsF] at h
 | k + 1, x :: t, hb, l, h => by
  simp only [charsF] at h
  cases hp : charP (x :: t) with
  | none => rw [hp] at h; simp at h
  | some p =>
   obtain ⟨c, m⟩ := p
   rw [hp] at h
   simp only [Option.map_eq_some_iff] at h
   obtain ⟨l', hl', rfl⟩ := h
   obtain ⟨h1, h2, h3⟩ := one_charP hb hp
   obtain ⟨h4, h5⟩ := of_charsF k _ (bytesR_drop hb m) l' hl'
   refine ⟨fun q hq => ?_, ?_⟩
   ·rcases List.mem_cons.1 hq with rfl | hq
    ·exact h1
    ·exact h4 q hq
   ·rw [List.flatMap_cons, ← h5]; exact h3
theorem textR_iff {b : List Int} (hb : bytesR b) : textR b = true ↔ ∃ l : List Int, (∀ c ∈ l, isChar c = true) ∧ b = l.flatMap oneP := by
 unfold textR
 rw [Option.isSome_iff_exists]
 constructor
 ·rintro ⟨l, h⟩; exact ⟨l, of_charsF _ b hb l h⟩
 ·rintro ⟨l, h1, rfl⟩; exact ⟨l, charsF_of l _ h1 (Nat.le_refl _)⟩
def lenHead (x : Int) : Int × Nat := if x ≥ 240 then (x % 8, 4) else if x ≥ 224 then (x % 16, 3) else if x ≥ 192 then (x % 32, 2) else (x, 1)
def lenTail : Nat → Int → List Int → Int
 | 0, c, _ => c
 | _ + 1, c, [] => c
 | n + 1, c, y :: t => lenTail n (64 * c + y % 64) t
def lenF : Nat → List Int → List Int
 | _, [] => []
 | 0, _ => []
 | k + 1, x :: t => lenTail ((lenHead x).2 - 1) (lenHead x).1 t :: lenF k ((x :: t).drop (lenHead x).2)
theorem lenF_one {c : Int} (h : isChar c = true) (rest : List Int) (k : Nat) : lenF (k + 1) (oneP c ++ rest) = c :: lenF k rest := by
 simp only [isChar, decide_eq_true_eq] at h
 unfold oneP
 by_cases h1 : c < 128
 ·rw [if_pos h1]
  simp only [List.cons_append, List.nil_append, lenF, lenHead]
  rw [if_neg (by omega), if_neg (by omega), if_neg (by omega)]
  simp [lenTail]
 ·rw [if_neg h1]
  by_cases h2 : c < 2048
  ·rw [if_pos h2]
   simp only [List.cons_append, List.nil_append, lenF, lenHead]
   rw [if_neg (by omega), if_neg (by omega), if_pos (by omega)]
   simp only [lenTail, List.drop_succ_cons, List.drop_zero, Nat.add_one_sub_one]
   congr 1; omega
  ·rw [if_neg h2]
   by_cases h3 : c < 65536
   ·rw [if_pos h3]
    simp only [List.cons_append, List.nil_append, lenF, lenHead]
    rw [if_neg (by omega), if_pos (by omega)]
    simp only [lenTail, List.drop_succ_cons, List.drop_zero, Nat.add_one_sub_one]
    congr 1; omega
   ·rw [if_neg h3]
    simp only [List.cons_append, List.nil_append, lenF, lenHead]
    rw [if_pos (by omega)]
    simp only [lenTail, List.drop_succ_cons, List.drop_zero, Nat.add_one_sub_one]
    congr 1; omega
theorem lenF_all : ∀ (l : List Int) (k : Nat), (∀ c ∈ l, isChar c = true) → (l.flatMap oneP).length ≤ k → lenF k (l.flatMap oneP) = l
 | [], k, _, _ => by cases k <;> simp [lenF]
 | c :: l, k, h, hk => by
  have hp := oneP_pos c
  simp only [List.flatMap_cons, List.length_append] at hk ⊢
  obtain ⟨k, rfl⟩ : ∃ m, k = m + 1 := ⟨k - 1, by omega⟩
  rw [lenF_one (h c (by simp)), lenF_all l k (fun c hc => h c (by simp [hc])) (by omega)]
theorem textR_len {b : List Int} (hb : bytesR b) : textR b = ((lenF b.length b).all isChar && decide ((lenF b.length b).flatMap oneP = b)) := by
 rw [Bool.eq_iff_iff, textR_iff hb]
 simp only [Bool.and_eq_true, List.all_eq_true, decide_eq_true_eq]
 constructor
 ·rintro ⟨l, h1, rfl⟩
  rw [lenF_all l _ h1 (Nat.le_refl _)]
  exact ⟨h1, rfl⟩
 ·rintro ⟨h1, h2⟩
  exact ⟨_, h1, h2.symm⟩
end Go.Proofs.Ytdilbnggedidnaa.PVal
namespace Go.Proofs.Ytdilbnggedidnaa.PVal
open Go.RowKit Go.Proofs.YtdilbnggedidnaaW.PrintWords Go.Proofs.YtdilbnggedidnaaW.PrintLast
attribute [local go_sem] max2_int max_two
set_option linter.unusedVariables false
set_option linter.unusedSimpArgs false
def bellwetherref04_Called.f (a0_0 : Int) (a0_1 : Int) (a0_2 : ByteArray) (l0_3 : List (S25)) : Option (Bool) := if a0_0 = 6 then (some true) else (some (a0_0 == 21))
theorem bellwetherref04_Called.calls (a0_0 : Int) (a0_1 : Int) (a0_2 : ByteArray) (A0_3 : Option Addr) (c0_3 : Nat) (l0_3 : List (S25)) (r : Bool) (w : World) (hr0_3 : Kd.C k25 w A0_3 l0_3.length l0_3) (hc0_3 : l0_3.length ≤ c0_3) (h : bellwetherref04_Called.f a0_0 a0_1 a0_2 l0_3 = some r) :
  Calls Try.prog 92 #[.agg #[.int .u8 a0_0, .int .u64 a0_1, .string a0_2, .slice A0_3 l0_3.length c0_3]] w fun e w' => e = .returned (.bool r) ∧ Below w.heap.size w w' := by
 have hu25 := Try.underlying25
 have HR0_3 := Aside0.mk hr0_3
 have HC0_3 := Aside0.mk hc0_3
 clear hr0_3 hc0_3
 have HB := Aside0.mk (Below.refl w.heap.size w)
 have H : (if a0_0 = 6 then (some true) else (some (a0_0 == 21))) = some r := h
 clear h
 by_cases c2 : a0_0 = 6
 ·rw [if_pos c2] at H
  have c2b0 : (a0_0 == 6) = true := beq_iff_eq.mpr c2
  have c2b1 : (a0_0 != 6) = false := bne_eq_false_iff_eq.mpr c2
  clear c2
  obtain rfl := Option.some.inj H
  go_enter Try.func92, Try.ntmps92
  go_wp2_with (first | ((with_reducible refine gate_dst (N := 1) rfl ?_); refine box_event ?hg (N := 1) ?hd (cs := #[.int .u8 a0_0, .int .u64 a0_1, .string a0_2, .slice A0_3 l0_3.length c0_3]) (t := 25) ?hr ?_; (case hd => rfl); (case hg => rfl); (case hr => first | (go_simp; done) | (go_simp; rfl)); intro gb127 hg w3 hbox hb; have n0_ := Aside0.mk (below_step (by repeat (first | (with_reducible first | exact HB.out | apply below_alloc | apply pw_below_drewN | apply below_drew1) | exact HB.out)) hb); have n1_ := Aside0.mk (hbox); have n2_ := Aside0.mk ((by rw [hg]; exact (below_size (by repeat (first | (with_reducible first | exact HB.out | apply below_alloc | apply pw_below_drewN | apply below_drew1) | exact HB.out))) : w.heap.size ≤ gb127)); have n3_ := Aside0.mk ((by rw [hg]; exact (below_size (by repeat (first | (with_reducible first | exact HB.out | apply below_alloc | apply pw_below_drewN | apply below_drew1) | exact HB.out))) : w.heap.size ≤ gb127)); clear HB; have HB := n0_; have BK127 := n1_; have GW127 := n2_; have GE127 := n3_; clear n0_ n1_ n2_ n3_; clear hb hbox hg; have hcz4_0 : w3.cell? ⟨gb127, 0, none⟩ = some (.int .u8 a0_0) := (blk_cell BK127.out 0).trans rfl; have hcz4_1 : w3.cell? ⟨gb127, 1, none⟩ = some (.int .u64 a0_1) := (blk_cell BK127.out 1).trans rfl; have hcz4_2 : w3.cell? ⟨gb127, 2, none⟩ = some (.string a0_2) := (blk_cell BK127.out 2).trans rfl; have hcz4_3 : w3.cell? ⟨gb127, 3, none⟩ = some (.slice A0_3 l0_3.length c0_3) := (blk_cell BK127.out 3).trans rfl; have hfz4_0 := blk_frozen BK127.out 0; have hfz4_1 := blk_frozen BK127.out 1; have hfz4_2 := blk_frozen BK127.out 2; have hfz4_3 := blk_frozen BK127.out 3))
  go_ret
  exact ⟨by first | rfl | (simp [errW_none, errW_some] <;> rfl) | (simp [*, errW_none, errW_some] <;> rfl), by repeat (first | (with_reducible first | exact HB.out | apply below_alloc | apply pw_below_drewN | apply below_drew1 | refine below_set ?_ GE127.out) | exact HB.out)⟩
 ·rw [if_neg c2] at H
  have c2b0 : (a0_0 == 6) = false := beq_eq_false_iff_ne.mpr c2
  have c2b1 : (a0_0 != 6) = true := bne_iff_ne.mpr c2
  obtain rfl := Option.some.inj H
  go_enter Try.func92, Try.ntmps92
  go_wp2_with (first | ((with_reducible refine gate_dst (N := 1) rfl ?_); refine box_event ?hg (N := 1) ?hd (cs := #[.int .u8 a0_0, .int .u64 a0_1, .string a0_2, .slice A0_3 l0_3.length c0_3]) (t := 25) ?hr ?_; (case hd => rfl); (case hg => rfl); (case hr => first | (go_simp; done) | (go_simp; rfl)); intro gb127 hg w5 hbox hb; have n0_ := Aside0.mk (below_step (by repeat (first | (with_reducible first | exact HB.out | apply below_alloc | apply pw_below_drewN | apply below_drew1) | exact HB.out)) hb); have n1_ := Aside0.mk (hbox); have n2_ := Aside0.mk ((by rw [hg]; exact (below_size (by repeat (first | (with_reducible first | exact HB.out | apply below_alloc | apply pw_below_drewN | apply below_drew1) | exact HB.out))) : w.heap.size ≤ gb127)); have n3_ := Aside0.mk ((by rw [hg]; exact (below_size (by repeat (first | (with_reducible first | exact HB.out | apply below_alloc | apply pw_below_drewN | apply below_drew1) | exact HB.out))) : w.heap.size ≤ gb127)); clear HB; have HB := n0_; have BK127 := n1_; have GW127 := n2_; have GE127 := n3_; clear n0_ n1_ n2_ n3_; clear hb hbox hg; have hcz6_0 : w5.cell? ⟨gb127, 0, none⟩ = some (.int .u8 a0_0) := (blk_cell BK127.out 0).trans rfl; have hcz6_1 : w5.cell? ⟨gb127, 1, none⟩ = some (.int .u64 a0_1) := (blk_cell BK127.out 1).trans rfl; have hcz6_2 : w5.cell? ⟨gb127, 2, none⟩ = some (.string a0_2) := (blk_cell BK127.out 2).trans rfl; have hcz6_3 : w5.cell? ⟨gb127, 3, none⟩ = some (.slice A0_3 l0_3.length c0_3) := (blk_cell BK127.out 3).trans rfl; have hfz6_0 := blk_frozen BK127.out 0; have hfz6_1 := blk_frozen BK127.out 1; have hfz6_2 := blk_frozen BK127.out 2; have hfz6_3 := blk_frozen BK127.out 3))
  go_ret
  exact ⟨by first | rfl | (simp [errW_none, errW_some] <;> rfl) | (simp [*, errW_none, errW_some] <;> rfl), by repeat (first | (with_reducible first | exact HB.out | apply below_alloc | apply pw_below_drewN | apply below_drew1 | refine below_set ?_ GE127.out) | exact HB.out)⟩
def value_signed.f (a0 : Int) (a1 : Int) : Option (Bool) := if 0 ≤ (wrap64 (64 - a1)) then (some ((shr .i64 (shl .i64 (wrap64 (a0)) (wrap64 (64 - a1))) (wrap64 (64 - a1))) == (wrap64 (a0)))) else (none)
theorem value_signed.calls (a0 : Int) (a1 : Int) (r : Bool) (w : World) (h : value_signed.f a0 a1 = some r) :
  Calls Try.prog 116 #[.int .u64 a0, .int .i64 a1] w fun e w' => e = .returned (.bool r) ∧ Drawn0 w w' := by
 have H : (if 0 ≤ (wrap64 (64 - a1)) then (some ((shr .i64 (shl .i64 (wrap64 (a0)) (wrap64 (64 - a1))) (wrap64 (64 - a1))) == (wrap64 (a0)))) else (none)) = some r := h
 clear h
 obtain ⟨ji3, hji3⟩ : ∃ j_ : Int, (wrap64 (64 - a1)) = j_ := ⟨_, rfl⟩
 replace H : (if 0 ≤ (ji3) then (some ((shr .i64 (shl .i64 (wrap64 (a0)) (ji3)) (ji3)) == (wrap64 (a0)))) else (none)) = some r := by first | (rw [hji3] at H; exact H) | (simp only [hji3] at H ⊢; exact H)
 have hji3w : (IntKind.i64.wrap (64 - a1)) = ji3 := (i64_w _).trans hji3
 by_cases c4 : 0 ≤ (ji3)
 ·rw [if_pos c4] at H
  have c4b0 := eq_true c4
  have c4b1 : decide (0 ≤ (ji3)) = true := decide_eq_true c4
  clear c4
  obtain ⟨ji5, hji5⟩ : ∃ j_ : Int, (shl .i64 (wrap64 (a0)) (ji3)) = j_ := ⟨_, rfl⟩
  replace H : (some ((shr .i64 (ji5) (ji3)) == (wrap64 (a0)))) = some r := by first | (rw [hji5] at H; exact H) | (simp only [hji5] at H ⊢; exact H)
  have hji5_ : (IntKind.i64.wrap ((wrap64 (a0)) * 2 ^ min (ji3).toNat 64)) = ji5 := hji5
  have hji5z : (ji3) ≤ 64 → (IntKind.i64.wrap ((wrap64 (a0)) * 2 ^ (ji3).toNat)) = ji5 := shl_small hji5
  have hji5y : (wrap64 ((wrap64 (a0)) * 2 ^ min (ji3).toNat 64)) = ji5 := (i64_w _).symm.trans hji5_
  have hji5x : (ji3) ≤ 64 → (wrap64 ((wrap64 (a0)) * 2 ^ (ji3).toNat)) = ji5 := fun h_ => (i64_w _).symm.trans (hji5z h_)
  have c6b0 := eq_true (of_decide_eq_true (by first | (with_reducible assumption) | assumption) : 0 ≤ (ji3))
  obtain ⟨ji7, hji7⟩ : ∃ j_ : Int, (shr .i64 (ji5) (ji3)) = j_ := ⟨_, rfl⟩
  replace H : (some ((ji7) == (wrap64 (a0)))) = some r := by first | (rw [hji7] at H; exact H) | (simp only [hji7] at H ⊢; exact H)
  have hji7_ : ((ji5) / 2 ^ min (ji3).toNat 64) = ji7 := hji7
  have hji7z : (ji3) ≤ 64 → ((ji5) / 2 ^ (ji3).toNat) = ji7 := shr_small hji7
  obtain rfl := Option.some.inj H
  go_enter Try.func116, Try.ntmps116
  go_wp2
  go_ret
  exact ⟨by first | rfl | (simp; done) | (simp only [← hji3, ← hji5, ← hji7] <;> (first | rfl | simp)) | (simp [*]; done), by repeat (first | exact Drawn0.refl _ | apply Drawn0.step)⟩
 ·rw [if_neg c4] at H
  exact absurd H (by simp)
def utf_Char.f (a0 : Int) : Option (Bool) := if a0 ≤ 1114111 then (if a0 < 55296 then (some true) else (some (decide (a0 > 57343)))) else (some false)
theorem utf_Char.calls (a0 : Int) (r : Bool) (w : World) (h : utf_Char.f a0 = some r) :
  Calls Try.prog 117 #[.int .u64 a0] w fun e w' => e = .returned (.bool r) ∧ Drawn0 w w' := by
 have H : (if a0 ≤ 1114111 then (if a0 < 55296 then (some true) else (some (decide (a0 > 57343)))) else (some false)) = some r := h
 clear h
 by_cases c2 : a0 ≤ 1114111
 ·rw [if_pos c2] at H
  have c2b0 : decide (a0 ≤ 1114111) = true := decide_eq_true c2
  clear c2
  by_cases c3 : a0 < 55296
  ·rw [if_pos c3] at H
   have c3b0 : decide (a0 < 55296) = true := decide_eq_true c3
   clear c3
   obtain rfl := Option.some.inj H
   go_enter Try.func117, Try.ntmps117
   go_wp2
   go_ret
   exact ⟨by first | rfl | (simp; done) | (simp [*]; done), by repeat (first | exact Drawn0.refl _ | apply Drawn0.step)⟩
  ·rw [if_neg c3] at H
   have c3b0 : decide (a0 < 55296) = false := decide_eq_false c3
   clear c3
   obtain rfl := Option.some.inj H
   go_enter Try.func117, Try.ntmps117
   go_wp2
   go_ret
   exact ⟨by first | rfl | (simp; done) | (simp [*]; done), by repeat (first | exact Drawn0.refl _ | apply Drawn0.step)⟩
 ·rw [if_neg c2] at H
  have c2b0 : decide (a0 ≤ 1114111) = false := decide_eq_false c2
  clear c2
  obtain rfl := Option.some.inj H
  go_enter Try.func117, Try.ntmps117
  go_wp2
  go_ret
  exact ⟨by first | rfl | (simp; done) | (simp [*]; done), by repeat (first | exact Drawn0.refl _ | apply Drawn0.step)⟩
def value_number.j0 : Nat → Int → Int → Bool → Option (Bool)
 | 0, _, _, _ => none
 | k + 1, x3, x7, x22 => if x22 = true then (some ((x3 / 4294967296) == 0)) else (if x7 = 7 then ((value_signed.f x3 8).bind fun t129 => (some t129)) else (if x7 = 8 then ((value_signed.f x3 16).bind fun t130 => (some t130)) else (if x7 = 9 then ((value_signed.f x3 32).bind fun t131 => (some t131)) else (if x7 = 13 then ((utf_Char.f x3).bind fun t132 => (some t132)) else (if x7 = 6 then (some true) else (if x7 = 10 then (some true) else (if x7 = 14 then (some true) else (if x7 = 12 then (some true) else (some (x3 == 0))))))))))
def value_number.f (k : Nat) (a0_0 : Int) (a0_1 : Int) (a0_2 : ByteArray) (l0_3 : List (S25)) : Option (Bool) := if a0_0 = 2 then (some (decide (a0_1 ≤ 1))) else (if a0_0 = 3 then (some ((a0_1 / 256) == 0)) else (if a0_0 = 4 then (some ((a0_1 / 65536) == 0)) else (if a0_0 = 5 then (value_number.j0 k a0_1 a0_0 (a0_0 == 5)) else (value_number.j0 k a0_1 a0_0 (a0_0 == 11)))))
theorem value_number.calls (k : Nat) (a0_0 : Int) (a0_1 : Int) (a0_2 : ByteArray) (A0_3 : Option Addr) (c0_3 : Nat) (l0_3 : List (S25)) (r : Bool) (w : World) (hr0_3 : Kd.C k25 w A0_3 l0_3.length l0_3) (hc0_3 : l0_3.length ≤ c0_3) (h : value_number.f k a0_0 a0_1 a0_2 l0_3 = some r) :
  Calls Try.prog 88 #[.agg #[.int .u8 a0_0, .int .u64 a0_1, .string a0_2, .slice A0_3 l0_3.length c0_3]] w fun e w' => e = .returned (.bool r) ∧ Below w.heap.size w w' := by
 have hu25 := Try.underlying25
 have HR0_3 := Aside0.mk hr0_3
 have HC0_3 := Aside0.mk hc0_3
 clear hr0_3 hc0_3
 have HB := Aside0.mk (Below.refl w.heap.size w)
 have H : (if a0_0 = 2 then (some (decide (a0_1 ≤ 1))) else (if a0_0 = 3 then (some ((a0_1 / 256) == 0)) else (if a0_0 = 4 then (some ((a0_1 / 65536) == 0)) else (if a0_0 = 5 then (value_number.j0 k a0_1 a0_0 (a0_0 == 5)) else (value_number.j0 k a0_1 a0_0 (a0_0 == 11)))))) = some r := h
 clear h
 by_cases c2 : a0_0 = 2
 ·rw [if_pos c2] at H
  have c2b0 : (a0_0 == 2) = true := beq_iff_eq.mpr c2
  have c2b1 : (a0_0 != 2) = false := bne_eq_false_iff_eq.mpr c2
  clear c2
  obtain rfl := Option.some.inj H
  go_enter Try.func88, Try.ntmps88
  go_wp2_with (first | ((with_reducible refine gate_dst (N := 1) rfl ?_); refine box_event ?hg (N := 1) ?hd (cs := #[.int .u8 a0_0, .int .u64 a0_1, .string a0_2, .slice A0_3 l0_3.length c0_3]) (t := 25) ?hr ?_; (case hd => rfl); (case hg => rfl); (case hr => first | (go_simp; done) | (go_simp; rfl)); intro gb128 hg w3 hbox hb; have n0_ := Aside0.mk (below_step (by repeat (first | (with_reducible first | exact HB.out | apply below_alloc | apply pw_below_drewN | apply below_drew1) | exact HB.out)) hb); have n1_ := Aside0.mk (hbox); have n2_ := Aside0.mk ((by rw [hg]; exact (below_size (by repeat (first | (with_reducible first | exact HB.out | apply below_alloc | apply pw_below_drewN | apply below_drew1) | exact HB.out))) : w.heap.size ≤ gb128)); have n3_ := Aside0.mk ((by rw [hg]; exact (below_size (by repeat (first | (with_reducible first | exact HB.out | apply below_alloc | apply pw_below_drewN | apply below_drew1) | exact HB.out))) : w.heap.size ≤ gb128)); clear HB; have HB := n0_; have BK128 := n1_; have GW128 := n2_; have GE128 := n3_; clear n0_ n1_ n2_ n3_; clear hb hbox hg; have hcz4_0 : w3.cell? ⟨gb128, 0, none⟩ = some (.int .u8 a0_0) := (blk_cell BK128.out 0).trans rfl; have hcz4_1 : w3.cell? ⟨gb128, 1, none⟩ = some (.int .u64 a0_1) := (blk_cell BK128.out 1).trans rfl; have hcz4_2 : w3.cell? ⟨gb128, 2, none⟩ = some (.string a0_2) := (blk_cell BK128.out 2).trans rfl; have hcz4_3 : w3.cell? ⟨gb128, 3, none⟩ = some (.slice A0_3 l0_3.length c0_3) := (blk_cell BK128.out 3).trans rfl; have hfz4_0 := blk_frozen BK128.out 0; have hfz4_1 := blk_frozen BK128.out 1; have hfz4_2 := blk_frozen BK128.out 2; have hfz4_3 := blk_frozen BK128.out 3))
  go_ret
  exact ⟨by first | rfl | (simp [errW_none, errW_some] <;> rfl) | (simp [*, errW_none, errW_some] <;> rfl), by repeat (first | (with_reducible first | exact HB.out | apply below_alloc | apply pw_below_drewN | apply below_drew1 | refine below_set ?_ GE128.out) | exact HB.out)⟩
 ·rw [if_neg c2] at H
  have c2b0 : (a0_0 == 2) = false := beq_eq_false_iff_ne.mpr c2
  have c2b1 : (a0_0 != 2) = true := bne_iff_ne.mpr c2
  by_cases c5 : a0_0 = 3
  ·rw [if_pos c5] at H
   have c5b0 : (a0_0 == 3) = true := beq_iff_eq.mpr c5
   have c5b1 : (a0_0 != 3) = false := bne_eq_false_iff_eq.mpr c5
   clear c5
   obtain rfl := Option.some.inj H
   go_enter Try.func88, Try.ntmps88
   go_wp2_with (first | ((with_reducible refine gate_dst (N := 1) rfl ?_); refine box_event ?hg (N := 1) ?hd (cs := #[.int .u8 a0_0, .int .u64 a0_1, .string a0_2, .slice A0_3 l0_3.length c0_3]) (t := 25) ?hr ?_; (case hd => rfl); (case hg => rfl); (case hr => first | (go_simp; done) | (go_simp; rfl)); intro gb128 hg w6 hbox hb; have n0_ := Aside0.mk (below_step (by repeat (first | (with_reducible first | exact HB.out | apply below_alloc | apply pw_below_drewN | apply below_drew1) | exact HB.out)) hb); have n1_ := Aside0.mk (hbox); have n2_ := Aside0.mk ((by rw [hg]; exact (below_size (by repeat (first | (with_reducible first | exact HB.out | apply below_alloc | apply pw_below_drewN | apply below_drew1) | exact HB.out))) : w.heap.size ≤ gb128)); have n3_ := Aside0.mk ((by rw [hg]; exact (below_size (by repeat (first | (with_reducible first | exact HB.out | apply below_alloc | apply pw_below_drewN | apply below_drew1) | exact HB.out))) : w.heap.size ≤ gb128)); clear HB; have HB := n0_; have BK128 := n1_; have GW128 := n2_; have GE128 := n3_; clear n0_ n1_ n2_ n3_; clear hb hbox hg; have hcz7_0 : w6.cell? ⟨gb128, 0, none⟩ = some (.int .u8 a0_0) := (blk_cell BK128.out 0).trans rfl; have hcz7_1 : w6.cell? ⟨gb128, 1, none⟩ = some (.int .u64 a0_1) := (blk_cell BK128.out 1).trans rfl; have hcz7_2 : w6.cell? ⟨gb128, 2, none⟩ = some (.string a0_2) := (blk_cell BK128.out 2).trans rfl; have hcz7_3 : w6.cell? ⟨gb128, 3, none⟩ = some (.slice A0_3 l0_3.length c0_3) := (blk_cell BK128.out 3).trans rfl; have hfz7_0 := blk_frozen BK128.out 0; have hfz7_1 := blk_frozen BK128.out 1; have hfz7_2 := blk_frozen BK128.out 2; have hfz7_3 := blk_frozen BK128.out 3))
   go_ret
   exact ⟨by first | rfl | (simp [errW_none, errW_some] <;> rfl) | (simp [*, errW_none, errW_some] <;> rfl), by repeat (first | (with_reducible first | exact HB.out | apply below_alloc | apply pw_below_drewN | apply below_drew1 | refine below_set ?_ GE128.out) | exact HB.out)⟩
  ·rw [if_neg c5] at H
   have c5b0 : (a0_0 == 3) = false := beq_eq_false_iff_ne.mpr c5
   have c5b1 : (a0_0 != 3) = true := bne_iff_ne.mpr c5
   by_cases c8 : a0_0 = 4
   ·rw [if_pos c8] at H
    have c8b0 : (a0_0 == 4) = true := beq_iff_eq.mpr c8
    have c8b1 : (a0_0 != 4) = false := bne_eq_false_iff_eq.mpr c8
    clear c8
    obtain rfl := Option.some.inj H
    go_enter Try.func88, Try.ntmps88
    go_wp2_with (first | ((with_reducible refine gate_dst (N := 1) rfl ?_); refine box_event ?hg (N := 1) ?hd (cs := #[.int .u8 a0_0, .int .u64 a0_1, .string a0_2, .slice A0_3 l0_3.length c0_3]) (t := 25) ?hr ?_; (case hd => rfl); (case hg => rfl); (case hr => first | (go_simp; done) | (go_simp; rfl)); intro gb128 hg w9 hbox hb; have n0_ := Aside0.mk (below_step (by repeat (first | (with_reducible first | exact HB.out | apply below_alloc | apply pw_below_drewN | apply below_drew1) | exact HB.out)) hb); have n1_ := Aside0.mk (hbox); have n2_ := Aside0.mk ((by rw [hg]; exact (below_size (by repeat (first | (with_reducible first | exact HB.out | apply below_alloc | apply pw_below_drewN | apply below_drew1) | exact HB.out))) : w.heap.size ≤ gb128)); have n3_ := Aside0.mk ((by rw [hg]; exact (below_size (by repeat (first | (with_reducible first | exact HB.out | apply below_alloc | apply pw_below_drewN | apply below_drew1) | exact HB.out))) : w.heap.size ≤ gb128)); clear HB; have HB := n0_; have BK128 := n1_; have GW128 := n2_; have GE128 := n3_; clear n0_ n1_ n2_ n3_; clear hb hbox hg; have hcz10_0 : w9.cell? ⟨gb128, 0, none⟩ = some (.int .u8 a0_0) := (blk_cell BK128.out 0).trans rfl; have hcz10_1 : w9.cell? ⟨gb128, 1, none⟩ = some (.int .u64 a0_1) := (blk_cell BK128.out 1).trans rfl; have hcz10_2 : w9.cell? ⟨gb128, 2, none⟩ = some (.string a0_2) := (blk_cell BK128.out 2).trans rfl; have hcz10_3 : w9.cell? ⟨gb128, 3, none⟩ = some (.slice A0_3 l0_3.length c0_3) := (blk_cell BK128.out 3).trans rfl; have hfz10_0 := blk_frozen BK128.out 0; have hfz10_1 := blk_frozen BK128.out 1; have hfz10_2 := blk_frozen BK128.out 2; have hfz10_3 := blk_frozen BK128.out 3))
    go_ret
    exact ⟨by first | rfl | (simp [errW_none, errW_some] <;> rfl) | (simp [*, errW_none, errW_some] <;> rfl), by repeat (first | (with_reducible first | exact HB.out | apply below_alloc | apply pw_below_drewN | apply below_drew1 | refine below_set ?_ GE128.out) | exact HB.out)⟩
   ·rw [if_neg c8] at H
    have c8b0 : (a0_0 == 4) = false := beq_eq_false_iff_ne.mpr c8
    have c8b1 : (a0_0 != 4) = true := bne_iff_ne.mpr c8
    have HC11 := Aside0.mk H
    clear H
    go_enter Try.func88, Try.ntmps88
    go_upto_if 22 with (first | ((with_reducible refine gate_dst (N := 1) rfl ?_); refine box_event ?hg (N := 1) ?hd (cs := #[.int .u8 a0_0, .int .u64 a0_1, .string a0_2, .slice A0_3 l0_3.length c0_3]) (t := 25) ?hr ?_; (case hd => rfl); (case hg => rfl); (case hr => first | (go_simp; done) | (go_simp; rfl)); intro gb128 hg w12 hbox hb; have n0_ := Aside0.mk (below_step (by repeat (first | (with_reducible first | exact HB.out | apply below_alloc | apply pw_below_drewN | apply below_drew1) | exact HB.out)) hb); have n1_ := Aside0.mk (hbox); have n2_ := Aside0.mk ((by rw [hg]; exact (below_size (by repeat (first | (with_reducible first | exact HB.out | apply below_alloc | apply pw_below_drewN | apply below_drew1) | exact HB.out))) : w.heap.size ≤ gb128)); have n3_ := Aside0.mk ((by rw [hg]; exact (below_size (by repeat (first | (with_reducible first | exact HB.out | apply below_alloc | apply pw_below_drewN | apply below_drew1) | exact HB.out))) : w.heap.size ≤ gb128)); clear HB; have HB := n0_; have BK128 := n1_; have GW128 := n2_; have GE128 := n3_; clear n0_ n1_ n2_ n3_; clear hb hbox hg; have hcz13_0 : w12.cell? ⟨gb128, 0, none⟩ = some (.int .u8 a0_0) := (blk_cell BK128.out 0).trans rfl; have hcz13_1 : w12.cell? ⟨gb128, 1, none⟩ = some (.int .u64 a0_1) := (blk_cell BK128.out 1).trans rfl; have hcz13_2 : w12.cell? ⟨gb128, 2, none⟩ = some (.string a0_2) := (blk_cell BK128.out 2).trans rfl; have hcz13_3 : w12.cell? ⟨gb128, 3, none⟩ = some (.slice A0_3 l0_3.length c0_3) := (blk_cell BK128.out 3).trans rfl; have hfz13_0 := blk_frozen BK128.out 0; have hfz13_1 := blk_frozen BK128.out 1; have hfz13_2 := blk_frozen BK128.out 2; have hfz13_3 := blk_frozen BK128.out 3))
    (try simp only [Act.put, List.setIfInBounds_toArray, List.set_cons_zero, List.set_cons_succ])
    go_cut [22] (fun v22 wc => ∃ (kq : Nat) (x22_10 : Bool), v22 = .bool x22_10 ∧ Aside0 (value_number.j0 kq a0_1 a0_0 x22_10 = some r) ∧ Aside0 (kq ≤ k) ∧ Aside0 (wc.heap[gb128]? = some (.cells #[.int .u8 a0_0, .int .u64 a0_1, .string a0_2, (.slice A0_3 l0_3.length c0_3)] 25 (0, 0))) ∧ Aside0 (Below w.heap.size w wc))
    case first =>
     have H := HC11.out
     clear HC11
     by_cases c14 : a0_0 = 5
     ·rw [if_pos c14] at H
      have c14b0 : (a0_0 == 5) = true := beq_iff_eq.mpr c14
      have c14b1 : (a0_0 != 5) = false := bne_eq_false_iff_eq.mpr c14
      clear c14
      (first | rw [c14b0] | (simp only [i64_w, i32_w]; rw [c14b0]) | skip)
      have H' := Aside0.mk H
      clear H
      go_wp2
      go_meet
      case rel => exact ⟨_, ((a0_0 == 5)), (by first | rfl | (simp; done) | (simp [*]; done)), H', ⟨by first | omega | exact Nat.le_refl _⟩, ⟨by (with_reducible repeat (first | refine blk_drewN ?_ _ | refine blk_drew ?_ | refine blk_alloc ?_ _)); exact BK128.out⟩, ⟨by repeat (first | (with_reducible first | exact HB.out | apply below_alloc | apply pw_below_drewN | apply below_drew1 | refine below_set ?_ GE128.out) | exact HB.out)⟩⟩
     ·rw [if_neg c14] at H
      have c14b0 : (a0_0 == 5) = false := beq_eq_false_iff_ne.mpr c14
      have c14b1 : (a0_0 != 5) = true := bne_iff_ne.mpr c14
      (first | rw [c14b0] | (simp only [i64_w, i32_w]; rw [c14b0]) | skip)
      have H' := Aside0.mk H
      clear H
      go_wp2
      go_meet
      case rel => exact ⟨_, ((a0_0 == 11)), (by first | rfl | (simp; done) | (simp [*]; done)), H', ⟨by first | omega | exact Nat.le_refl _⟩, ⟨by (with_reducible repeat (first | refine blk_drewN ?_ _ | refine blk_drew ?_ | refine blk_alloc ?_ _)); exact BK128.out⟩, ⟨by repeat (first | (with_reducible first | exact HB.out | apply below_alloc | apply pw_below_drewN | apply below_drew1 | refine below_set ?_ GE128.out) | exact HB.out)⟩⟩
    case rest =>
     clear HC11
     try clear c1
     try clear c2
     try clear c2b0
     try clear c2b1
     try clear p2
     try clear c5
     try clear c5b0
     try clear c5b1
     try clear c8
     try clear c8b0
     try clear c8b1
     try clear c14
     try clear c14b0
     try clear c14b1
     try clear hcz10_0
     try clear hcz10_1
     try clear hcz10_2
     try clear hcz10_3
     try clear hcz13_0
     try clear hcz13_1
     try clear hcz13_2
     try clear hcz13_3
     try clear hcz4_0
     try clear hcz4_1
     try clear hcz4_2
     try clear hcz4_3
     try clear hcz7_0
     try clear hcz7_1
     try clear hcz7_2
     try clear hcz7_3
     try clear hfz10_0
     try clear hfz10_1
     try clear hfz10_2
     try clear hfz10_3
     try clear hfz13_0
     try clear hfz13_1
     try clear hfz13_2
     try clear hfz13_3
     try clear hfz4_0
     try clear hfz4_1
     try clear hfz4_2
     try clear hfz4_3
     try clear hfz7_0
     try clear hfz7_1
     try clear hfz7_2
     try clear hfz7_3
     obtain ⟨kq, x22_10, rfl, HA, HJ10, BK128, HB⟩ := hcut
     cases kq with
     | zero => exact absurd HA.out (by simp [value_number.j0])
     | succ kj10 =>
      have H := HA.out
      clear HA
      simp only [value_number.j0] at H
      by_cases c15 : x22_10 = true
      ·subst c15
       have H1 : (some ((a0_1 / 4294967296) == 0)) = some r := by rw [if_pos rfl] at H; exact H
       clear H
       have H := H1
       clear H1
       obtain rfl := Option.some.inj H
       go_wp2
       go_ret
       exact ⟨by first | rfl | (simp [errW_none, errW_some] <;> rfl) | (simp [*, errW_none, errW_some] <;> rfl), by repeat (first | (with_reducible first | exact HB.out | apply below_alloc | apply pw_below_drewN | apply below_drew1 | refine below_set ?_ GE128.out) | exact HB.out)⟩
      ·replace c15 := Bool.eq_false_iff.mpr c15
       subst c15
       have H1 : (if a0_0 = 7 then ((value_signed.f a0_1 8).bind fun t129 => (some t129)) else (if a0_0 = 8 then ((value_signed.f a0_1 16).bind fun t130 => (some t130)) else (if a0_0 = 9 then ((value_signed.f a0_1 32).bind fun t131 => (some t131)) else (if a0_0 = 13 then ((utf_Char.f a0_1).bind fun t132 => (some t132)) else (if a0_0 = 6 then (some true) else (if a0_0 = 10 then (some true) else (if a0_0 = 14 then (some true) else (if a0_0 = 12 then (some true) else (some (a0_1 == 0)))))))))) = some r := by rw [if_neg (show ¬ (false = true) by decide)] at H; exact H
       clear H
       have H := H1
       clear H1
       by_cases c16 : a0_0 = 7
       ·rw [if_pos c16] at H
        have c16b0 : (a0_0 == 7) = true := beq_iff_eq.mpr c16
        have c16b1 : (a0_0 != 7) = false := bne_eq_false_iff_eq.mpr c16
        clear c16
        replace H := Option.bind_eq_some_iff.mp H
        obtain ⟨t129, A170, H⟩ := H
        replace H : (some t129) = some r := H
        have A17 := Aside0.mk A170
        clear A170
        obtain rfl := Option.some.inj H
        go_wp2_with (first | ((with_reducible refine gate_callee (f := 116) rfl ?_); refine goesL_ (some 31) rfl rfl Try.func116 (by kernel_rfl) rfl #[.int .u64 a0_1, .int .i64 8] rfl (by (try simp only [List.map_toArray, List.map_cons, List.map_nil]); first | done | rfl | (simp only [List.length_drop, List.length_take]; rfl)) ?_; (with_reducible refine (value_signed.calls a0_1 8 t129 _ A17.out).mono ?_); rintro e w' ⟨rfl, ⟨nd, rfl⟩⟩; refine ⟨_, rfl, ?_⟩))
        go_ret
        exact ⟨by first | rfl | (simp [errW_none, errW_some] <;> rfl) | (simp [*, errW_none, errW_some] <;> rfl), by repeat (first | (with_reducible first | exact HB.out | apply below_alloc | apply pw_below_drewN | apply below_drew1 | refine below_set ?_ GE128.out) | exact HB.out)⟩
       ·rw [if_neg c16] at H
        have c16b0 : (a0_0 == 7) = false := beq_eq_false_iff_ne.mpr c16
        have c16b1 : (a0_0 != 7) = true := bne_iff_ne.mpr c16
        by_cases c18 : a0_0 = 8
        ·rw [if_pos c18] at H
         have c18b0 : (a0_0 == 8) = true := beq_iff_eq.mpr c18
         have c18b1 : (a0_0 != 8) = false := bne_eq_false_iff_eq.mpr c18
         clear c18
         replace H := Option.bind_eq_some_iff.mp H
         obtain ⟨t130, A190, H⟩ := H
         replace H : (some t130) = some r := H
         have A19 := Aside0.mk A190
         clear A190
         obtain rfl := Option.some.inj H
         go_wp2_with (first | ((with_reducible refine gate_callee (f := 116) rfl ?_); refine goesL_ (some 35) rfl rfl Try.func116 (by kernel_rfl) rfl #[.int .u64 a0_1, .int .i64 16] rfl (by (try simp only [List.map_toArray, List.map_cons, List.map_nil]); first | done | rfl | (simp only [List.length_drop, List.length_take]; rfl)) ?_; (with_reducible refine (value_signed.calls a0_1 16 t130 _ A19.out).mono ?_); rintro e w' ⟨rfl, ⟨nd, rfl⟩⟩; refine ⟨_, rfl, ?_⟩))
         go_ret
         exact ⟨by first | rfl | (simp [errW_none, errW_some] <;> rfl) | (simp [*, errW_none, errW_some] <;> rfl), by repeat (first | (with_reducible first | exact HB.out | apply below_alloc | apply pw_below_drewN | apply below_drew1 | refine below_set ?_ GE128.out) | exact HB.out)⟩
        ·rw [if_neg c18] at H
         have c18b0 : (a0_0 == 8) = false := beq_eq_false_iff_ne.mpr c18
         have c18b1 : (a0_0 != 8) = true := bne_iff_ne.mpr c18
         by_cases c20 : a0_0 = 9
         ·rw [if_pos c20] at H
          have c20b0 : (a0_0 == 9) = true := beq_iff_eq.mpr c20
          have c20b1 : (a0_0 != 9) = false := bne_eq_false_iff_eq.mpr c20
          clear c20
          replace H := Option.bind_eq_some_iff.mp H
          obtain ⟨t131, A210, H⟩ := H
          replace H : (some t131) = some r := H
          have A21 := Aside0.mk A210
          clear A210
          obtain rfl := Option.some.inj H
          go_wp2_with (first | ((with_reducible refine gate_callee (f := 116) rfl ?_); refine goesL_ (some 39) rfl rfl Try.func116 (by kernel_rfl) rfl #[.int .u64 a0_1, .int .i64 32] rfl (by (try simp only [List.map_toArray, List.map_cons, List.map_nil]); first | done | rfl | (simp only [List.length_drop, List.length_take]; rfl)) ?_; (with_reducible refine (value_signed.calls a0_1 32 t131 _ A21.out).mono ?_); rintro e w' ⟨rfl, ⟨nd, rfl⟩⟩; refine ⟨_, rfl, ?_⟩))
          go_ret
          exact ⟨by first | rfl | (simp [errW_none, errW_some] <;> rfl) | (simp [*, errW_none, errW_some] <;> rfl), by repeat (first | (with_reducible first | exact HB.out | apply below_alloc | apply pw_below_drewN | apply below_drew1 | refine below_set ?_ GE128.out) | exact HB.out)⟩
         ·rw [if_neg c20] at H
          have c20b0 : (a0_0 == 9) = false := beq_eq_false_iff_ne.mpr c20
          have c20b1 : (a0_0 != 9) = true := bne_iff_ne.mpr c20
          by_cases c22 : a0_0 = 13
          ·rw [if_pos c22] at H
           have c22b0 : (a0_0 == 13) = true := beq_iff_eq.mpr c22
           have c22b1 : (a0_0 != 13) = false := bne_eq_false_iff_eq.mpr c22
           clear c22
           replace H := Option.bind_eq_some_iff.mp H
           obtain ⟨t132, A230, H⟩ := H
           replace H : (some t132) = some r := H
           have A23 := Aside0.mk A230
           clear A230
           obtain rfl := Option.some.inj H
           go_wp2_with (first | ((with_reducible refine gate_callee (f := 117) rfl ?_); refine goesL_ (some 43) rfl rfl Try.func117 (by kernel_rfl) rfl #[.int .u64 a0_1] rfl (by (try simp only [List.map_toArray, List.map_cons, List.map_nil]); first | done | rfl | (simp only [List.length_drop, List.length_take]; rfl)) ?_; (with_reducible refine (utf_Char.calls a0_1 t132 _ A23.out).mono ?_); rintro e w' ⟨rfl, ⟨nd, rfl⟩⟩; refine ⟨_, rfl, ?_⟩))
           go_ret
           exact ⟨by first | rfl | (simp [errW_none, errW_some] <;> rfl) | (simp [*, errW_none, errW_some] <;> rfl), by repeat (first | (with_reducible first | exact HB.out | apply below_alloc | apply pw_below_drewN | apply below_drew1 | refine below_set ?_ GE128.out) | exact HB.out)⟩
          ·rw [if_neg c22] at H
           have c22b0 : (a0_0 == 13) = false := beq_eq_false_iff_ne.mpr c22
           have c22b1 : (a0_0 != 13) = true := bne_iff_ne.mpr c22
           by_cases c24 : a0_0 = 6
           ·rw [if_pos c24] at H
            have c24b0 : (a0_0 == 6) = true := beq_iff_eq.mpr c24
            have c24b1 : (a0_0 != 6) = false := bne_eq_false_iff_eq.mpr c24
            clear c24
            obtain rfl := Option.some.inj H
            go_wp2
            go_ret
            exact ⟨by first | rfl | (simp [errW_none, errW_some] <;> rfl) | (simp [*, errW_none, errW_some] <;> rfl), by repeat (first | (with_reducible first | exact HB.out | apply below_alloc | apply pw_below_drewN | apply below_drew1 | refine below_set ?_ GE128.out) | exact HB.out)⟩
           ·rw [if_neg c24] at H
            have c24b0 : (a0_0 == 6) = false := beq_eq_false_iff_ne.mpr c24
            have c24b1 : (a0_0 != 6) = true := bne_iff_ne.mpr c24
            by_cases c25 : a0_0 = 10
            ·rw [if_pos c25] at H
             have c25b0 : (a0_0 == 10) = true := beq_iff_eq.mpr c25
             have c25b1 : (a0_0 != 10) = false := bne_eq_false_iff_eq.mpr c25
             clear c25
             obtain rfl := Option.some.inj H
             go_wp2
             go_ret
             exact ⟨by first | rfl | (simp [errW_none, errW_some] <;> rfl) | (simp [*, errW_none, errW_some] <;> rfl), by repeat (first | (with_reducible first | exact HB.out | apply below_alloc | apply pw_below_drewN | apply below_drew1 | refine below_set ?_ GE128.out) | exact HB.out)⟩
            ·rw [if_neg c25] at H
             have c25b0 : (a0_0 == 10) = false := beq_eq_false_iff_ne.mpr c25
             have c25b1 : (a0_0 != 10) = true := bne_iff_ne.mpr c25
             by_cases c26 : a0_0 = 14
             ·rw [if_pos c26] at H
              have c26b0 : (a0_0 == 14) = true := beq_iff_eq.mpr c26
              have c26b1 : (a0_0 != 14) = false := bne_eq_false_iff_eq.mpr c26
              clear c26
              obtain rfl := Option.some.inj H
              go_wp2
              go_ret
              exact ⟨by first | rfl | (simp [errW_none, errW_some] <;> rfl) | (simp [*, errW_none, errW_some] <;> rfl), by repeat (first | (with_reducible first | exact HB.out | apply below_alloc | apply pw_below_drewN | apply below_drew1 | refine below_set ?_ GE128.out) | exact HB.out)⟩
             ·rw [if_neg c26] at H
              have c26b0 : (a0_0 == 14) = false := beq_eq_false_iff_ne.mpr c26
              have c26b1 : (a0_0 != 14) = true := bne_iff_ne.mpr c26
              by_cases c27 : a0_0 = 12
              ·rw [if_pos c27] at H
               have c27b0 : (a0_0 == 12) = true := beq_iff_eq.mpr c27
               have c27b1 : (a0_0 != 12) = false := bne_eq_false_iff_eq.mpr c27
               clear c27
               obtain rfl := Option.some.inj H
               go_wp2
               go_ret
               exact ⟨by first | rfl | (simp [errW_none, errW_some] <;> rfl) | (simp [*, errW_none, errW_some] <;> rfl), by repeat (first | (with_reducible first | exact HB.out | apply below_alloc | apply pw_below_drewN | apply below_drew1 | refine below_set ?_ GE128.out) | exact HB.out)⟩
              ·rw [if_neg c27] at H
               have c27b0 : (a0_0 == 12) = false := beq_eq_false_iff_ne.mpr c27
               have c27b1 : (a0_0 != 12) = true := bne_iff_ne.mpr c27
               obtain rfl := Option.some.inj H
               go_wp2
               go_ret
               exact ⟨by first | rfl | (simp [errW_none, errW_some] <;> rfl) | (simp [*, errW_none, errW_some] <;> rfl), by repeat (first | (with_reducible first | exact HB.out | apply below_alloc | apply pw_below_drewN | apply below_drew1 | refine below_set ?_ GE128.out) | exact HB.out)⟩
def utf_first.j0 : Nat → Int → Bool → Option (Int × Int × Bool)
 | 0, _, _ => none
 | k + 1, x0, x10 => if x10 = true then (some (0, 0, false)) else (if x0 ≥ 240 then (some ((Go.bits .and .u8 x0 7) % 4294967296, 3, true)) else (if x0 ≥ 224 then (some ((Go.bits .and .u8 x0 15) % 4294967296, 2, true)) else (some ((Go.bits .and .u8 x0 31) % 4294967296, 1, true))))
def utf_first.f (k : Nat) (a0 : Int) : Option (Int × Int × Bool) := if a0 < 128 then (some ((a0) % 4294967296, 0, true)) else (if a0 ≥ 248 then (utf_first.j0 k a0 true) else (utf_first.j0 k a0 (decide (a0 < 192))))
theorem utf_first.calls (k : Nat) (a0 : Int) (r1 : Int) (r2 : Int) (r3 : Bool) (w : World) (h : utf_first.f k a0 = some (r1, r2, r3)) :
  Calls Try.prog 133 #[.int .u8 a0] w fun e w' => e = .returned (.tuple #[.int .u32 r1, .int .i64 r2, .bool r3]) ∧ Drawn0 w w' := by
 have H : (if a0 < 128 then (some ((a0) % 4294967296, 0, true)) else (if a0 ≥ 248 then (utf_first.j0 k a0 true) else (utf_first.j0 k a0 (decide (a0 < 192))))) = some (r1, r2, r3) := h
 clear h
 by_cases c2 : a0 < 128
 ·rw [if_pos c2] at H
  have c2b0 : decide (a0 < 128) = true := decide_eq_true c2
  clear c2
  simp only [Option.some.injEq, Prod.mk.injEq] at H
  obtain ⟨rfl, rfl, rfl⟩ := H
  go_enter Try.func133, Try.ntmps133
  go_wp2
  go_ret3
  exact ⟨by first | rfl | (simp; done) | (simp [*]; done), by repeat (first | exact Drawn0.refl _ | apply Drawn0.step)⟩
 ·rw [if_neg c2] at H
  have c2b0 : decide (a0 < 128) = false := decide_eq_false c2
  clear c2
  have HC3 := Aside0.mk H
  clear H
  go_enter Try.func133, Try.ntmps133
  go_upto_region 3 with (fail)
  go_cut [10] (fun v10 wc => ∃ (kq : Nat) (x10_2 : Bool), v10 = .bool x10_2 ∧ Aside0 (utf_first.j0 kq a0 x10_2 = some (r1, r2, r3)) ∧ Aside0 (kq ≤ k) ∧ Drawn0 w wc)
  case first =>
   have H := HC3.out
   clear HC3
   by_cases c4 : a0 ≥ 248
   ·rw [if_pos c4] at H
    have c4b0 : decide (248 ≤ a0) = true := decide_eq_true c4
    clear c4
    (first | rw [c4b0] | (simp only [i64_w, i32_w]; rw [c4b0]) | skip)
    have H' := Aside0.mk H
    clear H
    go_wp2
    go_meet
    case rel => exact ⟨_, (true), (by first | rfl | (simp; done) | (simp [*]; done)), H', ⟨by first | omega | exact Nat.le_refl _⟩, by repeat (first | exact Drawn0.refl _ | apply Drawn0.step)⟩
   ·rw [if_neg c4] at H
    have c4b0 : decide (248 ≤ a0) = false := decide_eq_false c4
    clear c4
    (first | rw [c4b0] | (simp only [i64_w, i32_w]; rw [c4b0]) | skip)
    have H' := Aside0.mk H
    clear H
    go_wp2
    go_meet
    case rel => exact ⟨_, (decide (a0 < 192)), (by first | rfl | (simp; done) | (simp [*]; done)), H', ⟨by first | omega | exact Nat.le_refl _⟩, by repeat (first | exact Drawn0.refl _ | apply Drawn0.step)⟩
  case rest =>
   clear HC3
   try clear c1
   try clear c2
   try clear c2b0
   try clear p2
   try clear c4
   try clear c4b0
   obtain ⟨kq, x10_2, rfl, HA, HJ2, ⟨mc2, rfl⟩⟩ := hcut
   cases kq with
   | zero => exact absurd HA.out (by simp [utf_first.j0])
   | succ kj2 =>
    have H := HA.out
    clear HA
    simp only [utf_first.j0] at H
    by_cases c5 : x10_2 = true
    ·subst c5
     have H1 : (some (0, 0, false)) = some (r1, r2, r3) := by rw [if_pos rfl] at H; exact H
     clear H
     have H := H1
     clear H1
     simp only [Option.some.injEq, Prod.mk.injEq] at H
     obtain ⟨rfl, rfl, rfl⟩ := H
     go_wp2
     go_ret3
     exact ⟨by first | rfl | (simp; done) | (simp [*]; done), by repeat (first | exact Drawn0.refl _ | apply Drawn0.step)⟩
    ·replace c5 := Bool.eq_false_iff.mpr c5
     subst c5
     have H1 : (if a0 ≥ 240 then (some ((Go.bits .and .u8 a0 7) % 4294967296, 3, true)) else (if a0 ≥ 224 then (some ((Go.bits .and .u8 a0 15) % 4294967296, 2, true)) else (some ((Go.bits .and .u8 a0 31) % 4294967296, 1, true)))) = some (r1, r2, r3) := by rw [if_neg (show ¬ (false = true) by decide)] at H; exact H
     clear H
     have H := H1
     clear H1
     by_cases c6 : a0 ≥ 240
     ·rw [if_pos c6] at H
      have c6b0 : decide (240 ≤ a0) = true := decide_eq_true c6
      clear c6
      simp only [Option.some.injEq, Prod.mk.injEq] at H
      obtain ⟨rfl, rfl, rfl⟩ := H
      go_wp2
      go_ret3
      exact ⟨by first | rfl | (simp; done) | (simp [*]; done), by repeat (first | exact Drawn0.refl _ | apply Drawn0.step)⟩
     ·rw [if_neg c6] at H
      have c6b0 : decide (240 ≤ a0) = false := decide_eq_false c6
      clear c6
      by_cases c7 : a0 ≥ 224
      ·rw [if_pos c7] at H
       have c7b0 : decide (224 ≤ a0) = true := decide_eq_true c7
       clear c7
       simp only [Option.some.injEq, Prod.mk.injEq] at H
       obtain ⟨rfl, rfl, rfl⟩ := H
       go_wp2
       go_ret3
       exact ⟨by first | rfl | (simp; done) | (simp [*]; done), by repeat (first | exact Drawn0.refl _ | apply Drawn0.step)⟩
      ·rw [if_neg c7] at H
       have c7b0 : decide (224 ≤ a0) = false := decide_eq_false c7
       clear c7
       simp only [Option.some.injEq, Prod.mk.injEq] at H
       obtain ⟨rfl, rfl, rfl⟩ := H
       go_wp2
       go_ret3
       exact ⟨by first | rfl | (simp; done) | (simp [*]; done), by repeat (first | exact Drawn0.refl _ | apply Drawn0.step)⟩
end Go.Proofs.Ytdilbnggedidnaa.PVal
namespace Go.Proofs.Ytdilbnggedidnaa.PVal
open Go.RowKit Go.Proofs.YtdilbnggedidnaaW.PrintWords Go.Proofs.YtdilbnggedidnaaW.PrintLast
set_option linter.unusedVariables false
set_option linter.unusedSimpArgs false
theorem more134_any (x : Int) (w : World) : Calls Try.prog 134 #[.int .u32 x] w fun e w' => e = .returned (.int .i64 (moreN x : Int)) ∧ w = w' := by
 by_cases h1 : x ≤ 127
 ·go_enter Try.func134, Try.ntmps134
  go_wp2_with fail
  go_ret
  exact ⟨by simp [moreN, h1], rfl⟩
 ·by_cases h2 : x ≤ 2047
  ·go_enter Try.func134, Try.ntmps134
   go_wp2_with fail
   go_ret
   exact ⟨by unfold moreN; rw [if_neg (by omega), if_pos h2]; rfl, rfl⟩
  ·by_cases h3 : x ≤ 65535
   ·go_enter Try.func134, Try.ntmps134
    go_wp2_with fail
    go_ret
    exact ⟨by unfold moreN; rw [if_neg (by omega), if_neg (by omega), if_pos h3]; rfl, rfl⟩
   ·go_enter Try.func134, Try.ntmps134
    go_wp2_with fail
    go_ret
    exact ⟨by unfold moreN; rw [if_neg (by omega), if_neg (by omega), if_neg (by omega)]; rfl, rfl⟩
theorem char117_any (x : Int) (h : 0 ≤ x) (w : World) : Calls Try.prog 117 #[.int .u64 x] w fun e w' => e = .returned (.bool (isChar x)) ∧ w = w' := by
 by_cases h1 : x ≤ 1114111
 ·by_cases h2 : x < 55296
  ·go_enter Try.func117, Try.ntmps117
   go_wp2_with fail
   go_ret
   exact ⟨congrArg Ending.returned (congrArg Value.bool (by rw [Bool.eq_iff_iff]; simp [isChar]; omega)), rfl⟩
  ·go_enter Try.func117, Try.ntmps117
   go_wp2_with fail
   go_ret
   exact ⟨congrArg Ending.returned (congrArg Value.bool (by rw [Bool.eq_iff_iff]; simp [isChar]; omega)), rfl⟩
 ·go_enter Try.func117, Try.ntmps117
  go_wp2_with fail
  go_ret
  exact ⟨congrArg Ending.returned (congrArg Value.bool (by rw [Bool.eq_iff_iff]; simp [isChar]; omega)), rfl⟩
theorem add_nought (a : Addr) : a.add 0 = a := by unfold Addr.add; simp
theorem add_one' (a : Addr) : a.add 1 = ⟨a.block, a.off + 1, none⟩ := by unfold Addr.add; simp
def u32of (r : Option (Int × Nat)) : Value := .tuple #[.int .u32 (r.getD (0, 0)).1, .int .i64 ((r.getD (0, 0)).2 : Int)]
theorem Nat.or_disjoint' (a b : Nat) (hb : b < 64) : a * 64 ||| b = a * 64 + b := by
 have := Nat.two_pow_add_eq_or_of_lt (i := 6) (b := b) hb a
 rw [Nat.mul_comm a 64]
 exact this.symm
theorem first133_any (x : Int) (h0 : 0 ≤ x) (h1 : x ≤ 255) (w : World) : Calls Try.prog 133 #[.int .u8 x] w fun e w' => ∃ r1 r2 r3, e = .returned (.tuple #[.int .u32 r1, .int .i64 r2, .bool r3]) ∧ (match headP x with
  | none => r1 = 0 ∧ r2 = 0 ∧ r3 = false
  | some (c, n) => c = r1 ∧ r2 = (n : Int) ∧ r3 = true) ∧ Drawn0 w w' := by
 have key : ∃ r1 r2 r3, utf_first.f 1 x = some (r1, r2, r3) ∧ (match headP x with
  | none => r1 = 0 ∧ r2 = 0 ∧ r3 = false
  | some (c, n) => c = r1 ∧ r2 = (n : Int) ∧ r3 = true) := by
  unfold utf_first.f headP
  by_cases a1 : x < 128
  ·rw [if_pos a1, if_pos a1]
   exact ⟨_, _, _, rfl, by omega, rfl, rfl⟩
  ·rw [if_neg a1, if_neg a1]
   by_cases a2 : x ≥ 248
   ·rw [if_pos a2, if_pos a2]
    exact ⟨_, _, _, rfl, rfl, rfl, rfl⟩
   ·rw [if_neg a2, if_neg a2]
    by_cases a3 : x < 192
    ·rw [if_pos a3, decide_eq_true a3]
     exact ⟨_, _, _, rfl, rfl, rfl, rfl⟩
    ·rw [if_neg a3, decide_eq_false a3]
     simp only [utf_first.j0]
     rw [if_neg (by decide)]
     by_cases a4 : x ≥ 240
     ·rw [if_pos a4, if_pos a4, u8_and7 x h0 (by omega)]
      exact ⟨_, _, _, rfl, by omega, rfl, rfl⟩
     ·rw [if_neg a4, if_neg a4]
      by_cases a5 : x ≥ 224
      ·rw [if_pos a5, if_pos a5, u8_and15 x h0 (by omega)]
       exact ⟨_, _, _, rfl, by omega, rfl, rfl⟩
      ·rw [if_neg a5, if_neg a5, u8_and31 x h0 (by omega)]
       exact ⟨_, _, _, rfl, by omega, rfl, rfl⟩
 obtain ⟨r1, r2, r3, hf, hm⟩ := key
 exact (utf_first.calls 1 x r1 r2 r3 w hf).mono fun e w' ⟨he, hd⟩ => ⟨r1, r2, r3, he, hm, hd⟩
theorem headP_bd {x c : Int} {n : Nat} (h0 : 0 ≤ x) (h : headP x = some (c, n)) : 0 ≤ c ∧ n ≤ 3 ∧ (n = 0 ∧ c < 128 ∨ 1 ≤ n ∧ c < 32) := by
 unfold headP at h
 split at h
 ·simp only [Option.some.injEq, Prod.mk.injEq] at h; omega
 ·split at h
  ·simp at h
  ·split at h
   ·simp at h
   ·split at h
    ·simp only [Option.some.injEq, Prod.mk.injEq] at h; omega
    ·split at h <;> (simp only [Option.some.injEq, Prod.mk.injEq] at h; omega)
def CharInv (t : List Int) (n : Nat) (c0 : Int) (i cc : Int) : Prop :=
 1 ≤ i ∧ i ≤ n + 1 ∧ n ≤ 3 ∧ n ≤ t.length ∧ 0 ≤ cc ∧ (n = 0 ∧ cc < 128 ∨ i = 1 ∧ cc < 32 ∨ i = 2 ∧ cc < 2048 ∨ i = 3 ∧ cc < 131072 ∨ i = 4 ∧ cc < 8388608) ∧ tailP ((n : Int) + 1 - i).toNat cc (t.drop (i - 1).toNat) = tailP n c0 t
theorem char130_any (l : List Int) (hl : bytesR l) (hp : 0 < l.length) (A : Option Addr) (c : Nat) (w : World) (ha : Kd.C (Kd.int .u8) w A l.length l) (hc : l.length ≤ c) :
  Calls Try.prog 130 #[.slice A l.length c] w fun e w' => e = .returned (u32of (charP l)) ∧ Below w.heap.size w w' := by
 obtain ⟨x, t, rfl⟩ := List.exists_cons_of_length_pos hp
 have hm : (x :: t).length ≤ 9223372036854775807 := Kd.C_max ha
 simp only [List.length_cons] at hm
 obtain ⟨ad, e1, hx0⟩ := Kd.at_int ha 0 (by omega) (by simp only [List.length_cons]; omega)
 cases e1
 have HA := Aside0.mk ha
 have hx := hl x (by simp)
 clear ha hp
 have h0 : rd (x :: t) 0 = x := rfl
 rw [h0] at hx0
 rw [show (0 : Int).toNat = 0 from rfl, add_nought] at hx0
 have hz : (0 : Int) < (t.length : Int) + 1 := by omega
 go_enter Try.func130, Try.ntmps130
 go_wp2_with fail
 refine wp_scope_jumps 0 (fun a' w' => Aside0 (Below w.heap.size w w') ∧ ∃ (c0 cc i : Int) (n : Nat) (u1 u6 u8 u9 u10 u11 u12 u13 u14 u15 u16 u17 u18 u19 u20 u21 u22 u23 u24 u25 u26 u27 u28 u29 u30 u31 u32 u33 u34 u35 u36 u37 u38 u39 u40 u41 u42 u43 u44 u45 u46 u47 u48 u49 u50 u51 u52 u53 u54 u55 u56 : Value), a' = { tmps := #[.slice (some ad) (t.length + 1) c, u1, .int .u32 0, .int .i64 0, .int .u32 cc, .int .i64 (n : Int), u6, .int .i64 i, u8, u9, u10, u11, u12, u13, u14, u15, u16, u17, u18, u19, u20, u21, u22, u23, u24, u25, u26, u27, u28, u29, u30, u31, u32, u33, u34, u35, u36, u37, u38, u39, u40, u41, u42, u43, u44, u45, u46, u47, u48, u49, u50, u51, u52, u53, u54, u55, u56], defers := [] } ∧ Aside0 (headP x = some (c0, n) ∧ CharInv t n c0 i cc)) (fun a' _ => 5 - (intOf (a'.tmps.getD 7 undef)).toNat) rfl ?_ ?_
 ·go_wp2_with fail
  refine (first133_any x hx.1 hx.2 _).mono ?_
  rintro e w2 ⟨r1, r2, r3, rfl, hr, hd⟩
  have HW := Aside0.mk hd.below
  have hx2 : w2.cell? ad = some (.int .u8 x) := (hd.below.cell (World.block_lt_of_cell? w _ hx0)).trans hx0
  clear hd
  cases hh : headP x with
  | none =>
   rw [hh] at hr
   obtain ⟨rfl, rfl, rfl⟩ := hr
   have HE : Aside0 (charP (x :: t) = none) := ⟨by simp [charP, hh]⟩
   clear hh
   go_wp2_with fail
   simp only [Exit.jump]
   go_ret2
   exact ⟨by rw [HE.out]; rfl, HW.out⟩
  | some p =>
   obtain ⟨c0, n⟩ := p
   rw [hh] at hr
   obtain ⟨rfl, rfl, rfl⟩ := hr
   have hbd0 := headP_bd hx.1 hh
   have HH := Aside0.mk hh
   clear hh
   by_cases hlen : n ≤ t.length
   ·have hi : CharInv t n c0 1 c0 := by
     refine ⟨by omega, by omega, hbd0.2.1, hlen, hbd0.1, by omega, ?_⟩
     rw [show ((n : Int) + 1 - 1).toNat = n by omega]
     rfl
    have HI := Aside0.mk hi
    have hge : decide ((t.length : Int) + 1 ≤ (n : Int)) = false := decide_eq_false (by omega)
    clear hi
    go_wp2_with fail
    go_step3
    by_cases hin : ((1 : Int) : Int) ≤ (n : Int)
    ·obtain ⟨ad', e2, hy0⟩ := Kd.at_int HA.out (1 : Int) (by omega) (by simp only [List.length_cons]; omega)
     cases e2
     have hy1 := (HW.out.cell (World.block_lt_of_cell? w _ hy0)).trans hy0
     have hyl : (1 : Int) < (t.length : Int) + 1 := by omega
     obtain ⟨y, hyy⟩ : ∃ y, rd (x :: t) (1 : Int) = y := ⟨_, rfl⟩
     have hyr : 0 ≤ y ∧ y ≤ 255 := by
      have : rd (x :: t) (1 : Int) ∈ x :: t := by
       unfold rd
       rw [List.getD_eq_getElem?_getD, List.getElem?_eq_getElem (by simp only [List.length_cons]; omega)]
       exact List.getElem_mem _
      rw [hyy] at this
      exact hl y this
     have hdr : t.drop ((1 : Int) - 1).toNat = y :: t.drop ((1 : Int) + 1 - 1).toNat := by
      have h2 : ((1 : Int) - 1).toNat < t.length := by omega
      rw [List.drop_eq_getElem_cons h2, show ((1 : Int) + 1 - 1).toNat = ((1 : Int) - 1).toNat + 1 by omega, ← hyy]
      unfold rd
      rw [show ((1 : Int) : Int).toNat = ((1 : Int) - 1).toNat + 1 by omega]
      simp only [List.getD_eq_getElem?_getD, List.getElem?_cons_succ]
      rw [List.getElem?_eq_getElem h2]
      rfl
     rw [hyy, show (1 : Int).toNat = 1 from rfl, add_one'] at hy1
     have HD := Aside0.mk hdr
     have hbd : c0 < 67108864 ∧ 0 ≤ c0 := by have := HI.out; unfold CharInv at this; omega
     have hor : Go.bits .or .u32 (c0 * 64) (y % 64) = 64 * c0 + y % 64 := by
      rw [u32_or (c0 * 64) (y % 64) (by omega) (by omega) (by omega) (by omega)]
      have := Nat.or_disjoint' (c0.toNat) ((y % 64).toNat) (by omega)
      rw [show (c0 * 64).toNat = c0.toNat * 64 by omega, this]
      omega
     have hand : Go.bits .and .u8 y 63 = y % 64 := u8_and63 y hyr.1 (by omega)
     have HOR := Aside0.mk hor
     have HAND := Aside0.mk hand
     have hcn : decide (((1 : Int) : Int) ≤ (n : Int)) = true := decide_eq_true hin
     clear hy0 hyy hdr hor hand
     by_cases hy : y / 64 = 2
     ·have hy2 : (y / 64 != 2) = false := by rw [hy]; rfl
      have HI2 : Aside0 (CharInv t n c0 ((1 : Int) + 1) (64 * c0 + y % 64)) := by
       refine ⟨?_⟩
       have q := HI.out
       unfold CharInv at q ⊢
       obtain ⟨q1, q2, q3, q4, q5, q6, q7⟩ := q
       refine ⟨by omega, by omega, q3, q4, by omega, by omega, ?_⟩
       rw [← q7, HD.out, show ((n : Int) + 1 - (1 : Int)).toNat = ((n : Int) + 1 - ((1 : Int) + 1)).toNat + 1 by omega, tailP, if_pos hy]
      have HY := Aside0.mk hy
      clear hy
      go_wp2_with fail
      go_step3
      rw [HOR.out]
      exact ⟨rfl, HW, c0, _, _, n, _, _, _, _, _, _, _, _, _, _, _, _, _, _, _, _, _, _, _, _, _, _, _, _, _, _, _, _, _, _, _, _, _, _, _, _, _, _, _, _, _, _, _, _, _, _, _, _, _, _, _, rfl, ⟨HH.out, HI2.out⟩⟩
     ·have hy2 : (y / 64 != 2) = true := by rw [bne_iff_ne]; exact hy
      have HE : Aside0 (charP (x :: t) = none) := by
       refine ⟨?_⟩
       have q := HI.out
       unfold CharInv at q
       obtain ⟨q1, q2, q3, q4, q5, q6, q7⟩ := q
       rw [HD.out, show ((n : Int) + 1 - (1 : Int)).toNat = ((n : Int) + 1 - ((1 : Int) + 1)).toNat + 1 by omega, tailP, if_neg hy] at q7
       simp only [charP, HH.out, ← q7]
       rw [if_neg (by omega)]
      clear hy
      go_wp2_with fail
      simp only [Exit.jump]
      go_ret2
      exact ⟨by rw [HE.out]; rfl, HW.out⟩
    ·have hcn : decide (((1 : Int) : Int) ≤ (n : Int)) = false := decide_eq_false hin
     have HE : Aside0 (charP (x :: t) = if isChar c0 && moreN c0 == n then some (c0, n + 1) else none) := by
      refine ⟨?_⟩
      have q := HI.out
      unfold CharInv at q
      obtain ⟨q1, q2, q3, q4, q5, q6, q7⟩ := q
      rw [show ((n : Int) + 1 - (1 : Int)).toNat = 0 by omega, tailP] at q7
      simp only [charP, HH.out, ← q7]
      rw [if_neg (by omega)]
     have hbd : c0 < 67108864 ∧ 0 ≤ c0 := by have := HI.out; unfold CharInv at this; omega
     go_wp2_with fail
     refine (char117_any c0 hbd.2 _).mono ?_
     rintro e w3 ⟨rfl, rfl⟩
     cases hq : isChar c0 with
     | false =>
      have HQ := Aside0.mk hq
      clear hq
      go_wp2_with fail
      simp only [Exit.jump]
      go_ret2
      exact ⟨by rw [HE.out, HQ.out]; rfl, HW.out⟩
     | true =>
      have HQ := Aside0.mk hq
      clear hq
      go_wp2_with fail
      refine (more134_any c0 _).mono ?_
      rintro e w4 ⟨rfl, rfl⟩
      by_cases hmn : moreN c0 = n
      ·have hb : ((moreN c0 : Int) != (n : Int)) = false := by rw [hmn]; simp
       have HM := Aside0.mk hmn
       clear hmn
       go_wp2_with fail
       simp only [Exit.jump]
       go_ret2
       exact ⟨by rw [HE.out, HQ.out, HM.out]; simp [u32of], HW.out⟩
      ·have hb : ((moreN c0 : Int) != (n : Int)) = true := by rw [bne_iff_ne]; omega
       have HM : Aside0 ((moreN c0 == n) = false) := ⟨by simpa using hmn⟩
       clear hmn
       go_wp2_with fail
       simp only [Exit.jump]
       go_ret2
       exact ⟨by rw [HE.out, HQ.out, HM.out]; rfl, HW.out⟩
   ·have HE : Aside0 (charP (x :: t) = none) := ⟨by simp only [charP, HH.out]; rw [if_pos (by omega)]⟩
    have hge : decide ((t.length : Int) + 1 ≤ (n : Int)) = true := decide_eq_true (by omega)
    go_wp2_with fail
    simp only [Exit.jump]
    go_ret2
    exact ⟨by rw [HE.out]; rfl, HW.out⟩
 ·rintro a' wr ⟨HW, c0, cc, i, n, u1, u6, u8, u9, u10, u11, u12, u13, u14, u15, u16, u17, u18, u19, u20, u21, u22, u23, u24, u25, u26, u27, u28, u29, u30, u31, u32, u33, u34, u35, u36, u37, u38, u39, u40, u41, u42, u43, u44, u45, u46, u47, u48, u49, u50, u51, u52, u53, u54, u55, u56, rfl, HX⟩
  obtain ⟨hh, hi⟩ := HX.out
  have HH := Aside0.mk hh
  have HI := Aside0.mk hi
  have hbd0 := headP_bd hx.1 hh
  have hi1 : 1 ≤ i := hi.1
  have hi2 : i ≤ n + 1 := hi.2.1
  have hlen : n ≤ t.length := hi.2.2.2.1
  clear HX hh hi
  by_cases hin : (i : Int) ≤ (n : Int)
  ·obtain ⟨ad', e2, hy0⟩ := Kd.at_int HA.out i (by omega) (by simp only [List.length_cons]; omega)
   cases e2
   have hy1 := (HW.out.cell (World.block_lt_of_cell? w _ hy0)).trans hy0
   have hyl : i < (t.length : Int) + 1 := by omega
   obtain ⟨y, hyy⟩ : ∃ y, rd (x :: t) i = y := ⟨_, rfl⟩
   have hyr : 0 ≤ y ∧ y ≤ 255 := by
    have : rd (x :: t) i ∈ x :: t := by
     unfold rd
     rw [List.getD_eq_getElem?_getD, List.getElem?_eq_getElem (by simp only [List.length_cons]; omega)]
     exact List.getElem_mem _
    rw [hyy] at this
    exact hl y this
   have hdr : t.drop (i - 1).toNat = y :: t.drop (i + 1 - 1).toNat := by
    have h2 : (i - 1).toNat < t.length := by omega
    rw [List.drop_eq_getElem_cons h2, show (i + 1 - 1).toNat = (i - 1).toNat + 1 by omega, ← hyy]
    unfold rd
    rw [show (i : Int).toNat = (i - 1).toNat + 1 by omega]
    simp only [List.getD_eq_getElem?_getD, List.getElem?_cons_succ]
    rw [List.getElem?_eq_getElem h2]
    rfl
   rw [hyy] at hy1
   have HD := Aside0.mk hdr
   have hbd : cc < 67108864 ∧ 0 ≤ cc := by have := HI.out; unfold CharInv at this; omega
   have hor : Go.bits .or .u32 (cc * 64) (y % 64) = 64 * cc + y % 64 := by
    rw [u32_or (cc * 64) (y % 64) (by omega) (by omega) (by omega) (by omega)]
    have := Nat.or_disjoint' (cc.toNat) ((y % 64).toNat) (by omega)
    rw [show (cc * 64).toNat = cc.toNat * 64 by omega, this]
    omega
   have hand : Go.bits .and .u8 y 63 = y % 64 := u8_and63 y hyr.1 (by omega)
   have HOR := Aside0.mk hor
   have HAND := Aside0.mk hand
   have hcn : decide ((i : Int) ≤ (n : Int)) = true := decide_eq_true hin
   clear hy0 hyy hdr hor hand
   by_cases hy : y / 64 = 2
   ·have hy2 : (y / 64 != 2) = false := by rw [hy]; rfl
    have HI2 : Aside0 (CharInv t n c0 (i + 1) (64 * cc + y % 64)) := by
     refine ⟨?_⟩
     have q := HI.out
     unfold CharInv at q ⊢
     obtain ⟨q1, q2, q3, q4, q5, q6, q7⟩ := q
     refine ⟨by omega, by omega, q3, q4, by omega, by omega, ?_⟩
     rw [← q7, HD.out, show ((n : Int) + 1 - i).toNat = ((n : Int) + 1 - (i + 1)).toNat + 1 by omega, tailP, if_pos hy]
    have HY := Aside0.mk hy
    clear hy
    go_wp2_with fail
    go_step3
    rw [HOR.out]
    exact ⟨rfl, ⟨HW, c0, _, _, n, _, _, _, _, _, _, _, _, _, _, _, _, _, _, _, _, _, _, _, _, _, _, _, _, _, _, _, _, _, _, _, _, _, _, _, _, _, _, _, _, _, _, _, _, _, _, _, _, _, _, _, rfl, ⟨HH.out, HI2.out⟩⟩, by simp [intOf]; omega⟩
   ·have hy2 : (y / 64 != 2) = true := by rw [bne_iff_ne]; exact hy
    have HE : Aside0 (charP (x :: t) = none) := by
     refine ⟨?_⟩
     have q := HI.out
     unfold CharInv at q
     obtain ⟨q1, q2, q3, q4, q5, q6, q7⟩ := q
     rw [HD.out, show ((n : Int) + 1 - i).toNat = ((n : Int) + 1 - (i + 1)).toNat + 1 by omega, tailP, if_neg hy] at q7
     simp only [charP, HH.out, ← q7]
     rw [if_neg (by omega)]
    clear hy
    go_wp2_with fail
    simp only [Exit.jump]
    go_ret2
    exact ⟨by rw [HE.out]; rfl, HW.out⟩
  ·have hcn : decide ((i : Int) ≤ (n : Int)) = false := decide_eq_false hin
   have HE : Aside0 (charP (x :: t) = if isChar cc && moreN cc == n then some (cc, n + 1) else none) := by
    refine ⟨?_⟩
    have q := HI.out
    unfold CharInv at q
    obtain ⟨q1, q2, q3, q4, q5, q6, q7⟩ := q
    rw [show ((n : Int) + 1 - i).toNat = 0 by omega, tailP] at q7
    simp only [charP, HH.out, ← q7]
    rw [if_neg (by omega)]
   have hbd : cc < 67108864 ∧ 0 ≤ cc := by have := HI.out; unfold CharInv at this; omega
   go_wp2_with fail
   refine (char117_any cc hbd.2 _).mono ?_
   rintro e w3 ⟨rfl, rfl⟩
   cases hq : isChar cc with
   | false =>
    have HQ := Aside0.mk hq
    clear hq
    go_wp2_with fail
    simp only [Exit.jump]
    go_ret2
    exact ⟨by rw [HE.out, HQ.out]; rfl, HW.out⟩
   | true =>
    have HQ := Aside0.mk hq
    clear hq
    go_wp2_with fail
    refine (more134_any cc _).mono ?_
    rintro e w4 ⟨rfl, rfl⟩
    by_cases hmn : moreN cc = n
    ·have hb : ((moreN cc : Int) != (n : Int)) = false := by rw [hmn]; simp
     have HM := Aside0.mk hmn
     clear hmn
     go_wp2_with fail
     simp only [Exit.jump]
     go_ret2
     exact ⟨by rw [HE.out, HQ.out, HM.out]; simp [u32of], HW.out⟩
    ·have hb : ((moreN cc : Int) != (n : Int)) = true := by rw [bne_iff_ne]; omega
     have HM : Aside0 ((moreN cc == n) = false) := ⟨by simpa using hmn⟩
     clear hmn
     go_wp2_with fail
     simp only [Exit.jump]
     go_ret2
     exact ⟨by rw [HE.out, HQ.out, HM.out]; rfl, HW.out⟩
end Go.Proofs.Ytdilbnggedidnaa.PVal
namespace Go.Proofs.Ytdilbnggedidnaa.PVal
open Go.RowKit Go.Proofs.YtdilbnggedidnaaW.PrintWords Go.Proofs.YtdilbnggedidnaaW.PrintLast
set_option linter.unusedVariables false
set_option linter.unusedSimpArgs false
theorem info125v : (Try.prog.info? 125).map (fun i => (i.zero, i.size, i.bytes)) = some (some (.int .u32 0), 1, 4) := by kernel_rfl
theorem info5v : (Try.prog.info? 5).map (fun i => (i.zero, i.size, i.bytes)) = some (some (.int .u8 0), 1, 1) := by kernel_rfl
theorem charP_le {b : List Int} (hb : bytesR b) {c : Int} {m : Nat} (h : charP b = some (c, m)) : 1 ≤ m ∧ m ≤ b.length := by
 obtain ⟨_, h2, h3⟩ := one_charP hb h
 have := oneP_pos c
 have h4 := congrArg List.length h3
 simp only [List.length_append] at h4
 omega
theorem chars127_any (l : List Int) (hl : bytesR l) (hs : l.length ≤ 4294967296) (A : Option Addr) (c : Nat) (w : World) (ha : Kd.C (Kd.int .u8) w A l.length l) (hc : l.length ≤ c) :
  Calls Try.prog 127 #[.slice A l.length c] w fun e w' => (∃ v, e = .returned (.tuple #[v, .bool (textR l)])) ∧ Below w.heap.size w w' := by
 have HA := Aside0.mk ha
 obtain ⟨i5, hi5, hz5⟩ := Option.map_eq_some_iff.1 info5v
 simp only [Prod.mk.injEq] at hz5
 have H5 := Aside0.mk hz5.2.1
 have I5 := Aside0.mk hi5
 clear ha hz5 hi5
 go_enter Try.func127, Try.ntmps127
 go_wp2_with fail
 go_loopg [0, 4] l.length (fun gk v0 v4 wr => ∃ (b out : List Int) (A0 A4 : Option Addr) (c0 c4 : Nat), v0 = .slice A0 b.length c0 ∧ v4 = .slice A4 out.length c4 ∧ Aside0 (Kd.C (Kd.int .u8) w A0 b.length b ∧ b.length ≤ c0 ∧ bytesR b ∧ b.length ≤ gk ∧ out.length + b.length ≤ l.length ∧ (charsF gk b).isSome = textR l) ∧ Aside0 ((Kd.int .u32).R 125 wr w.heap.size (fun _ => True) (.slice A4 out.length c4) out) ∧ Aside0 (Below w.heap.size w wr))
 case atStart => exact ⟨l, [], A, none, c, 0, rfl, rfl, ⟨HA.out, hc, hl, Nat.le_refl _, by simp, rfl⟩, ⟨Kd.R_nil _ _ _ _ _⟩, ⟨Below.refl _ _⟩⟩
 case round =>
  obtain ⟨b, out, A0, A4, c0, c4, rfl, rfl, HI, HO, HW⟩ := hrel
  obtain ⟨hC, hc0, hbr, hgk, hsum, htx⟩ := HI.out
  have HC := Aside0.mk hC
  have HT := Aside0.mk htx
  have HBR := Aside0.mk hbr
  clear HI hC htx hbr
  by_cases hb : 0 < b.length
  ·have hbI : (0 : Int) < (b.length : Int) := by omega
   have hcd : decide ((0 : Int) < (b.length : Int)) = true := decide_eq_true hbI
   have hcd2 : decide (0 < b.length) = true := decide_eq_true hb
   go_wp2_with fail
   refine (char130_any b HBR.out hb A0 c0 wr (Kd.C_below HC.out HW.out) hc0).mono ?_
   rintro e w2 ⟨rfl, hbl⟩
   have HW2 : Aside0 (Below w.heap.size w w2) := ⟨below_step HW.out hbl⟩
   have HO2 : Aside0 ((Kd.int .u32).R 125 w2 w.heap.size (fun _ => True) (.slice A4 out.length c4) out) := ⟨Kd.R_below HO.out hbl⟩
   obtain ⟨k, rfl⟩ : ∃ k, gk = k + 1 := ⟨gk - 1, by omega⟩
   clear hbl HO
   cases hp : charP b with
   | none =>
    have HE : Aside0 (textR l = false) := by
     refine ⟨?_⟩
     rw [← HT.out]
     cases b with
     | nil => simp at hb
     | cons y t => simp [charsF, hp]
    clear hp
    simp only [u32of, Option.getD_none]
    go_wp2_with fail
    go_ret2
    exact ⟨⟨_, by rw [HE.out]; rfl⟩, HW2.out⟩
   | some p =>
    obtain ⟨x, m⟩ := p
    obtain ⟨hm1, hm2⟩ := charP_le HBR.out hp
    have HE : Aside0 ((charsF k (b.drop m)).isSome = textR l) := by
     refine ⟨?_⟩
     rw [← HT.out]
     cases b with
     | nil => simp at hb
     | cons y t => simp only [charsF, hp, Option.isSome_map]
    obtain ⟨A', hcut, hread⟩ := print_cut_of (P := Try.prog) (Value.int .u8) (0 : Int) 63 5 .i64 Try.underlying63 I5.out H5.out A0 b.length c0 m hm2
    have hmz : ((m : Int) == 0) = false := by rw [beq_eq_false_iff_ne]; omega
    have HR := Aside0.mk (hread w b hc0 (Kd.reads_of_C HC.out))
    clear hp hread
    simp only [u32of, Option.getD_some]
    go_wp2_with (at_builtin; refine Kd.R_append (Kd.int .u32) (w0 := w) w.heap.size rfl (.tmp 17) (.tmp 19) 122 125 _ 4 rfl Try.underlying122 info125v rfl (by decide) (by decide) (.slice A4 out.length c4) out x [.int .u32 x] (fun _ => True) (fun _ => False) rfl rfl rfl (fun _ h => h.elim) (fun _ _ => trivial) HO2.out HW2.out HW2.out.size (by omega) ?_; intro v1 w3 hR hB hG hA)
    obtain ⟨A5, c5, rfl⟩ := Kd.R_slice hR
    go_roundg k
    case measure => omega
    case rel =>
     exact ⟨b.drop m, out ++ [x], A', A5, c0 - m, c5, by simp, rfl, ⟨by have := Kd.C_of_reads (d := (0 : Int)) (h1 := fun _ => rfl) HR.out; rw [List.length_drop]; exact this, by simp; omega, bytesR_drop HBR.out m, by simp; omega, by simp; omega, HE.out⟩, ⟨hR⟩, ⟨hB⟩⟩
  ·have hcd : decide ((0 : Int) < (b.length : Int)) = false := decide_eq_false (by omega)
   have hcd2 : decide (0 < b.length) = false := decide_eq_false hb
   obtain rfl : b = [] := List.eq_nil_of_length_eq_zero (by omega)
   have HE : Aside0 (textR l = true) := ⟨by rw [← HT.out]; cases gk <;> rfl⟩
   go_wp2_with fail
   go_ret2
   exact ⟨⟨_, by rw [HE.out]; rfl⟩, HW.out⟩
theorem right118_any (l : List Int) (hl : bytesR l) (hs : l.length ≤ 4294967296) (A : Option Addr) (c : Nat) (w : World) (ha : Kd.C (Kd.int .u8) w A l.length l) (hc : l.length ≤ c) :
  Calls Try.prog 118 #[.slice A l.length c] w fun e w' => e = .returned (.bool (textR l)) ∧ Below w.heap.size w w' := by
 have HA := Aside0.mk ha
 have HL := Aside0.mk hl
 clear ha hl
 go_enter Try.func118, Try.ntmps118
 go_wp2_with fail
 refine (chars127_any l HL.out hs A c w HA.out hc).mono ?_
 rintro e w2 ⟨⟨v, rfl⟩, hb⟩
 have HW := Aside0.mk hb
 clear hb
 go_wp2_with fail
 go_ret
 exact ⟨rfl, HW.out⟩
end Go.Proofs.Ytdilbnggedidnaa.PVal
namespace Go.Proofs.Ytdilbnggedidnaa.PVal
open Go.RowKit Go.Proofs.YtdilbnggedidnaaW.PrintWords Go.Proofs.YtdilbnggedidnaaW.PrintLast
attribute [local go_sem] max2_int max_two
set_option linter.unusedVariables false
set_option linter.unusedSimpArgs false
def utf_Ascii.l0 : Nat → List Int → Int → Int → Option (Bool)
 | 0, _, _, _ => none
 | k + 1, x5, x6, x7 => if x7 < x6 then (if 0 ≤ x7 then (if x7 < (x5.length : Int) then (if (rd x5 x7) ≥ 128 then (some false) else (utf_Ascii.l0 k x5 x6 (wrap64 (x7 + 1)))) else (none)) else (none)) else (some true)
def utf_Ascii.f (k : Nat) (l0 : List Int) : Option (Bool) := utf_Ascii.l0 k l0 (l0.length : Int) 0
theorem utf_Ascii.calls (k : Nat) (A0 : Option Addr) (c0 : Nat) (l0 : List Int) (r : Bool) (w : World) (hr0 : Kd.C (Kd.int .u8) w A0 l0.length l0) (hc0 : l0.length ≤ c0) (h : utf_Ascii.f k l0 = some r) :
  Calls Try.prog 86 #[.slice A0 l0.length c0] w fun e w' => e = .returned (.bool r) ∧ Drawn0 w w' := by
 have HR0 := Aside0.mk hr0
 have HC0 := Aside0.mk hc0
 clear hr0 hc0
 have H : (utf_Ascii.l0 k l0 (l0.length : Int) 0) = some r := h
 clear h
 have H' := Aside0.mk H
 clear H
 go_enter Try.func86, Try.ntmps86
 go_wp2
 go_loopg [7] k (fun kq v7 w' => ∃ (x7_1 : Int), v7 = .int .i64 x7_1 ∧ Aside0 (utf_Ascii.l0 kq l0 (l0.length : Int) x7_1 = some r) ∧ Aside0 (kq ≤ k) ∧ Drawn0 w w')
 case atStart => exact ⟨(0), (by first | rfl | (simp; done) | (simp [*]; done)), H', ⟨Nat.le_refl _⟩, by repeat (first | exact Drawn0.refl _ | apply Drawn0.step)⟩
 case round =>
  clear H'
  obtain ⟨x7_1, rfl, HA, HK1, ⟨m1, rfl⟩⟩ := hrel
  cases gk with
  | zero => exact absurd HA.out (by simp [utf_Ascii.l0])
  | succ k1 =>
   have H := HA.out
   clear HA
   simp only [utf_Ascii.l0] at H
   by_cases c2 : x7_1 < (l0.length : Int)
   ·rw [if_pos c2] at H
    have c2b0 : decide (x7_1 < (l0.length : Int)) = true := decide_eq_true c2
    clear c2
    by_cases c3 : 0 ≤ x7_1
    ·rw [if_pos c3] at H
     have c3b0 : decide (0 ≤ x7_1) = true := decide_eq_true c3
     clear c3
     by_cases c4 : x7_1 < (l0.length : Int)
     ·rw [if_pos c4] at H
      have c4b0 : decide (x7_1 < (l0.length : Int)) = true := decide_eq_true c4
      clear c4
      by_cases c5 : (rd l0 x7_1) ≥ 128
      ·rw [if_pos c5] at H
       have c5b0 : decide (128 ≤ (rd l0 x7_1)) = true := decide_eq_true c5
       clear c5
       obtain rfl := Option.some.inj H
       have p133 : 0 ≤ (x7_1 : Int) := of_decide_eq_true (by first | (with_reducible assumption) | assumption)
       have q133 : x7_1 < (l0.length : Int) := of_decide_eq_true (by first | (with_reducible assumption) | assumption)
       obtain ⟨ad133, e133, hx133_0⟩ := Kd.at_int HR0.out x7_1 p133 q133
       cases e133
       replace p133 := eq_true p133
       replace q133 := eq_true q133
       go_wp2
       go_ret
       exact ⟨by first | rfl | (simp; done) | (simp [*]; done), by repeat (first | exact Drawn0.refl _ | apply Drawn0.step)⟩
      ·rw [if_neg c5] at H
       have c5b0 : decide (128 ≤ (rd l0 x7_1)) = false := decide_eq_false c5
       clear c5
       have H' := Aside0.mk H
       clear H
       have p133 : 0 ≤ (x7_1 : Int) := of_decide_eq_true (by first | (with_reducible assumption) | assumption)
       have q133 : x7_1 < (l0.length : Int) := of_decide_eq_true (by first | (with_reducible assumption) | assumption)
       obtain ⟨ad133, e133, hx133_0⟩ := Kd.at_int HR0.out x7_1 p133 q133
       cases e133
       replace p133 := eq_true p133
       replace q133 := eq_true q133
       go_wp2
       go_roundg k1
       case measure => have := HK1.out; omega
       case rel => exact ⟨(wrap64 (x7_1 + 1)), (by first | rfl | (simp; done) | (simp [*]; done)), H', ⟨by have := HK1.out; omega⟩, by repeat (first | exact Drawn0.refl _ | apply Drawn0.step)⟩
     ·rw [if_neg c4] at H
      exact absurd H (by simp)
    ·rw [if_neg c3] at H
     exact absurd H (by simp)
   ·rw [if_neg c2] at H
    have c2b0 : decide (x7_1 < (l0.length : Int)) = false := decide_eq_false c2
    clear c2
    obtain rfl := Option.some.inj H
    go_wp2
    go_ret
    exact ⟨by first | rfl | (simp; done) | (simp [*]; done), by repeat (first | exact Drawn0.refl _ | apply Drawn0.step)⟩
def bellwetherref02_Ascii.l0 : Nat → List Int → Int → Option (Bool)
 | 0, _, _ => none
 | k + 1, x0, x3 => if x3 < (x0.length : Int) then (if 0 ≤ x3 then (if (rd x0 x3) > 127 then (some false) else (bellwetherref02_Ascii.l0 k x0 (wrap64 (x3 + 1)))) else (none)) else (some true)
def bellwetherref02_Ascii.f (k : Nat) (l0 : List Int) : Option (Bool) := bellwetherref02_Ascii.l0 k l0 0
theorem bellwetherref02_Ascii.calls (k : Nat) (A0 : Option Addr) (c0 : Nat) (l0 : List Int) (r : Bool) (w : World) (hr0 : Kd.C (Kd.int .u8) w A0 l0.length l0) (hc0 : l0.length ≤ c0) (h : bellwetherref02_Ascii.f k l0 = some r) :
  Calls Try.prog 125 #[.slice A0 l0.length c0] w fun e w' => e = .returned (.bool r) ∧ Drawn0 w w' := by
 have HR0 := Aside0.mk hr0
 have HC0 := Aside0.mk hc0
 clear hr0 hc0
 have H : (bellwetherref02_Ascii.l0 k l0 0) = some r := h
 clear h
 have H' := Aside0.mk H
 clear H
 go_enter Try.func125, Try.ntmps125
 go_wp2
 go_loopg [3] k (fun kq v3 w' => ∃ (x3_1 : Int), v3 = .int .i64 x3_1 ∧ Aside0 (bellwetherref02_Ascii.l0 kq l0 x3_1 = some r) ∧ Aside0 (kq ≤ k) ∧ Drawn0 w w')
 case atStart => exact ⟨(0), (by first | rfl | (simp; done) | (simp [*]; done)), H', ⟨Nat.le_refl _⟩, by repeat (first | exact Drawn0.refl _ | apply Drawn0.step)⟩
 case round =>
  clear H'
  try clear c1
  obtain ⟨x3_1, rfl, HA, HK1, ⟨m1, rfl⟩⟩ := hrel
  cases gk with
  | zero => exact absurd HA.out (by simp [bellwetherref02_Ascii.l0])
  | succ k1 =>
   have H := HA.out
   clear HA
   simp only [bellwetherref02_Ascii.l0] at H
   by_cases c2 : x3_1 < (l0.length : Int)
   ·rw [if_pos c2] at H
    have c2b0 : decide (x3_1 < (l0.length : Int)) = true := decide_eq_true c2
    clear c2
    by_cases c3 : 0 ≤ x3_1
    ·rw [if_pos c3] at H
     have c3b0 : decide (0 ≤ x3_1) = true := decide_eq_true c3
     clear c3
     by_cases c4 : (rd l0 x3_1) > 127
     ·rw [if_pos c4] at H
      have c4b0 : decide (127 < (rd l0 x3_1)) = true := decide_eq_true c4
      clear c4
      obtain rfl := Option.some.inj H
      have p137 : 0 ≤ (x3_1 : Int) := of_decide_eq_true (by first | (with_reducible assumption) | assumption)
      have q137 : x3_1 < (l0.length : Int) := of_decide_eq_true (by first | (with_reducible assumption) | assumption)
      obtain ⟨ad137, e137, hx137_0⟩ := Kd.at_int HR0.out x3_1 p137 q137
      cases e137
      replace p137 := eq_true p137
      replace q137 := eq_true q137
      go_wp2
      go_ret
      exact ⟨by first | rfl | (simp; done) | (simp [*]; done), by repeat (first | exact Drawn0.refl _ | apply Drawn0.step)⟩
     ·rw [if_neg c4] at H
      have c4b0 : decide (127 < (rd l0 x3_1)) = false := decide_eq_false c4
      clear c4
      have H' := Aside0.mk H
      clear H
      have p137 : 0 ≤ (x3_1 : Int) := of_decide_eq_true (by first | (with_reducible assumption) | assumption)
      have q137 : x3_1 < (l0.length : Int) := of_decide_eq_true (by first | (with_reducible assumption) | assumption)
      obtain ⟨ad137, e137, hx137_0⟩ := Kd.at_int HR0.out x3_1 p137 q137
      cases e137
      replace p137 := eq_true p137
      replace q137 := eq_true q137
      go_wp2
      go_roundg k1
      case measure => have := HK1.out; omega
      case rel => exact ⟨(wrap64 (x3_1 + 1)), (by first | rfl | (simp; done) | (simp [*]; done)), H', ⟨by have := HK1.out; omega⟩, by repeat (first | exact Drawn0.refl _ | apply Drawn0.step)⟩
    ·rw [if_neg c3] at H
     exact absurd H (by simp)
   ·rw [if_neg c2] at H
    have c2b0 : decide (x3_1 < (l0.length : Int)) = false := decide_eq_false c2
    clear c2
    obtain rfl := Option.some.inj H
    go_wp2
    go_ret
    exact ⟨by first | rfl | (simp; done) | (simp [*]; done), by repeat (first | exact Drawn0.refl _ | apply Drawn0.step)⟩
def bellwetherref02_Char.f (a0 : Int) : Option (Bool) := if a0 < 55296 then (some true) else (if a0 > 57343 then (some (decide (a0 ≤ 1114111))) else (some false))
theorem bellwetherref02_Char.calls (a0 : Int) (r : Bool) (w : World) (h : bellwetherref02_Char.f a0 = some r) :
  Calls Try.prog 123 #[.int .u64 a0] w fun e w' => e = .returned (.bool r) ∧ Drawn0 w w' := by
 have H : (if a0 < 55296 then (some true) else (if a0 > 57343 then (some (decide (a0 ≤ 1114111))) else (some false))) = some r := h
 clear h
 by_cases c2 : a0 < 55296
 ·rw [if_pos c2] at H
  have c2b0 : decide (a0 < 55296) = true := decide_eq_true c2
  clear c2
  obtain rfl := Option.some.inj H
  go_enter Try.func123, Try.ntmps123
  go_wp2
  go_ret
  exact ⟨by first | rfl | (simp; done) | (simp [*]; done), by repeat (first | exact Drawn0.refl _ | apply Drawn0.step)⟩
 ·rw [if_neg c2] at H
  have c2b0 : decide (a0 < 55296) = false := decide_eq_false c2
  clear c2
  by_cases c3 : a0 > 57343
  ·rw [if_pos c3] at H
   have c3b0 : decide (57343 < a0) = true := decide_eq_true c3
   clear c3
   obtain rfl := Option.some.inj H
   go_enter Try.func123, Try.ntmps123
   go_wp2
   go_ret
   exact ⟨by first | rfl | (simp; done) | (simp [*]; done), by repeat (first | exact Drawn0.refl _ | apply Drawn0.step)⟩
  ·rw [if_neg c3] at H
   have c3b0 : decide (57343 < a0) = false := decide_eq_false c3
   clear c3
   obtain rfl := Option.some.inj H
   go_enter Try.func123, Try.ntmps123
   go_wp2
   go_ret
   exact ⟨by first | rfl | (simp; done) | (simp [*]; done), by repeat (first | exact Drawn0.refl _ | apply Drawn0.step)⟩
def bellwetherref02_One.f (a0 : Int) : Option (List Int) := if a0 < 128 then (some (([(a0) % 256] : List Int))) else (if a0 < 2048 then (some (([((192 + ((Int.tdiv a0 64) % 4294967296)) % 4294967296) % 256, ((128 + (Int.tmod a0 64)) % 4294967296) % 256] : List Int))) else (if a0 < 65536 then (some (([((224 + ((Int.tdiv a0 4096) % 4294967296)) % 4294967296) % 256, 128 + (((Int.tdiv a0 64) % 4294967296) % 64), ((128 + (Int.tmod a0 64)) % 4294967296) % 256] : List Int))) else (some (([((240 + ((Int.tdiv a0 262144) % 4294967296)) % 4294967296) % 256, 128 + (((Int.tdiv a0 4096) % 4294967296) % 64), 128 + (((Int.tdiv a0 64) % 4294967296) % 64), ((128 + (Int.tmod a0 64)) % 4294967296) % 256] : List Int)))))
theorem bellwetherref02_One.calls (a0 : Int) (r : List Int) (w : World) (h : bellwetherref02_One.f a0 = some r) :
  Calls Try.prog 135 #[.int .u32 a0] w fun e w' => ∃ v0_ : Value, e = .returned (v0_) ∧ Kd.R (Kd.int .u8) 5 w' w.heap.size (fun _ => True) v0_ r ∧ Below w.heap.size w w' := by
 have HB := Aside0.mk (Below.refl w.heap.size w)
 have H : (if a0 < 128 then (some (([(a0) % 256] : List Int))) else (if a0 < 2048 then (some (([((192 + ((Int.tdiv a0 64) % 4294967296)) % 4294967296) % 256, ((128 + (Int.tmod a0 64)) % 4294967296) % 256] : List Int))) else (if a0 < 65536 then (some (([((224 + ((Int.tdiv a0 4096) % 4294967296)) % 4294967296) % 256, 128 + (((Int.tdiv a0 64) % 4294967296) % 64), ((128 + (Int.tmod a0 64)) % 4294967296) % 256] : List Int))) else (some (([((240 + ((Int.tdiv a0 262144) % 4294967296)) % 4294967296) % 256, 128 + (((Int.tdiv a0 4096) % 4294967296) % 64), 128 + (((Int.tdiv a0 64) % 4294967296) % 64), ((128 + (Int.tmod a0 64)) % 4294967296) % 256] : List Int)))))) = some r := h
 clear h
 by_cases c2 : a0 < 128
 ·rw [if_pos c2] at H
  have c2b0 : decide (a0 < 128) = true := decide_eq_true c2
  clear c2
  obtain ⟨y138, hy138⟩ : ∃ y_ : List Int, y_ = (([(a0) % 256] : List Int)) := ⟨_, rfl⟩
  replace H : (some y138) = some r := by first | (rw [hy138]; with_reducible exact H) | (have H2_ := (Option.bind_some _ _).symm.trans H; rw [hy138]; with_reducible exact H2_) | (have H2_ := (Option.bind_some _ _).symm.trans H; with_reducible exact H2_) | with_reducible exact H | (rw [hy138]; exact H) | exact H
  have Ny138 := Aside0.mk hy138
  clear hy138
  obtain rfl := Option.some.inj H
  go_enter Try.func135, Try.ntmps135
  go_wp2_with (first | ((with_reducible refine gate_dst (N := 8) rfl ?_); refine Kd.R_lit (Kd.int .u8) _ 5 ?hg (N := 8) ?hd (xs := ([(a0) % 256] : List Int)) (inner := [.int .u8 ((a0) % 256)]) (ok := fun _ => True) (okp := fun _ => True) ?hr ?hp (fun _ hk => hk) trivial (Below.refl _ _) (Nat.le_refl _) (by simp) ?_; (case hd => rfl); (case hg => rfl); (case hr => first | (go_simp; done) | (go_simp; rfl)); (case hp => exact (Reps.one (show Kd.M (Kd.int .u8) _ _ _ ((a0) % 256) [.int .u8 ((a0) % 256)] from rfl) (Reps.none _ _))); intro v139 w3 ho4 hb hg_ hnew_; clear hg_ hnew_; (first | rw [← Ny138.out] at ho4 | (simp only [Int.reduceToNat] at ho4; rw [← Ny138.out] at ho4)); have n0_ := Aside0.mk (Kd.R_lower ho4 (below_size (by repeat (first | (with_reducible first | exact HB.out | apply below_alloc | apply pw_below_drewN | apply below_drew1) | exact HB.out)))); have n1_ := Aside0.mk (below_step (by repeat (first | (with_reducible first | exact HB.out | apply below_alloc | apply pw_below_drewN | apply below_drew1) | exact HB.out)) hb); clear HB; have HO140 := n0_; have HB := n1_; clear n0_ n1_; clear hb ho4))
  go_ret
  exact ⟨_, by first | rfl | (simp [errW_none, errW_some] <;> rfl) | (simp [*, errW_none, errW_some] <;> rfl), by (with_reducible repeat (first | apply Kd.R_alloc | apply Kd.R_drewN | apply Kd.R_drew)); exact HO140.out, by repeat (first | (with_reducible first | exact HB.out | apply below_alloc | apply pw_below_drewN | apply below_drew1) | exact HB.out)⟩
 ·rw [if_neg c2] at H
  have c2b0 : decide (a0 < 128) = false := decide_eq_false c2
  clear c2
  by_cases c5 : a0 < 2048
  ·rw [if_pos c5] at H
   have c5b0 : decide (a0 < 2048) = true := decide_eq_true c5
   clear c5
   obtain ⟨y141, hy141⟩ : ∃ y_ : List Int, y_ = (([((192 + ((Int.tdiv a0 64) % 4294967296)) % 4294967296) % 256, ((128 + (Int.tmod a0 64)) % 4294967296) % 256] : List Int)) := ⟨_, rfl⟩
   replace H : (some y141) = some r := by first | (rw [hy141]; with_reducible exact H) | (have H2_ := (Option.bind_some _ _).symm.trans H; rw [hy141]; with_reducible exact H2_) | (have H2_ := (Option.bind_some _ _).symm.trans H; with_reducible exact H2_) | with_reducible exact H | (rw [hy141]; exact H) | exact H
   have Ny141 := Aside0.mk hy141
   clear hy141
   obtain rfl := Option.some.inj H
   go_enter Try.func135, Try.ntmps135
   go_wp2_with (first | ((with_reducible refine gate_dst (N := 20) rfl ?_); refine Kd.R_lit (Kd.int .u8) _ 5 ?hg (N := 20) ?hd (xs := ([((192 + ((Int.tdiv a0 64) % 4294967296)) % 4294967296) % 256, ((128 + (Int.tmod a0 64)) % 4294967296) % 256] : List Int)) (inner := [.int .u8 (((192 + ((Int.tdiv a0 64) % 4294967296)) % 4294967296) % 256), .int .u8 (((128 + (Int.tmod a0 64)) % 4294967296) % 256)]) (ok := fun _ => True) (okp := fun _ => True) ?hr ?hp (fun _ hk => hk) trivial (Below.refl _ _) (Nat.le_refl _) (by simp) ?_; (case hd => rfl); (case hg => rfl); (case hr => first | (go_simp; done) | (go_simp; rfl)); (case hp => exact (Reps.one (show Kd.M (Kd.int .u8) _ _ _ (((192 + ((Int.tdiv a0 64) % 4294967296)) % 4294967296) % 256) [.int .u8 (((192 + ((Int.tdiv a0 64) % 4294967296)) % 4294967296) % 256)] from rfl) (Reps.one (show Kd.M (Kd.int .u8) _ _ _ (((128 + (Int.tmod a0 64)) % 4294967296) % 256) [.int .u8 (((128 + (Int.tmod a0 64)) % 4294967296) % 256)] from rfl) (Reps.none _ _)))); intro v142 w6 ho7 hb hg_ hnew_; clear hg_ hnew_; (first | rw [← Ny141.out] at ho7 | (simp only [Int.reduceToNat] at ho7; rw [← Ny141.out] at ho7)); have n0_ := Aside0.mk (Kd.R_lower ho7 (below_size (by repeat (first | (with_reducible first | exact HB.out | apply below_alloc | apply pw_below_drewN | apply below_drew1) | exact HB.out)))); have n1_ := Aside0.mk (below_step (by repeat (first | (with_reducible first | exact HB.out | apply below_alloc | apply pw_below_drewN | apply below_drew1) | exact HB.out)) hb); clear HB; have HO143 := n0_; have HB := n1_; clear n0_ n1_; clear hb ho7))
   go_ret
   exact ⟨_, by first | rfl | (simp [errW_none, errW_some] <;> rfl) | (simp [*, errW_none, errW_some] <;> rfl), by (with_reducible repeat (first | apply Kd.R_alloc | apply Kd.R_drewN | apply Kd.R_drew)); exact HO143.out, by repeat (first | (with_reducible first | exact HB.out | apply below_alloc | apply pw_below_drewN | apply below_drew1) | exact HB.out)⟩
  ·rw [if_neg c5] at H
   have c5b0 : decide (a0 < 2048) = false := decide_eq_false c5
   clear c5
   by_cases c8 : a0 < 65536
   ·rw [if_pos c8] at H
    have c8b0 : decide (a0 < 65536) = true := decide_eq_true c8
    clear c8
    obtain ⟨y144, hy144⟩ : ∃ y_ : List Int, y_ = (([((224 + ((Int.tdiv a0 4096) % 4294967296)) % 4294967296) % 256, 128 + (((Int.tdiv a0 64) % 4294967296) % 64), ((128 + (Int.tmod a0 64)) % 4294967296) % 256] : List Int)) := ⟨_, rfl⟩
    replace H : (some y144) = some r := by first | (rw [hy144]; with_reducible exact H) | (have H2_ := (Option.bind_some _ _).symm.trans H; rw [hy144]; with_reducible exact H2_) | (have H2_ := (Option.bind_some _ _).symm.trans H; with_reducible exact H2_) | with_reducible exact H | (rw [hy144]; exact H) | exact H
    have Ny144 := Aside0.mk hy144
    clear hy144
    obtain rfl := Option.some.inj H
    go_enter Try.func135, Try.ntmps135
    go_wp2_with (first | ((with_reducible refine gate_dst (N := 37) rfl ?_); refine Kd.R_lit (Kd.int .u8) _ 5 ?hg (N := 37) ?hd (xs := ([((224 + ((Int.tdiv a0 4096) % 4294967296)) % 4294967296) % 256, 128 + (((Int.tdiv a0 64) % 4294967296) % 64), ((128 + (Int.tmod a0 64)) % 4294967296) % 256] : List Int)) (inner := [.int .u8 (((224 + ((Int.tdiv a0 4096) % 4294967296)) % 4294967296) % 256), .int .u8 (128 + (((Int.tdiv a0 64) % 4294967296) % 64)), .int .u8 (((128 + (Int.tmod a0 64)) % 4294967296) % 256)]) (ok := fun _ => True) (okp := fun _ => True) ?hr ?hp (fun _ hk => hk) trivial (Below.refl _ _) (Nat.le_refl _) (by simp) ?_; (case hd => rfl); (case hg => rfl); (case hr => first | (go_simp; done) | (go_simp; rfl)); (case hp => exact (Reps.one (show Kd.M (Kd.int .u8) _ _ _ (((224 + ((Int.tdiv a0 4096) % 4294967296)) % 4294967296) % 256) [.int .u8 (((224 + ((Int.tdiv a0 4096) % 4294967296)) % 4294967296) % 256)] from rfl) (Reps.one (show Kd.M (Kd.int .u8) _ _ _ (128 + (((Int.tdiv a0 64) % 4294967296) % 64)) [.int .u8 (128 + (((Int.tdiv a0 64) % 4294967296) % 64))] from rfl) (Reps.one (show Kd.M (Kd.int .u8) _ _ _ (((128 + (Int.tmod a0 64)) % 4294967296) % 256) [.int .u8 (((128 + (Int.tmod a0 64)) % 4294967296) % 256)] from rfl) (Reps.none _ _))))); intro v145 w9 ho10 hb hg_ hnew_; clear hg_ hnew_; (first | rw [← Ny144.out] at ho10 | (simp only [Int.reduceToNat] at ho10; rw [← Ny144.out] at ho10)); have n0_ := Aside0.mk (Kd.R_lower ho10 (below_size (by repeat (first | (with_reducible first | exact HB.out | apply below_alloc | apply pw_below_drewN | apply below_drew1) | exact HB.out)))); have n1_ := Aside0.mk (below_step (by repeat (first | (with_reducible first | exact HB.out | apply below_alloc | apply pw_below_drewN | apply below_drew1) | exact HB.out)) hb); clear HB; have HO146 := n0_; have HB := n1_; clear n0_ n1_; clear hb ho10))
    go_ret
    exact ⟨_, by first | rfl | (simp [errW_none, errW_some] <;> rfl) | (simp [*, errW_none, errW_some] <;> rfl), by (with_reducible repeat (first | apply Kd.R_alloc | apply Kd.R_drewN | apply Kd.R_drew)); exact HO146.out, by repeat (first | (with_reducible first | exact HB.out | apply below_alloc | apply pw_below_drewN | apply below_drew1) | exact HB.out)⟩
   ·rw [if_neg c8] at H
    have c8b0 : decide (a0 < 65536) = false := decide_eq_false c8
    clear c8
    obtain ⟨y147, hy147⟩ : ∃ y_ : List Int, y_ = (([((240 + ((Int.tdiv a0 262144) % 4294967296)) % 4294967296) % 256, 128 + (((Int.tdiv a0 4096) % 4294967296) % 64), 128 + (((Int.tdiv a0 64) % 4294967296) % 64), ((128 + (Int.tmod a0 64)) % 4294967296) % 256] : List Int)) := ⟨_, rfl⟩
    replace H : (some y147) = some r := by first | (rw [hy147]; with_reducible exact H) | (have H2_ := (Option.bind_some _ _).symm.trans H; rw [hy147]; with_reducible exact H2_) | (have H2_ := (Option.bind_some _ _).symm.trans H; with_reducible exact H2_) | with_reducible exact H | (rw [hy147]; exact H) | exact H
    have Ny147 := Aside0.mk hy147
    clear hy147
    obtain rfl := Option.some.inj H
    go_enter Try.func135, Try.ntmps135
    go_wp2_with (first | ((with_reducible refine gate_dst (N := 56) rfl ?_); refine Kd.R_lit (Kd.int .u8) _ 5 ?hg (N := 56) ?hd (xs := ([((240 + ((Int.tdiv a0 262144) % 4294967296)) % 4294967296) % 256, 128 + (((Int.tdiv a0 4096) % 4294967296) % 64), 128 + (((Int.tdiv a0 64) % 4294967296) % 64), ((128 + (Int.tmod a0 64)) % 4294967296) % 256] : List Int)) (inner := [.int .u8 (((240 + ((Int.tdiv a0 262144) % 4294967296)) % 4294967296) % 256), .int .u8 (128 + (((Int.tdiv a0 4096) % 4294967296) % 64)), .int .u8 (128 + (((Int.tdiv a0 64) % 4294967296) % 64)), .int .u8 (((128 + (Int.tmod a0 64)) % 4294967296) % 256)]) (ok := fun _ => True) (okp := fun _ => True) ?hr ?hp (fun _ hk => hk) trivial (Below.refl _ _) (Nat.le_refl _) (by simp) ?_; (case hd => rfl); (case hg => rfl); (case hr => first | (go_simp; done) | (go_simp; rfl)); (case hp => exact (Reps.one (show Kd.M (Kd.int .u8) _ _ _ (((240 + ((Int.tdiv a0 262144) % 4294967296)) % 4294967296) % 256) [.int .u8 (((240 + ((Int.tdiv a0 262144) % 4294967296)) % 4294967296) % 256)] from rfl) (Reps.one (show Kd.M (Kd.int .u8) _ _ _ (128 + (((Int.tdiv a0 4096) % 4294967296) % 64)) [.int .u8 (128 + (((Int.tdiv a0 4096) % 4294967296) % 64))] from rfl) (Reps.one (show Kd.M (Kd.int .u8) _ _ _ (128 + (((Int.tdiv a0 64) % 4294967296) % 64)) [.int .u8 (128 + (((Int.tdiv a0 64) % 4294967296) % 64))] from rfl) (Reps.one (show Kd.M (Kd.int .u8) _ _ _ (((128 + (Int.tmod a0 64)) % 4294967296) % 256) [.int .u8 (((128 + (Int.tmod a0 64)) % 4294967296) % 256)] from rfl) (Reps.none _ _)))))); intro v148 w11 ho12 hb hg_ hnew_; clear hg_ hnew_; (first | rw [← Ny147.out] at ho12 | (simp only [Int.reduceToNat] at ho12; rw [← Ny147.out] at ho12)); have n0_ := Aside0.mk (Kd.R_lower ho12 (below_size (by repeat (first | (with_reducible first | exact HB.out | apply below_alloc | apply pw_below_drewN | apply below_drew1) | exact HB.out)))); have n1_ := Aside0.mk (below_step (by repeat (first | (with_reducible first | exact HB.out | apply below_alloc | apply pw_below_drewN | apply below_drew1) | exact HB.out)) hb); clear HB; have HO149 := n0_; have HB := n1_; clear n0_ n1_; clear hb ho12))
    go_ret
    exact ⟨_, by first | rfl | (simp [errW_none, errW_some] <;> rfl) | (simp [*, errW_none, errW_some] <;> rfl), by (with_reducible repeat (first | apply Kd.R_alloc | apply Kd.R_drewN | apply Kd.R_drew)); exact HO149.out, by repeat (first | (with_reducible first | exact HB.out | apply below_alloc | apply pw_below_drewN | apply below_drew1) | exact HB.out)⟩
def bellwetherref02_Text.l0 : Nat → List Int → List Int → Int → Option (List Int × Bool)
 | 0, _, _, _ => none
 | k + 1, x0, x4, x5 => if x5 < (x0.length : Int) then (if 0 ≤ x5 then ((bellwetherref02_Char.f (IntKind.u64.wrap (rd x0 x5))).bind fun t151 => (if t151 = true then ((bellwetherref02_One.f (rd x0 x5)).bind fun t153 => (if x4.length + t153.length < 140737488355328 then (bellwetherref02_Text.l0 k x0 (x4 ++ t153) (wrap64 (x5 + 1))) else (none))) else (some (([] : List Int), false)))) else (none)) else (some (x4, true))
def bellwetherref02_Text.f (k : Nat) (l0 : List Int) : Option (List Int × Bool) := bellwetherref02_Text.l0 k l0 ([] : List Int) 0
theorem bellwetherref02_Text.calls (k : Nat) (A0 : Option Addr) (c0 : Nat) (l0 : List Int) (r1 : List Int) (r2 : Bool) (w : World) (hr0 : Kd.C (Kd.int .u32) w A0 l0.length l0) (hc0 : l0.length ≤ c0) (h : bellwetherref02_Text.f k l0 = some (r1, r2)) :
  Calls Try.prog 131 #[.slice A0 l0.length c0] w fun e w' => ∃ v0_ : Value, e = .returned (.tuple #[v0_, .bool r2]) ∧ Kd.R (Kd.int .u8) 5 w' w.heap.size (fun _ => True) v0_ r1 ∧ Below w.heap.size w w' := by
 have HR0 := Aside0.mk hr0
 have HC0 := Aside0.mk hc0
 clear hr0 hc0
 have HB := Aside0.mk (Below.refl w.heap.size w)
 have H : (bellwetherref02_Text.l0 k l0 ([] : List Int) 0) = some (r1, r2) := h
 clear h
 have H' := Aside0.mk H
 clear H
 go_enter Try.func131, Try.ntmps131
 go_wp2
 go_loopg [4, 5] k (fun kq v4 v5 w' => ∃ (x4_1 : List Int) (x5_1 : Int), v5 = .int .i64 x5_1 ∧ Aside0 (bellwetherref02_Text.l0 kq l0 x4_1 x5_1 = some (r1, r2)) ∧ Aside0 (kq ≤ k) ∧ Aside0 (Kd.R (Kd.int .u8) 5 w' w.heap.size (fun _ => True) v4 x4_1) ∧ Aside0 (Below w.heap.size w w'))
 case atStart => exact ⟨(([] : List Int)), (0), (by first | rfl | (simp; done) | (simp [*]; done)), H', ⟨Nat.le_refl _⟩, ⟨by first | exact Kd.R_nil _ _ _ _ _ | exact Kd.N_nil _ _ _ _ _ | exact Kd.V_nil _ _ _ _ _ | exact Kd.Q_nil _ _ _ _ _ | exact Kd.S_nil _ _ _ _ _⟩, ⟨by repeat (first | (with_reducible first | exact HB.out | apply below_alloc | apply pw_below_drewN | apply below_drew1) | exact HB.out)⟩⟩
 case round =>
  clear H'
  try clear c1
  obtain ⟨x4_1, x5_1, rfl, HA, HK1, HO_4, HB⟩ := hrel
  cases gk with
  | zero => exact absurd HA.out (by simp [bellwetherref02_Text.l0])
  | succ k1 =>
   have H := HA.out
   clear HA
   simp only [bellwetherref02_Text.l0] at H
   by_cases c2 : x5_1 < (l0.length : Int)
   ·rw [if_pos c2] at H
    have c2b0 : decide (x5_1 < (l0.length : Int)) = true := decide_eq_true c2
    clear c2
    by_cases c3 : 0 ≤ x5_1
    ·rw [if_pos c3] at H
     have c3b0 : decide (0 ≤ x5_1) = true := decide_eq_true c3
     clear c3
     replace H := Option.bind_eq_some_iff.mp H
     obtain ⟨t151, A40, H⟩ := H
     replace H : (if t151 = true then ((bellwetherref02_One.f (rd l0 x5_1)).bind fun t153 => (if x4_1.length + t153.length < 140737488355328 then (bellwetherref02_Text.l0 k1 l0 (x4_1 ++ t153) (wrap64 (x5_1 + 1))) else (none))) else (some (([] : List Int), false))) = some (r1, r2) := H
     have A4 := Aside0.mk A40
     clear A40
     by_cases c5 : t151 = true
     ·subst c5
      have H1 : ((bellwetherref02_One.f (rd l0 x5_1)).bind fun t153 => (if x4_1.length + t153.length < 140737488355328 then (bellwetherref02_Text.l0 k1 l0 (x4_1 ++ t153) (wrap64 (x5_1 + 1))) else (none))) = some (r1, r2) := by rw [if_pos rfl] at H; exact H
      clear H
      have H := H1
      clear H1
      replace H := Option.bind_eq_some_iff.mp H
      obtain ⟨t153, A60, H⟩ := H
      replace H : (if x4_1.length + t153.length < 140737488355328 then (bellwetherref02_Text.l0 k1 l0 (x4_1 ++ t153) (wrap64 (x5_1 + 1))) else (none)) = some (r1, r2) := H
      have A6 := Aside0.mk A60
      clear A60
      by_cases c7 : x4_1.length + t153.length < 140737488355328
      ·rw [if_pos c7] at H
       have LMc7 := Aside0.mk c7
       clear c7
       obtain ⟨y156, hy156⟩ : ∃ y_ : List Int, y_ = (x4_1 ++ t153) := ⟨_, rfl⟩
       replace H : (bellwetherref02_Text.l0 k1 l0 y156 (wrap64 (x5_1 + 1))) = some (r1, r2) := by first | (rw [hy156]; with_reducible exact H) | (have H2_ := (Option.bind_some _ _).symm.trans H; rw [hy156]; with_reducible exact H2_) | (have H2_ := (Option.bind_some _ _).symm.trans H; with_reducible exact H2_) | with_reducible exact H | (rw [hy156]; exact H) | exact H
       have Ny156 := Aside0.mk hy156
       clear hy156
       have H' := Aside0.mk H
       clear H
       have p150 : 0 ≤ (x5_1 : Int) := of_decide_eq_true (by first | (with_reducible assumption) | assumption)
       have q150 : x5_1 < (l0.length : Int) := of_decide_eq_true (by first | (with_reducible assumption) | assumption)
       obtain ⟨ad150, e150, hx150_0⟩ := Kd.at_int HR0.out x5_1 p150 q150
       cases e150
       replace hx150_0 := (HB.out.cell (World.block_lt_of_cell? w _ hx150_0)).trans hx150_0
       replace p150 := eq_true p150
       replace q150 := eq_true q150
       go_wp2_with (first | ((with_reducible refine gate_callee (f := 123) rfl ?_); refine goesL_ (some 17) rfl rfl Try.func123 (by kernel_rfl) rfl #[.int .u64 (IntKind.u64.wrap (rd l0 x5_1))] rfl (by (try simp only [List.map_toArray, List.map_cons, List.map_nil]); first | done | rfl | (simp only [List.length_drop, List.length_take]; rfl)) ?_; (with_reducible refine (bellwetherref02_Char.calls (IntKind.u64.wrap (rd l0 x5_1)) true _ A4.out).mono ?_); rintro e w' ⟨rfl, ⟨nd, rfl⟩⟩; refine ⟨_, rfl, ?_⟩; have p152 : 0 ≤ (x5_1 : Int) := of_decide_eq_true (by first | (with_reducible assumption) | assumption); have q152 : x5_1 < (l0.length : Int) := of_decide_eq_true (by first | (with_reducible assumption) | assumption); obtain ⟨ad152, e152, hx152_0⟩ := Kd.at_int HR0.out x5_1 p152 q152; obtain rfl : ad150 = ad152 := (by injection e152); replace hx152_0 := (HB.out.cell (World.block_lt_of_cell? w _ hx152_0)).trans hx152_0; replace p152 := eq_true p152; replace q152 := eq_true q152) | ((with_reducible refine gate_callee (f := 135) rfl ?_); refine goesL_ (some 24) rfl rfl Try.func135 (by kernel_rfl) rfl #[.int .u32 (rd l0 x5_1)] rfl (by (try simp only [List.map_toArray, List.map_cons, List.map_nil]); first | done | rfl | (simp only [List.length_drop, List.length_take]; rfl)) ?_; (with_reducible refine (bellwetherref02_One.calls (rd l0 x5_1) t153 _ A6.out).mono ?_); rintro e w8 ⟨v154, rfl, ho0, hb⟩; refine ⟨_, rfl, ?_⟩; have n0_ := Aside0.mk (Kd.R_elder' (by (with_reducible repeat (first | apply Kd.R_alloc | apply Kd.R_drewN | apply Kd.R_drew)); exact HO_4.out) (Kd.R_base ho0) hb); have n1_ := Aside0.mk (Kd.R_lower (Kd.R_new' ho0 (Kd.R_lt (by (with_reducible repeat (first | apply Kd.R_alloc | apply Kd.R_drewN | apply Kd.R_drew)); exact HO_4.out))) (below_size (by repeat (first | (with_reducible first | exact HB.out | apply below_alloc | apply pw_below_drewN | apply below_drew1) | exact HB.out)))); have n2_ := Aside0.mk (below_step (by repeat (first | (with_reducible first | exact HB.out | apply below_alloc | apply pw_below_drewN | apply below_drew1) | exact HB.out)) hb); clear HO_4; clear HB; have HO_4 := n0_; have HO155 := n1_; have HB := n2_; clear n0_ n1_ n2_; (try clear hb); (try clear hb2); (try clear hk); (try clear hi); (try clear ho0); obtain ⟨Ao10, co10, eo10⟩ := Kd.R_slice HO155.out; subst eo10) | ((with_reducible refine gate_builtin (b := .append) (xs := #[.tmp 19, .tmp 24]) rfl ?_); at_builtin; refine Kd.R_append_rows (Kd.int .u8) (w0 := w) w.heap.size rfl (.tmp 19) (.tmp 24) 63 5 (.int .u8 0) 1 rfl Try.underlying63 info5 rfl (by decide) (by omega) u4 x4_1 t153 _ _ _ (fun k_ => some k_ ≠ (.slice Ao10 t153.length co10 : Value).ownBlock) (fun _ => False) rfl rfl ?aO ?aR (fun _ _ h => h) (fun _ h => h.elim) ?aF ?aB ?aS ?aL ?_; (case aR => repeat (first | exact (Kd.R_reads' HO155.out).2.2 | (with_reducible refine Kd.C_alloc ?_ _) | (with_reducible refine Kd.C_drewN ?_ _) | (with_reducible refine Kd.C_drew ?_))); (case aB => exact (by repeat (first | (with_reducible first | exact HB.out | apply below_alloc | apply pw_below_drewN | apply below_drew1) | exact HB.out))); (case aF => exact (fun k_ hk => Kd.fresh' (Kd.R_lt (by (with_reducible repeat (first | apply Kd.R_alloc | apply Kd.R_drewN | apply Kd.R_drew)); exact HO155.out)) k_ hk)); (case aO => exact (by (with_reducible repeat (first | apply Kd.R_alloc | apply Kd.R_drewN | apply Kd.R_drew)); exact Kd.R_mono HO_4.out (fun _ hk => hk.2))); (case aS => exact (below_size (by repeat (first | (with_reducible first | exact HB.out | apply below_alloc | apply pw_below_drewN | apply below_drew1) | exact HB.out)))); (case aL => have := LMc7.out; omega); intro v157 w9 ho hb hg hat; rw [← Ny156.out] at ho; have n0_ := Aside0.mk (Kd.R_after (ok := (fun _ => True)) (by (with_reducible repeat (first | apply Kd.R_alloc | apply Kd.R_drewN | apply Kd.R_drew)); exact HO155.out) hg hat); have n1_ := Aside0.mk (hb); have n2_ := Aside0.mk (ho); clear HO155; clear HB; clear HO_4; have HO155 := n0_; have HB := n1_; have HO158 := n2_; clear n0_ n1_ n2_; clear ho hb hg hat))
       go_roundg k1
       case measure => have := HK1.out; omega
       case rel => exact ⟨(y156), (wrap64 (x5_1 + 1)), (by first | rfl | (simp; done) | (simp [*]; done)), H', ⟨by have := HK1.out; omega⟩, ⟨by (with_reducible repeat (first | apply Kd.R_alloc | apply Kd.R_drewN | apply Kd.R_drew)); exact Kd.R_mono HO158.out (fun _ hk => trivial)⟩, ⟨by repeat (first | (with_reducible first | exact HB.out | apply below_alloc | apply pw_below_drewN | apply below_drew1) | exact HB.out)⟩⟩
      ·rw [if_neg c7] at H
       exact absurd H (by simp)
     ·replace c5 := Bool.eq_false_iff.mpr c5
      subst c5
      have H1 : (some (([] : List Int), false)) = some (r1, r2) := by rw [if_neg (show ¬ (false = true) by decide)] at H; exact H
      clear H
      have H := H1
      clear H1
      simp only [Option.some.injEq, Prod.mk.injEq] at H
      obtain ⟨rfl, rfl⟩ := H
      have p150 : 0 ≤ (x5_1 : Int) := of_decide_eq_true (by first | (with_reducible assumption) | assumption)
      have q150 : x5_1 < (l0.length : Int) := of_decide_eq_true (by first | (with_reducible assumption) | assumption)
      obtain ⟨ad150, e150, hx150_0⟩ := Kd.at_int HR0.out x5_1 p150 q150
      cases e150
      replace hx150_0 := (HB.out.cell (World.block_lt_of_cell? w _ hx150_0)).trans hx150_0
      replace p150 := eq_true p150
      replace q150 := eq_true q150
      go_wp2_with (first | ((with_reducible refine gate_callee (f := 123) rfl ?_); refine goesL_ (some 17) rfl rfl Try.func123 (by kernel_rfl) rfl #[.int .u64 (IntKind.u64.wrap (rd l0 x5_1))] rfl (by (try simp only [List.map_toArray, List.map_cons, List.map_nil]); first | done | rfl | (simp only [List.length_drop, List.length_take]; rfl)) ?_; (with_reducible refine (bellwetherref02_Char.calls (IntKind.u64.wrap (rd l0 x5_1)) false _ A4.out).mono ?_); rintro e w' ⟨rfl, ⟨nd, rfl⟩⟩; refine ⟨_, rfl, ?_⟩))
      go_ret2
      exact ⟨_, by first | rfl | (simp [errW_none, errW_some] <;> rfl) | (simp [*, errW_none, errW_some] <;> rfl), by first | exact Kd.R_nil _ _ _ _ _ | exact Kd.N_nil _ _ _ _ _ | exact Kd.V_nil _ _ _ _ _ | exact Kd.Q_nil _ _ _ _ _ | exact Kd.S_nil _ _ _ _ _, by repeat (first | (with_reducible first | exact HB.out | apply below_alloc | apply pw_below_drewN | apply below_drew1) | exact HB.out)⟩
    ·rw [if_neg c3] at H
     exact absurd H (by simp)
   ·rw [if_neg c2] at H
    have c2b0 : decide (x5_1 < (l0.length : Int)) = false := decide_eq_false c2
    clear c2
    simp only [Option.some.injEq, Prod.mk.injEq] at H
    obtain ⟨rfl, rfl⟩ := H
    go_wp2
    go_ret2
    exact ⟨_, by first | rfl | (simp [errW_none, errW_some] <;> rfl) | (simp [*, errW_none, errW_some] <;> rfl), by (with_reducible repeat (first | apply Kd.R_alloc | apply Kd.R_drewN | apply Kd.R_drew)); exact HO_4.out, by repeat (first | (with_reducible first | exact HB.out | apply below_alloc | apply pw_below_drewN | apply below_drew1) | exact HB.out)⟩
end Go.Proofs.Ytdilbnggedidnaa.PVal
namespace Go.Proofs.Ytdilbnggedidnaa.PVal
open Go.RowKit Go.Proofs.YtdilbnggedidnaaW.PrintWords Go.Proofs.YtdilbnggedidnaaW.PrintLast
set_option linter.unusedVariables false
set_option linter.unusedSimpArgs false
theorem blt_asymm : ∀ a b : List UInt8, Op.bytesLess a b = true → Op.bytesLess b a = false
 | [], [], h => by simp [Op.bytesLess] at h
 | _ :: _, [], h => by simp [Op.bytesLess] at h
 | [], _ :: _, _ => rfl
 | x :: a, y :: b, h => by
  simp only [Op.bytesLess, Bool.or_eq_true, Bool.and_eq_true, decide_eq_true_eq, beq_iff_eq] at h
  simp only [Op.bytesLess, Bool.or_eq_false_iff, decide_eq_false_iff_not, Bool.and_eq_false_iff, beq_eq_false_iff_ne]
  rcases h with h | ⟨rfl, h⟩
  ·exact ⟨fun h2 => absurd (UInt8.lt_trans h h2) (UInt8.lt_irrefl _), .inl (fun e => by subst e; exact UInt8.lt_irrefl _ h)⟩
  ·exact ⟨UInt8.lt_irrefl _, .inr (blt_asymm a b h)⟩
theorem eqb_both (a b : List UInt8) : ((Op.bytesLess a b || a == b) && (Op.bytesLess b a || b == a)) = (a == b) := by
 by_cases h : a = b
 ·subst h; simp
 ·have h1 : (a == b) = false := by simpa using h
  have h2 : (b == a) = false := by simpa using fun e => h e.symm
  rw [h1, h2]
  cases h3 : Op.bytesLess a b with
  | false => simp
  | true => simp [blt_asymm a b h3]
theorem strOf_inj {a b : List Int} (ha : bytesR a) (hb : bytesR b) (h : (strOfNums a).toList = (strOfNums b).toList) : a = b := by
 rw [ByteArray.toList_eq, ByteArray.toList_eq, strOfNums_data, strOfNums_data] at h
 induction a generalizing b with
 | nil => cases b with
  | nil => rfl
  | cons y b => simp at h
 | cons x a ih => cases b with
  | nil => simp at h
  | cons y b =>
   simp only [List.map_cons, List.cons.injEq] at h
   have hx := ha x (by simp)
   have hy := hb y (by simp)
   have h1 := congrArg UInt8.toNat h.1
   rw [UInt8.toNat_ofNat_of_lt' (by show x.toNat < 256; omega), UInt8.toNat_ofNat_of_lt' (by show y.toNat < 256; omega)] at h1
   rw [show x = y by omega, ih (fun z hz => ha z (by simp [hz])) (fun z hz => hb z (by simp [hz])) h.2]
theorem eqBytes132_any (a b : List Int) (ha : bytesR a) (hb : bytesR b) (A B : Option Addr) (c d : Nat) (w : World) (hA : Kd.C (Kd.int .u8) w A a.length a) (hB : Kd.C (Kd.int .u8) w B b.length b) :
  Calls Try.prog 132 #[.slice A a.length c, .slice B b.length d] w fun e w' => e = .returned (.bool (decide (a = b))) ∧ Below w.heap.size w w' := by
 have q1 := Kd.C_string (c := c) Try.underlying63 Try.underlying5 Try.underlying9 hA
 have q2 := Kd.C_string (c := d) Try.underlying63 Try.underlying5 Try.underlying9 hB
 have hd : decide (a = b) = ((strOfNums a).toList == (strOfNums b).toList) := by
  rw [Bool.eq_iff_iff]
  simp only [decide_eq_true_eq, beq_iff_eq]
  exact ⟨fun h => by rw [h], strOf_inj ha hb⟩
 have HD := Aside0.mk hd
 have HE := Aside0.mk (eqb_both (strOfNums a).toList (strOfNums b).toList)
 clear hd hA hB
 cases h1 : (Op.bytesLess (strOfNums a).toList (strOfNums b).toList || (strOfNums a).toList == (strOfNums b).toList) with
 | true =>
  have HH := Aside0.mk h1
  go_enter Try.func132, Try.ntmps132
  go_wp2_with fail
  go_ret
  refine ⟨?_, Below.refl _ _⟩
  rw [HD.out, ← HE.out, HH.out]
  simp
 | false =>
  have HH := Aside0.mk h1
  go_enter Try.func132, Try.ntmps132
  go_wp2_with fail
  go_ret
  refine ⟨?_, Below.refl _ _⟩
  rw [HD.out, ← HE.out, HH.out]
  simp
def u32R (l : List Int) : Prop := ∀ x ∈ l, 0 ≤ x ∧ x < 4294967296
theorem one_f {x : Int} (h0 : 0 ≤ x) (h : isChar x = true) : bellwetherref02_One.f x = some (oneP x) := by
 simp only [isChar, decide_eq_true_eq] at h
 unfold bellwetherref02_One.f oneP
 have td : ∀ k : Int, Int.tdiv x k = x / k := fun k => Int.tdiv_eq_ediv_of_nonneg h0
 have tm : ∀ k : Int, Int.tmod x k = x % k := fun k => Int.tmod_eq_emod_of_nonneg h0
 simp only [td, tm]
 by_cases h1 : x < 128
 ·rw [if_pos h1, if_pos h1]; congr 2; omega
 ·rw [if_neg h1, if_neg h1]
  by_cases h2 : x < 2048
  ·rw [if_pos h2, if_pos h2]
   simp only [Option.some.injEq, List.cons.injEq, and_true]
   exact ⟨by omega, by omega⟩
  ·rw [if_neg h2, if_neg h2]
   by_cases h3 : x < 65536
   ·rw [if_pos h3, if_pos h3]
    simp only [Option.some.injEq, List.cons.injEq, and_true]
    exact ⟨by omega, by omega, by omega⟩
   ·rw [if_neg h3, if_neg h3]
    simp only [Option.some.injEq, List.cons.injEq, and_true]
    exact ⟨by omega, by omega, by omega, by omega⟩
theorem char_f {x : Int} (h0 : 0 ≤ x) (h : x < 4294967296) : bellwetherref02_Char.f (IntKind.u64.wrap x) = some (isChar x) := by
 have e : IntKind.u64.wrap x = x := by
  have : IntKind.u64.wrap x = x % 18446744073709551616 := by simp [IntKind.wrap, IntKind.bits, IntKind.signed]
  omega
 rw [e]
 unfold bellwetherref02_Char.f isChar
 by_cases h1 : x < 55296
 ·rw [if_pos h1]; congr 1; symm; rw [decide_eq_true_eq]; omega
 ·rw [if_neg h1]
  by_cases h2 : x > 57343
  ·rw [if_pos h2]; congr 1; exact decide_eq_decide.mpr (by omega)
  ·rw [if_neg h2]; congr 1; symm; rw [decide_eq_false_iff_not]; omega
def textP (l : List Int) : List Int × Bool := if l.all isChar then (l.flatMap oneP, true) else ([], false)
theorem rd_atI (pre : List Int) (x : Int) (l : List Int) : rd (pre ++ x :: l) (pre.length : Int) = x := by
 unfold rd; simp [List.getD_eq_getElem?_getD]
theorem oneP_le (x : Int) : (oneP x).length ≤ 4 := by by_cases h1 : x < 128 <;> by_cases h2 : x < 2048 <;> by_cases h3 : x < 65536 <;> simp [oneP, h1, h2, h3]
theorem text_l : ∀ (l pre out : List Int) (k : Nat), l.length + 1 ≤ k → u32R l → out.length + 4 * l.length < 140737488355328 → (pre ++ l).length ≤ 4294967296 →
  bellwetherref02_Text.l0 k (pre ++ l) out (pre.length : Int) = some (if l.all isChar then (out ++ l.flatMap oneP, true) else ([], false))
 | [], pre, out, k, hk, _, _, _ => by
  obtain ⟨k, rfl⟩ : ∃ m, k = m + 1 := ⟨k - 1, by omega⟩
  simp only [bellwetherref02_Text.l0]
  rw [if_neg (by simp)]; simp
 | x :: l, pre, out, k, hk, hu, hb, hp => by
  obtain ⟨k, rfl⟩ : ∃ m, k = m + 1 := ⟨k - 1, by omega⟩
  have hx := hu x (by simp)
  simp only [bellwetherref02_Text.l0]
  rw [if_pos (by simp; omega), if_pos (by omega), rd_atI, char_f hx.1 hx.2]
  simp only [Option.bind_some]
  cases hc : isChar x with
  | false => simp [hc]
  | true =>
   rw [if_pos rfl, one_f hx.1 hc]
   simp only [Option.bind_some]
   have h4 := oneP_le x
   simp only [List.length_cons, List.length_append] at hk hb hp
   rw [if_pos (by omega)]
   have h5 : wrap64 ((pre.length : Int) + 1) = ((pre ++ [x]).length : Int) := by unfold wrap64; simp; omega
   have := text_l l (pre ++ [x]) (out ++ oneP x) k (by omega) (fun y hy => hu y (by simp [hy])) (by simp only [List.length_append]; omega) (by simp; omega)
   rw [List.append_assoc, List.singleton_append] at this
   rw [h5, this]
   simp [hc]
end Go.Proofs.Ytdilbnggedidnaa.PVal
namespace Go.Proofs.Ytdilbnggedidnaa.PVal
open Go.RowKit Go.Proofs.YtdilbnggedidnaaW.PrintWords Go.Proofs.YtdilbnggedidnaaW.PrintLast
set_option linter.unusedVariables false
set_option linter.unusedSimpArgs false
theorem u32R_snoc {l : List Int} (h : u32R l) {x : Int} (hx : 0 ≤ x ∧ x < 4294967296) : u32R (l ++ [x]) := fun y hy => by
 rcases List.mem_append.1 hy with hy | hy
 ·exact h y hy
 ·rw [List.mem_singleton.1 hy]; exact hx
theorem lenTail_nil (n : Nat) (x : Int) : lenTail n x [] = x := by cases n <;> rfl
def LenInv (l : List Int) (at_ : Int) (n : Nat) (x0 i x : Int) : Prop :=
 1 ≤ i ∧ i ≤ n ∧ 0 ≤ x ∧ (n = 1 ∧ x < 256 ∨ i = 1 ∧ x < 32 ∨ i = 2 ∧ x < 2048 ∨ i = 3 ∧ x < 131072 ∨ i = 4 ∧ x < 8388608) ∧ lenTail ((n : Int) - i).toNat x (l.drop (at_ + i).toNat) = lenTail (n - 1) x0 (l.drop (at_ + 1).toNat)
theorem rd_byte {l : List Int} (hl : bytesR l) {i : Int} (h0 : 0 ≤ i) (h1 : i < l.length) : 0 ≤ rd l i ∧ rd l i ≤ 255 := by
 have : rd l i ∈ l := by
  unfold rd
  rw [List.getD_eq_getElem?_getD, List.getElem?_eq_getElem (by omega)]
  exact List.getElem_mem _
 exact hl _ this
theorem drop_rdI {l : List Int} {i : Int} (h0 : 0 ≤ i) (h1 : i < l.length) : l.drop i.toNat = rd l i :: l.drop (i + 1).toNat := by
 have h2 : i.toNat < l.length := by omega
 rw [List.drop_eq_getElem_cons h2, show (i + 1).toNat = i.toNat + 1 by omega]
 unfold rd
 rw [List.getD_eq_getElem?_getD, List.getElem?_eq_getElem h2]
 rfl
theorem oneP_bytes {x : Int} (h : isChar x = true) : ∀ z ∈ oneP x, 0 ≤ z ∧ z ≤ 255 := by
 simp only [isChar, decide_eq_true_eq] at h
 intro z hz
 by_cases h1 : x < 128
 ·simp [oneP, h1] at hz; omega
 ·by_cases h2 : x < 2048
  ·simp [oneP, h1, h2] at hz; omega
  ·by_cases h3 : x < 65536
   ·simp [oneP, h1, h2, h3] at hz; omega
   ·simp [oneP, h1, h2, h3] at hz; omega
theorem rchars129_any (l : List Int) (hl : bytesR l) (hs : l.length ≤ 4294967290) (A : Option Addr) (c : Nat) (w : World) (ha : Kd.C (Kd.int .u8) w A l.length l) (hc : l.length ≤ c) :
  Calls Try.prog 129 #[.slice A l.length c] w fun e w' => (∃ v, e = .returned (.tuple #[v, .bool (textR l)])) ∧ Below w.heap.size w w' := by
 have HA := Aside0.mk ha
 have HL := Aside0.mk hl
 clear ha hl
 go_enter Try.func129, Try.ntmps129
 go_wp2_with fail
 go_loopg [4, 5] l.length (fun gk v4 v5 wr => ∃ (out : List Int) (A4 : Option Addr) (c4 : Nat) (at_ : Int), v4 = .slice A4 out.length c4 ∧ v5 = .int .i64 at_ ∧ Aside0 (0 ≤ at_ ∧ at_ ≤ (l.length : Int) + 3 ∧ (l.length : Int) - at_ ≤ gk ∧ (out.length : Int) ≤ at_ ∧ u32R out ∧ out.length ≤ l.length ∧ out ++ lenF gk (l.drop at_.toNat) = lenF l.length l) ∧ Aside0 ((Kd.int .u32).R 125 wr w.heap.size (fun _ => True) (.slice A4 out.length c4) out) ∧ Aside0 (Below w.heap.size w wr))
 case atStart => exact ⟨[], none, 0, 0, rfl, rfl, ⟨by omega, by omega, by omega, by simp, fun _ h => by simp at h, by simp, by simp⟩, ⟨Kd.R_nil _ _ _ _ _⟩, ⟨Below.refl _ _⟩⟩
 case round =>
  obtain ⟨out, A4, c4, at_, rfl, rfl, HI, HO, HW⟩ := hrel
  obtain ⟨h0, h1, h2, h3, h4, h5, h6⟩ := HI.out
  have HU := Aside0.mk h4
  have HV := Aside0.mk h6
  clear HI h4 h6
  by_cases hlt : at_ < (l.length : Int)
  ·have hcd : decide (at_ < (l.length : Int)) = true := decide_eq_true hlt
   obtain ⟨ad, e1, hy0⟩ := Kd.at_int HA.out at_ h0 hlt
   cases e1
   have hyr := rd_byte HL.out h0 hlt
   have hdr := drop_rdI h0 hlt
   obtain ⟨y, hyy⟩ : ∃ y, rd l at_ = y := ⟨_, rfl⟩
   rw [hyy] at hy0 hyr hdr
   have hy1 := (HW.out.cell (World.block_lt_of_cell? w _ hy0)).trans hy0
   obtain ⟨k, rfl⟩ : ∃ k, gk = k + 1 := ⟨gk - 1, by omega⟩
   have HD := Aside0.mk hdr
   have hstep : out ++ (lenTail ((lenHead y).2 - 1) (lenHead y).1 (l.drop (at_ + 1).toNat) :: lenF k ((y :: l.drop (at_ + 1).toNat).drop (lenHead y).2)) = lenF l.length l := by
    rw [← HV.out, hdr]; simp only [lenF]
   have HS := Aside0.mk hstep
   clear hy0 hyy hdr hstep
   obtain ⟨wo, rfl⟩ : ∃ wo : World, wo = wr := ⟨_, rfl⟩
   by_cases t1 : y ≥ 240
   ·have d1 : decide ((240 : Int) ≤ y) = true := decide_eq_true t1
    have hlh : lenHead y = (y % 8, 4) := by unfold lenHead; rw [if_pos t1]
    have HLH := Aside0.mk hlh
    clear hlh
    go_wp2_with fail
    go_loopg [7, 8] (4 : Nat) (fun g2 v7 v8 wq => ∃ (i x : Int), v7 = .int .u32 x ∧ v8 = .int .i64 i ∧ Aside0 (LenInv l at_ 4 (y % 8) i x ∧ 4 - i ≤ g2) ∧ wq = wo)
    case atStart => exact ⟨1, y % 8, by first | rfl | (simp; omega), rfl, ⟨⟨by omega, by omega, by omega, by omega, rfl⟩, by omega⟩, rfl⟩
    case round =>
     obtain ⟨i, x, rfl, rfl, HJ, rfl⟩ := hrel
     obtain ⟨hj, hg2⟩ := HJ.out
     have hj' := hj
     unfold LenInv at hj'
     obtain ⟨j1, j2, j3, j4, j5⟩ := hj'
     have HJ5 := Aside0.mk j5
     clear hj j5 HJ
     by_cases hin : i < 4
     ·have hc1 : decide (i < 4) = true := decide_eq_true hin
      by_cases hil : at_ + i < (l.length : Int)
      ·have hc2 : decide (at_ + i < (l.length : Int)) = true := decide_eq_true hil
       obtain ⟨ad2, e2, hz0⟩ := Kd.at_int HA.out (at_ + i) (by omega) hil
       cases e2
       have hzr := rd_byte HL.out (by omega : 0 ≤ at_ + i) hil
       have hdz := drop_rdI (by omega : 0 ≤ at_ + i) hil
       obtain ⟨z, hzz⟩ : ∃ z, rd l (at_ + i) = z := ⟨_, rfl⟩
       rw [hzz] at hz0 hzr hdz
       have hz1 := (HW.out.cell (World.block_lt_of_cell? w _ hz0)).trans hz0
       have HN : Aside0 (LenInv l at_ 4 (y % 8) (i + 1) (64 * x + z % 64)) := by
        refine ⟨⟨by omega, by omega, by omega, by omega, ?_⟩⟩
        rw [← HJ5.out, hdz, show ((4 : Nat) : Int) - i = (4 : Int) - i by rfl, show ((4 : Int) - i).toNat = ((4 : Int) - (i + 1)).toNat + 1 by omega, lenTail, show at_ + (i + 1) = at_ + i + 1 by omega]
        rfl
       have hw0 : 0 ≤ at_ + i := by omega
       have hx64 : 64 * x < 4294967296 := by omega
       clear hz0 hzz hdz
       go_wp2_with fail
       obtain ⟨g3, rfl⟩ : ∃ g3, gk = g3 + 1 := ⟨gk - 1, by omega⟩
       go_roundg g3
       case measure => omega
       case rel => exact ⟨i + 1, 64 * x + z % 64, by first | rfl | (simp; omega), by go_num, ⟨HN.out, by omega⟩, rfl⟩
      ·have hc2 : decide (at_ + i < (l.length : Int)) = false := decide_eq_false hil
       have HF : Aside0 (lenTail (4 - 1) (y % 8) (l.drop (at_ + 1).toNat) = x) := ⟨by rw [← HJ5.out, List.drop_of_length_le (by omega), lenTail_nil]⟩
       have hw0 : 0 ≤ at_ + i := by omega
       have hxb : 0 ≤ x ∧ x < 4294967296 := by omega
       have HXB := Aside0.mk hxb
       clear HJ5
       go_wp2_with (at_builtin; refine Kd.R_append (Kd.int .u32) (w0 := w) w.heap.size rfl (.tmp 59) (.tmp 61) 122 125 _ 4 rfl Try.underlying122 info125v rfl (by decide) (by decide) (.slice A4 out.length c4) out x [.int .u32 x] (fun _ => True) (fun _ => False) rfl rfl rfl (fun _ h => h.elim) (fun _ _ => trivial) HO.out HW.out HW.out.size (by omega) ?_; intro v1 w3 hR hB hG hA)
       obtain ⟨A5, c5, rfl⟩ := Kd.R_slice hR
       go_roundg k
       case measure => omega
       case rel =>
        refine ⟨out ++ [x], A5, c5, at_ + 4, rfl, by first | rfl | (simp; omega), ⟨by omega, by omega, by omega, by simp; omega, u32R_snoc HU.out HXB.out, by simp; omega, ?_⟩, ⟨hR⟩, ⟨hB⟩⟩
        rw [← HS.out, HLH.out]
        simp only [List.append_assoc, List.singleton_append]
        rw [HF.out, ← HD.out, List.drop_drop]
        congr 4
        omega
     ·have hc1 : decide (i < 4) = false := decide_eq_false hin
      have HF : Aside0 (lenTail (4 - 1) (y % 8) (l.drop (at_ + 1).toNat) = x) := ⟨by rw [← HJ5.out, show i = 4 by omega]; simp [lenTail]⟩
      have hxb : 0 ≤ x ∧ x < 4294967296 := by omega
      have HXB := Aside0.mk hxb
      clear HJ5
      go_wp2_with (at_builtin; refine Kd.R_append (Kd.int .u32) (w0 := w) w.heap.size rfl (.tmp 59) (.tmp 61) 122 125 _ 4 rfl Try.underlying122 info125v rfl (by decide) (by decide) (.slice A4 out.length c4) out x [.int .u32 x] (fun _ => True) (fun _ => False) rfl rfl rfl (fun _ h => h.elim) (fun _ _ => trivial) HO.out HW.out HW.out.size (by omega) ?_; intro v1 w3 hR hB hG hA)
      obtain ⟨A5, c5, rfl⟩ := Kd.R_slice hR
      go_roundg k
      case measure => omega
      case rel =>
       refine ⟨out ++ [x], A5, c5, at_ + 4, rfl, by first | rfl | (simp; omega), ⟨by omega, by omega, by omega, by simp; omega, u32R_snoc HU.out HXB.out, by simp; omega, ?_⟩, ⟨hR⟩, ⟨hB⟩⟩
       rw [← HS.out, HLH.out]
       simp only [List.append_assoc, List.singleton_append]
       rw [HF.out, ← HD.out, List.drop_drop]
       congr 4
       omega
   ·have d1 : decide ((240 : Int) ≤ y) = false := decide_eq_false t1
    by_cases t2 : y ≥ 224
    ·have d2 : decide ((224 : Int) ≤ y) = true := decide_eq_true t2
     have hlh : lenHead y = (y % 16, 3) := by unfold lenHead; rw [if_neg t1, if_pos t2]
     have HLH := Aside0.mk hlh
     clear hlh
     go_wp2_with fail
     go_loopg [7, 8] (4 : Nat) (fun g2 v7 v8 wq => ∃ (i x : Int), v7 = .int .u32 x ∧ v8 = .int .i64 i ∧ Aside0 (LenInv l at_ 3 (y % 16) i x ∧ 4 - i ≤ g2) ∧ wq = wo)
     case atStart => exact ⟨1, y % 16, by first | rfl | (simp; omega), rfl, ⟨⟨by omega, by omega, by omega, by omega, rfl⟩, by omega⟩, rfl⟩
     case round =>
      obtain ⟨i, x, rfl, rfl, HJ, rfl⟩ := hrel
      obtain ⟨hj, hg2⟩ := HJ.out
      have hj' := hj
      unfold LenInv at hj'
      obtain ⟨j1, j2, j3, j4, j5⟩ := hj'
      have HJ5 := Aside0.mk j5
      clear hj j5 HJ
      by_cases hin : i < 3
      ·have hc1 : decide (i < 3) = true := decide_eq_true hin
       by_cases hil : at_ + i < (l.length : Int)
       ·have hc2 : decide (at_ + i < (l.length : Int)) = true := decide_eq_true hil
        obtain ⟨ad2, e2, hz0⟩ := Kd.at_int HA.out (at_ + i) (by omega) hil
        cases e2
        have hzr := rd_byte HL.out (by omega : 0 ≤ at_ + i) hil
        have hdz := drop_rdI (by omega : 0 ≤ at_ + i) hil
        obtain ⟨z, hzz⟩ : ∃ z, rd l (at_ + i) = z := ⟨_, rfl⟩
        rw [hzz] at hz0 hzr hdz
        have hz1 := (HW.out.cell (World.block_lt_of_cell? w _ hz0)).trans hz0
        have HN : Aside0 (LenInv l at_ 3 (y % 16) (i + 1) (64 * x + z % 64)) := by
         refine ⟨⟨by omega, by omega, by omega, by omega, ?_⟩⟩
         rw [← HJ5.out, hdz, show ((3 : Nat) : Int) - i = (3 : Int) - i by rfl, show ((3 : Int) - i).toNat = ((3 : Int) - (i + 1)).toNat + 1 by omega, lenTail, show at_ + (i + 1) = at_ + i + 1 by omega]
         rfl
        have hw0 : 0 ≤ at_ + i := by omega
        have hx64 : 64 * x < 4294967296 := by omega
        clear hz0 hzz hdz
        go_wp2_with fail
        obtain ⟨g3, rfl⟩ : ∃ g3, gk = g3 + 1 := ⟨gk - 1, by omega⟩
        go_roundg g3
        case measure => omega
        case rel => exact ⟨i + 1, 64 * x + z % 64, by first | rfl | (simp; omega), by go_num, ⟨HN.out, by omega⟩, rfl⟩
       ·have hc2 : decide (at_ + i < (l.length : Int)) = false := decide_eq_false hil
        have HF : Aside0 (lenTail (3 - 1) (y % 16) (l.drop (at_ + 1).toNat) = x) := ⟨by rw [← HJ5.out, List.drop_of_length_le (by omega), lenTail_nil]⟩
        have hw0 : 0 ≤ at_ + i := by omega
        have hxb : 0 ≤ x ∧ x < 4294967296 := by omega
        have HXB := Aside0.mk hxb
        clear HJ5
        go_wp2_with (at_builtin; refine Kd.R_append (Kd.int .u32) (w0 := w) w.heap.size rfl (.tmp 59) (.tmp 61) 122 125 _ 4 rfl Try.underlying122 info125v rfl (by decide) (by decide) (.slice A4 out.length c4) out x [.int .u32 x] (fun _ => True) (fun _ => False) rfl rfl rfl (fun _ h => h.elim) (fun _ _ => trivial) HO.out HW.out HW.out.size (by omega) ?_; intro v1 w3 hR hB hG hA)
        obtain ⟨A5, c5, rfl⟩ := Kd.R_slice hR
        go_roundg k
        case measure => omega
        case rel =>
         refine ⟨out ++ [x], A5, c5, at_ + 3, rfl, by first | rfl | (simp; omega), ⟨by omega, by omega, by omega, by simp; omega, u32R_snoc HU.out HXB.out, by simp; omega, ?_⟩, ⟨hR⟩, ⟨hB⟩⟩
         rw [← HS.out, HLH.out]
         simp only [List.append_assoc, List.singleton_append]
         rw [HF.out, ← HD.out, List.drop_drop]
         congr 4
         omega
      ·have hc1 : decide (i < 3) = false := decide_eq_false hin
       have HF : Aside0 (lenTail (3 - 1) (y % 16) (l.drop (at_ + 1).toNat) = x) := ⟨by rw [← HJ5.out, show i = 3 by omega]; simp [lenTail]⟩
       have hxb : 0 ≤ x ∧ x < 4294967296 := by omega
       have HXB := Aside0.mk hxb
       clear HJ5
       go_wp2_with (at_builtin; refine Kd.R_append (Kd.int .u32) (w0 := w) w.heap.size rfl (.tmp 59) (.tmp 61) 122 125 _ 4 rfl Try.underlying122 info125v rfl (by decide) (by decide) (.slice A4 out.length c4) out x [.int .u32 x] (fun _ => True) (fun _ => False) rfl rfl rfl (fun _ h => h.elim) (fun _ _ => trivial) HO.out HW.out HW.out.size (by omega) ?_; intro v1 w3 hR hB hG hA)
       obtain ⟨A5, c5, rfl⟩ := Kd.R_slice hR
       go_roundg k
       case measure => omega
       case rel =>
        refine ⟨out ++ [x], A5, c5, at_ + 3, rfl, by first | rfl | (simp; omega), ⟨by omega, by omega, by omega, by simp; omega, u32R_snoc HU.out HXB.out, by simp; omega, ?_⟩, ⟨hR⟩, ⟨hB⟩⟩
        rw [← HS.out, HLH.out]
        simp only [List.append_assoc, List.singleton_append]
        rw [HF.out, ← HD.out, List.drop_drop]
        congr 4
        omega
    ·have d2 : decide ((224 : Int) ≤ y) = false := decide_eq_false t2
     by_cases t3 : y ≥ 192
     ·have d3 : decide ((192 : Int) ≤ y) = true := decide_eq_true t3
      have hlh : lenHead y = (y % 32, 2) := by unfold lenHead; rw [if_neg t1, if_neg t2, if_pos t3]
      have HLH := Aside0.mk hlh
      clear hlh
      go_wp2_with fail
      go_loopg [7, 8] (4 : Nat) (fun g2 v7 v8 wq => ∃ (i x : Int), v7 = .int .u32 x ∧ v8 = .int .i64 i ∧ Aside0 (LenInv l at_ 2 (y % 32) i x ∧ 4 - i ≤ g2) ∧ wq = wo)
      case atStart => exact ⟨1, y % 32, by first | rfl | (simp; omega), rfl, ⟨⟨by omega, by omega, by omega, by omega, rfl⟩, by omega⟩, rfl⟩
      case round =>
       obtain ⟨i, x, rfl, rfl, HJ, rfl⟩ := hrel
       obtain ⟨hj, hg2⟩ := HJ.out
       have hj' := hj
       unfold LenInv at hj'
       obtain ⟨j1, j2, j3, j4, j5⟩ := hj'
       have HJ5 := Aside0.mk j5
       clear hj j5 HJ
       by_cases hin : i < 2
       ·have hc1 : decide (i < 2) = true := decide_eq_true hin
        by_cases hil : at_ + i < (l.length : Int)
        ·have hc2 : decide (at_ + i < (l.length : Int)) = true := decide_eq_true hil
         obtain ⟨ad2, e2, hz0⟩ := Kd.at_int HA.out (at_ + i) (by omega) hil
         cases e2
         have hzr := rd_byte HL.out (by omega : 0 ≤ at_ + i) hil
         have hdz := drop_rdI (by omega : 0 ≤ at_ + i) hil
         obtain ⟨z, hzz⟩ : ∃ z, rd l (at_ + i) = z := ⟨_, rfl⟩
         rw [hzz] at hz0 hzr hdz
         have hz1 := (HW.out.cell (World.block_lt_of_cell? w _ hz0)).trans hz0
         have HN : Aside0 (LenInv l at_ 2 (y % 32) (i + 1) (64 * x + z % 64)) := by
          refine ⟨⟨by omega, by omega, by omega, by omega, ?_⟩⟩
          rw [← HJ5.out, hdz, show ((2 : Nat) : Int) - i = (2 : Int) - i by rfl, show ((2 : Int) - i).toNat = ((2 : Int) - (i + 1)).toNat + 1 by omega, lenTail, show at_ + (i + 1) = at_ + i + 1 by omega]
          rfl
         have hw0 : 0 ≤ at_ + i := by omega
         have hx64 : 64 * x < 4294967296 := by omega
         clear hz0 hzz hdz
         go_wp2_with fail
         obtain ⟨g3, rfl⟩ : ∃ g3, gk = g3 + 1 := ⟨gk - 1, by omega⟩
         go_roundg g3
         case measure => omega
         case rel => exact ⟨i + 1, 64 * x + z % 64, by first | rfl | (simp; omega), by go_num, ⟨HN.out, by omega⟩, rfl⟩
        ·have hc2 : decide (at_ + i < (l.length : Int)) = false := decide_eq_false hil
         have HF : Aside0 (lenTail (2 - 1) (y % 32) (l.drop (at_ + 1).toNat) = x) := ⟨by rw [← HJ5.out, List.drop_of_length_le (by omega), lenTail_nil]⟩
         have hw0 : 0 ≤ at_ + i := by omega
         have hxb : 0 ≤ x ∧ x < 4294967296 := by omega
         have HXB := Aside0.mk hxb
         clear HJ5
         go_wp2_with (at_builtin; refine Kd.R_append (Kd.int .u32) (w0 := w) w.heap.size rfl (.tmp 59) (.tmp 61) 122 125 _ 4 rfl Try.underlying122 info125v rfl (by decide) (by decide) (.slice A4 out.length c4) out x [.int .u32 x] (fun _ => True) (fun _ => False) rfl rfl rfl (fun _ h => h.elim) (fun _ _ => trivial) HO.out HW.out HW.out.size (by omega) ?_; intro v1 w3 hR hB hG hA)
         obtain ⟨A5, c5, rfl⟩ := Kd.R_slice hR
         go_roundg k
         case measure => omega
         case rel =>
          refine ⟨out ++ [x], A5, c5, at_ + 2, rfl, by first | rfl | (simp; omega), ⟨by omega, by omega, by omega, by simp; omega, u32R_snoc HU.out HXB.out, by simp; omega, ?_⟩, ⟨hR⟩, ⟨hB⟩⟩
          rw [← HS.out, HLH.out]
          simp only [List.append_assoc, List.singleton_append]
          rw [HF.out, ← HD.out, List.drop_drop]
          congr 4
          omega
       ·have hc1 : decide (i < 2) = false := decide_eq_false hin
        have HF : Aside0 (lenTail (2 - 1) (y % 32) (l.drop (at_ + 1).toNat) = x) := ⟨by rw [← HJ5.out, show i = 2 by omega]; simp [lenTail]⟩
        have hxb : 0 ≤ x ∧ x < 4294967296 := by omega
        have HXB := Aside0.mk hxb
        clear HJ5
        go_wp2_with (at_builtin; refine Kd.R_append (Kd.int .u32) (w0 := w) w.heap.size rfl (.tmp 59) (.tmp 61) 122 125 _ 4 rfl Try.underlying122 info125v rfl (by decide) (by decide) (.slice A4 out.length c4) out x [.int .u32 x] (fun _ => True) (fun _ => False) rfl rfl rfl (fun _ h => h.elim) (fun _ _ => trivial) HO.out HW.out HW.out.size (by omega) ?_; intro v1 w3 hR hB hG hA)
        obtain ⟨A5, c5, rfl⟩ := Kd.R_slice hR
        go_roundg k
        case measure => omega
        case rel =>
         refine ⟨out ++ [x], A5, c5, at_ + 2, rfl, by first | rfl | (simp; omega), ⟨by omega, by omega, by omega, by simp; omega, u32R_snoc HU.out HXB.out, by simp; omega, ?_⟩, ⟨hR⟩, ⟨hB⟩⟩
         rw [← HS.out, HLH.out]
         simp only [List.append_assoc, List.singleton_append]
         rw [HF.out, ← HD.out, List.drop_drop]
         congr 4
         omega
     ·have d3 : decide ((192 : Int) ≤ y) = false := decide_eq_false t3
      have hlh : lenHead y = (y, 1) := by unfold lenHead; rw [if_neg t1, if_neg t2, if_neg t3]
      have HLH := Aside0.mk hlh
      clear hlh
      go_wp2_with fail
      go_loopg [7, 8] (4 : Nat) (fun g2 v7 v8 wq => ∃ (i x : Int), v7 = .int .u32 x ∧ v8 = .int .i64 i ∧ Aside0 (LenInv l at_ 1 (y) i x ∧ 4 - i ≤ g2) ∧ wq = wo)
      case atStart => exact ⟨1, y, by first | rfl | (simp; omega), rfl, ⟨⟨by omega, by omega, by omega, by omega, rfl⟩, by omega⟩, rfl⟩
      case round =>
       obtain ⟨i, x, rfl, rfl, HJ, rfl⟩ := hrel
       obtain ⟨hj, hg2⟩ := HJ.out
       have hj' := hj
       unfold LenInv at hj'
       obtain ⟨j1, j2, j3, j4, j5⟩ := hj'
       have HJ5 := Aside0.mk j5
       clear hj j5 HJ
       by_cases hin : i < 1
       ·exact absurd hin (by omega)
       ·have hc1 : decide (i < 1) = false := decide_eq_false hin
        have HF : Aside0 (lenTail (1 - 1) (y) (l.drop (at_ + 1).toNat) = x) := ⟨by rw [← HJ5.out, show i = 1 by omega]; simp [lenTail]⟩
        have hxb : 0 ≤ x ∧ x < 4294967296 := by omega
        have HXB := Aside0.mk hxb
        clear HJ5
        go_wp2_with (at_builtin; refine Kd.R_append (Kd.int .u32) (w0 := w) w.heap.size rfl (.tmp 59) (.tmp 61) 122 125 _ 4 rfl Try.underlying122 info125v rfl (by decide) (by decide) (.slice A4 out.length c4) out x [.int .u32 x] (fun _ => True) (fun _ => False) rfl rfl rfl (fun _ h => h.elim) (fun _ _ => trivial) HO.out HW.out HW.out.size (by omega) ?_; intro v1 w3 hR hB hG hA)
        obtain ⟨A5, c5, rfl⟩ := Kd.R_slice hR
        go_roundg k
        case measure => omega
        case rel =>
         refine ⟨out ++ [x], A5, c5, at_ + 1, rfl, by first | rfl | (simp; omega), ⟨by omega, by omega, by omega, by simp; omega, u32R_snoc HU.out HXB.out, by simp; omega, ?_⟩, ⟨hR⟩, ⟨hB⟩⟩
         rw [← HS.out, HLH.out]
         simp only [List.append_assoc, List.singleton_append]
         rw [HF.out, ← HD.out, List.drop_drop]
         congr 4
         omega
  ·have hcd : decide (at_ < (l.length : Int)) = false := decide_eq_false hlt
   have hout : out = lenF l.length l := by
    rw [← HV.out, List.drop_of_length_le (by omega)]
    cases gk <;> simp [lenF]
   have HX := Aside0.mk hout
   have HT : Aside0 (bellwetherref02_Text.f (out.length + 1) out = some (textP out)) := by
    refine ⟨?_⟩
    have := text_l out [] [] (out.length + 1) (Nat.le_refl _) HU.out (by simp; omega) (by simp; omega)
    simp only [List.nil_append, List.length_nil] at this
    unfold bellwetherref02_Text.f textP
    exact this
   clear hout HV
   obtain ⟨A4', c4', e4, hl4, hC4⟩ := Kd.R_reads HO.out
   cases e4
   have HC4 := Aside0.mk hC4
   clear hC4
   go_wp2_with fail
   generalize hq : textP out = q at HT
   obtain ⟨q1, q2⟩ := q
   refine (bellwetherref02_Text.calls _ A4 c4 out q1 q2 wr HC4.out hl4 HT.out).mono ?_
   rintro e w2 ⟨v0, rfl, hR, hb⟩
   obtain ⟨A6, c6, e6, hl6, hC6⟩ := Kd.R_reads hR
   subst e6
   have HC6 := Aside0.mk hC6
   have HW2 : Aside0 (Below w.heap.size w w2) := ⟨below_step HW.out hb⟩
   have HQ := Aside0.mk hq
   have HLW := Aside0.mk (textR_len HL.out)
   clear hR hb hC6 hq
   cases q2 with
   | false =>
    have HE : Aside0 (textR l = false) := by
     refine ⟨?_⟩
     rw [HLW.out, ← HX.out]
     have := HQ.out
     unfold textP at this
     cases ha : out.all isChar with
     | false => rfl
     | true => rw [ha] at this; simp at this
    go_wp2_with fail
    go_ret2
    exact ⟨⟨_, by rw [HE.out]; rfl⟩, HW2.out⟩
   | true =>
    have hq1 : out.all isChar = true ∧ q1 = out.flatMap oneP := by
     have := HQ.out
     unfold textP at this
     cases ha : out.all isChar with
     | false => rw [ha] at this; simp at this
     | true => rw [ha] at this; simp at this; exact ⟨rfl, this.symm⟩
    have HE : Aside0 (textR l = decide (q1 = l)) := ⟨by rw [HLW.out, ← HX.out, hq1.1, hq1.2]; rfl⟩
    have hqb : bytesR q1 := by
     rw [hq1.2]
     intro z hz
     obtain ⟨x, hx, hz⟩ := List.mem_flatMap.1 hz
     have := List.all_eq_true.1 hq1.1 x hx
     exact oneP_bytes this z hz
    have HQB := Aside0.mk hqb
    clear hq1 hqb
    go_wp2_with fail
    refine (eqBytes132_any q1 l HQB.out HL.out A6 A c6 c w2 HC6.out (Kd.C_below HA.out HW2.out)).mono ?_
    rintro e w3 ⟨rfl, hb⟩
    have HW3 : Aside0 (Below w.heap.size w w3) := ⟨below_step HW2.out hb⟩
    clear hb
    cases hd : decide (q1 = l) with
    | false =>
     have HD := Aside0.mk hd
     clear hd
     go_wp2_with fail
     go_ret2
     exact ⟨⟨_, by rw [HE.out, HD.out]; rfl⟩, HW3.out⟩
    | true =>
     have HD := Aside0.mk hd
     clear hd
     go_wp2_with fail
     go_ret2
     exact ⟨⟨_, by rw [HE.out, HD.out]; rfl⟩, HW3.out⟩
theorem rright124_any (l : List Int) (hl : bytesR l) (hs : l.length ≤ 4294967290) (A : Option Addr) (c : Nat) (w : World) (ha : Kd.C (Kd.int .u8) w A l.length l) (hc : l.length ≤ c) :
  Calls Try.prog 124 #[.slice A l.length c] w fun e w' => e = .returned (.bool (textR l)) ∧ Below w.heap.size w w' := by
 have HA := Aside0.mk ha
 have HL := Aside0.mk hl
 clear ha hl
 go_enter Try.func124, Try.ntmps124
 go_wp2_with fail
 refine (rchars129_any l HL.out hs A c w HA.out hc).mono ?_
 rintro e w2 ⟨⟨v, rfl⟩, hb⟩
 have HW := Aside0.mk hb
 clear hb
 go_wp2_with fail
 go_ret
 exact ⟨rfl, HW.out⟩
end Go.Proofs.Ytdilbnggedidnaa.PVal
namespace Go.Proofs.Ytdilbnggedidnaa.PVal
open Go.RowKit Go.Proofs.YtdilbnggedidnaaW.PrintWords Go.Proofs.YtdilbnggedidnaaW.PrintLast
attribute [local go_sem] max2_int max_two
set_option linter.unusedVariables false
set_option linter.unusedSimpArgs false
structure StepF (g : Nat) (f : Nat → Nat → Nat) : Prop where
 call : ∀ (a b : Nat) (w : World), a + b ≤ 4294967296 → Calls Try.prog g #[.int .i64 (a : Int), .int .i64 (b : Int)] w fun e w' => e = .returned (.int .i64 (f a b : Int)) ∧ w = w'
 le : ∀ a b, f a b ≤ a + b
mutual
def foldN (f : Nat → Nat → Nat) : S25 → Nat
 | ⟨_, _, _, d⟩ => foldL f 0 d + 1
def foldL (f : Nat → Nat → Nat) : Nat → List S25 → Nat
 | n, [] => n
 | n, x :: xs => foldL f (f n (foldN f x)) xs
end
theorem foldN_eq (f : Nat → Nat → Nat) (x : S25) : foldN f x = foldL f 0 x.f3 + 1 := by cases x; simp [foldN]
mutual
theorem foldN_le {f : Nat → Nat → Nat} (h : ∀ a b, f a b ≤ a + b) : ∀ x, foldN f x ≤ itemsN x
 | ⟨a, b, c, d⟩ => by simp only [foldN, itemsN]; have := foldL_le h 0 d; omega
theorem foldL_le {f : Nat → Nat → Nat} (h : ∀ a b, f a b ≤ a + b) : ∀ n l, foldL f n l ≤ n + itemsL l
 | n, [] => by simp [foldL, itemsL]
 | n, x :: l => by
  simp only [foldL, itemsL]
  have h1 := foldN_le h x
  have h2 := foldL_le h (f n (foldN f x)) l
  have h3 := h n (foldN f x)
  omega
end
mutual
theorem foldN_max : ∀ x, foldN max x = depthN x
 | ⟨a, b, c, d⟩ => by simp only [foldN, depthN]; rw [foldL_max 0 d]; simp
theorem foldL_max : ∀ n l, foldL max n l = max n (depthL l)
 | n, [] => by simp [foldL, depthL]
 | n, x :: l => by simp only [foldL, depthL]; rw [foldL_max _ l, foldN_max x, Nat.max_assoc]
end
mutual
theorem foldN_add : ∀ x, foldN (· + ·) x = itemsN x
 | ⟨a, b, c, d⟩ => by simp only [foldN, itemsN]; rw [foldL_add 0 d]; simp
theorem foldL_add : ∀ n l, foldL (· + ·) n l = n + itemsL l
 | n, [] => by simp [foldL, itemsL]
 | n, x :: l => by simp only [foldL, itemsL]; rw [foldL_add _ l, foldN_add x]; omega
end
theorem step_max : StepF 62 max := by
 refine ⟨fun a b w h => ?_, fun a b => by omega⟩
 go_enter Try.func62, Try.ntmps62
 go_wp2_with fail
 all_goals go_ret
 all_goals refine ⟨congrArg Ending.returned (congrArg (Value.int .i64) ?_), rfl⟩
 all_goals omega
theorem step_add : StepF 63 (· + ·) := by
 refine ⟨fun a b w h => ?_, fun a b => by omega⟩
 go_enter Try.func63, Try.ntmps63
 go_wp2_with fail
 go_ret
 exact ⟨by simp, rfl⟩
def FoldAt (g : Nat) (f : Nat → Nat → Nat) (x : S25) : Prop := ∀ (A : Option Addr) (c : Nat) (w : World), k25.C w A x.f3.length x.f3 → x.f3.length ≤ c →
 Calls Try.prog 61 #[.agg #[.int .u8 x.f0, .int .u64 x.f1, .string x.f2, .slice A x.f3.length c], .func (.func g) #[] #[]] w fun e w' => e = .returned (.int .i64 (foldN f x : Int)) ∧ Below w.heap.size w w'
theorem fold62_of (x : S25) (hs : itemsN x ≤ 4294967296) (ih : ∀ a ∈ x.f3, FoldAt 62 max a) : FoldAt 62 max x := by
 intro A c w ha hc
 have HA := Aside0.mk ha
 have IH := Aside0.mk ih
 have hs1 : itemsL x.f3 + 1 ≤ 4294967296 := by rw [itemsN_eq] at hs; exact hs
 have hm : x.f3.length ≤ 4294967296 := Nat.le_trans (itemsL_length _) (by omega)
 clear ha ih hs
 go_enter Try.func61, Try.ntmps61
 go_wp2_with fail
 go_loopg [5, 11] x.f3.length (fun gk v5 v11 wr => ∃ (i : Int) (n : Nat), v5 = .int .i64 (n : Int) ∧ v11 = .int .i64 i ∧ Aside0 (0 ≤ i ∧ i ≤ x.f3.length ∧ gk = x.f3.length - i.toNat ∧ foldL max n (x.f3.drop i.toNat) = foldL max 0 x.f3 ∧ n + itemsL (x.f3.drop i.toNat) ≤ itemsL x.f3) ∧ Aside0 (Below w.heap.size w wr))
 case atStart => exact ⟨0, 0, rfl, rfl, ⟨by omega, by omega, by simp, by simp, by simp⟩, ⟨(Below.refl _ _).alloc (Nat.le_refl _) _⟩⟩
 case round =>
  obtain ⟨i, n, rfl, rfl, HI, HW⟩ := hrel
  obtain ⟨hi0, hi1, hgk, hv, hn⟩ := HI.out
  have HG := Aside0.mk hgk
  have HV := Aside0.mk hv
  clear HI hgk hv
  by_cases hlt : i < x.f3.length
  ·obtain ⟨ad1, A1, c1, e1, hx0, hx1, hx2, hx3, hl1, hC1⟩ := at_T25 (Kd.C_below HA.out HW.out) i hi0 hlt
   cases e1
   have HC1 := Aside0.mk hC1
   have HX := Aside0.mk (IH.out (rd_T25 x.f3 i) (rd_mem hi0 hlt))
   have hd := drop_rd hi0 hlt
   have hq : n + itemsN (rd_T25 x.f3 i) + itemsL (x.f3.drop (i + 1).toNat) ≤ itemsL x.f3 := by rw [hd, itemsL] at hn; omega
   have hv2 : foldL max (max n (foldN max (rd_T25 x.f3 i))) (x.f3.drop (i + 1).toNat) = foldL max 0 x.f3 := by rw [← HV.out, hd, foldL]
   have HV2 := Aside0.mk hv2
   have hle := foldN_le (f := max) step_max.le (rd_T25 x.f3 i)
   have HQ := Aside0.mk hq
   have HLE := Aside0.mk hle
   clear hC1 hd hq hv2 hn hle
   go_wp2_with fail
   refine (HX.out A1 c1 _ (Kd.C_below HC1.out ((Below.refl _ _).alloc (Nat.le_refl _) _)) hl1).mono ?_
   rintro e w2 ⟨rfl, hb⟩
   have HW2 : Aside0 (Below w.heap.size w w2) := ⟨below_step (below_alloc HW.out _) hb⟩
   clear hb
   go_wp2_with fail
   refine (step_max.call n (foldN max (rd_T25 x.f3 i)) w2 (by have := HQ.out; have := HLE.out; omega)).mono ?_
   rintro e w3 ⟨rfl, rfl⟩
   go_wp2_with fail
   go_roundg (x.f3.length - (i + 1).toNat)
   case measure => rw [HG.out]; omega
   case rel => exact ⟨i + 1, (max n (foldN max (rd_T25 x.f3 i))), rfl, by go_num, ⟨by omega, by omega, rfl, HV2.out, by have := HQ.out; have := HLE.out; have := step_max.le n (foldN max (rd_T25 x.f3 i)); omega⟩, HW2⟩
  ·have he : n = foldL max 0 x.f3 := by rw [← HV.out, List.drop_of_length_le (by omega), foldL]
   have HE := Aside0.mk (foldN_eq max x)
   have hnn : n ≤ 4294967296 := by omega
   have he2 : foldL max 0 x.f3 = n := he.symm
   have HE2 := Aside0.mk he2
   clear he he2 HV hn
   go_wp2_with fail
   go_ret
   exact ⟨by rw [HE.out, HE2.out]; simp, HW.out⟩
theorem fold62_all : ∀ (n : Nat), n ≤ 4294967296 → ∀ (x : S25), itemsN x ≤ n → FoldAt 62 max x
 | 0, _, x, h => absurd (itemsN_pos x) (by omega)
 | n + 1, hn, x, h => fold62_of x (by omega) fun a ha => fold62_all n (by omega) a (by have := itemsL_mem ha; rw [itemsN_eq] at h; omega)
theorem fold63_of (x : S25) (hs : itemsN x ≤ 4294967296) (ih : ∀ a ∈ x.f3, FoldAt 63 (· + ·) a) : FoldAt 63 (· + ·) x := by
 intro A c w ha hc
 have HA := Aside0.mk ha
 have IH := Aside0.mk ih
 have hs1 : itemsL x.f3 + 1 ≤ 4294967296 := by rw [itemsN_eq] at hs; exact hs
 have hm : x.f3.length ≤ 4294967296 := Nat.le_trans (itemsL_length _) (by omega)
 clear ha ih hs
 go_enter Try.func61, Try.ntmps61
 go_wp2_with fail
 go_loopg [5, 11] x.f3.length (fun gk v5 v11 wr => ∃ (i : Int) (n : Nat), v5 = .int .i64 (n : Int) ∧ v11 = .int .i64 i ∧ Aside0 (0 ≤ i ∧ i ≤ x.f3.length ∧ gk = x.f3.length - i.toNat ∧ foldL (· + ·) n (x.f3.drop i.toNat) = foldL (· + ·) 0 x.f3 ∧ n + itemsL (x.f3.drop i.toNat) ≤ itemsL x.f3) ∧ Aside0 (Below w.heap.size w wr))
 case atStart => exact ⟨0, 0, rfl, rfl, ⟨by omega, by omega, by simp, by simp, by simp⟩, ⟨(Below.refl _ _).alloc (Nat.le_refl _) _⟩⟩
 case round =>
  obtain ⟨i, n, rfl, rfl, HI, HW⟩ := hrel
  obtain ⟨hi0, hi1, hgk, hv, hn⟩ := HI.out
  have HG := Aside0.mk hgk
  have HV := Aside0.mk hv
  clear HI hgk hv
  by_cases hlt : i < x.f3.length
  ·obtain ⟨ad1, A1, c1, e1, hx0, hx1, hx2, hx3, hl1, hC1⟩ := at_T25 (Kd.C_below HA.out HW.out) i hi0 hlt
   cases e1
   have HC1 := Aside0.mk hC1
   have HX := Aside0.mk (IH.out (rd_T25 x.f3 i) (rd_mem hi0 hlt))
   have hd := drop_rd hi0 hlt
   have hq : n + itemsN (rd_T25 x.f3 i) + itemsL (x.f3.drop (i + 1).toNat) ≤ itemsL x.f3 := by rw [hd, itemsL] at hn; omega
   have hv2 : foldL (· + ·) (n + foldN (· + ·) (rd_T25 x.f3 i)) (x.f3.drop (i + 1).toNat) = foldL (· + ·) 0 x.f3 := by rw [← HV.out, hd, foldL]
   have HV2 := Aside0.mk hv2
   have hle := foldN_le (f := (· + ·)) step_add.le (rd_T25 x.f3 i)
   have HQ := Aside0.mk hq
   have HLE := Aside0.mk hle
   clear hC1 hd hq hv2 hn hle
   go_wp2_with fail
   refine (HX.out A1 c1 _ (Kd.C_below HC1.out ((Below.refl _ _).alloc (Nat.le_refl _) _)) hl1).mono ?_
   rintro e w2 ⟨rfl, hb⟩
   have HW2 : Aside0 (Below w.heap.size w w2) := ⟨below_step (below_alloc HW.out _) hb⟩
   clear hb
   go_wp2_with fail
   refine (step_add.call n (foldN (· + ·) (rd_T25 x.f3 i)) w2 (by have := HQ.out; have := HLE.out; omega)).mono ?_
   rintro e w3 ⟨rfl, rfl⟩
   go_wp2_with fail
   go_roundg (x.f3.length - (i + 1).toNat)
   case measure => rw [HG.out]; omega
   case rel => exact ⟨i + 1, (n + foldN (· + ·) (rd_T25 x.f3 i)), rfl, by go_num, ⟨by omega, by omega, rfl, HV2.out, by have := HQ.out; have := HLE.out; have := step_add.le n (foldN (· + ·) (rd_T25 x.f3 i)); omega⟩, HW2⟩
  ·have he : n = foldL (· + ·) 0 x.f3 := by rw [← HV.out, List.drop_of_length_le (by omega), foldL]
   have HE := Aside0.mk (foldN_eq (· + ·) x)
   have hnn : n ≤ 4294967296 := by omega
   have he2 : foldL (· + ·) 0 x.f3 = n := he.symm
   have HE2 := Aside0.mk he2
   clear he he2 HV hn
   go_wp2_with fail
   go_ret
   exact ⟨by rw [HE.out, HE2.out]; simp, HW.out⟩
theorem fold63_all : ∀ (n : Nat), n ≤ 4294967296 → ∀ (x : S25), itemsN x ≤ n → FoldAt 63 (· + ·) x
 | 0, _, x, h => absurd (itemsN_pos x) (by omega)
 | n + 1, hn, x, h => fold63_of x (by omega) fun a ha => fold63_all n (by omega) a (by have := itemsL_mem ha; rw [itemsN_eq] at h; omega)
theorem depth32_any (x : S25) (hs : itemsN x ≤ 4294967296) (A : Option Addr) (c : Nat) (w : World) (ha : k25.C w A x.f3.length x.f3) (hc : x.f3.length ≤ c) :
  Calls Try.prog 32 #[.agg #[.int .u8 x.f0, .int .u64 x.f1, .string x.f2, .slice A x.f3.length c]] w fun e w' => e = .returned (.int .i64 (depthN x : Int)) ∧ Below w.heap.size w w' := by
 have HA := Aside0.mk ha
 have HS := Aside0.mk hs
 clear ha hs
 go_enter Try.func32, Try.ntmps32
 go_wp2_with fail
 refine (fold62_all _ (Nat.le_refl _) x HS.out A c _ (Kd.C_below HA.out ((Below.refl _ _).alloc (Nat.le_refl _) _)) hc).mono ?_
 rintro e w2 ⟨rfl, hb⟩
 have HW2 : Aside0 (Below w.heap.size w w2) := ⟨below_step (below_alloc (Below.refl _ _) _) hb⟩
 clear hb
 rw [foldN_max x]
 go_wp2_with fail
 go_ret
 exact ⟨rfl, HW2.out⟩
theorem items34_any (x : S25) (hs : itemsN x ≤ 4294967296) (A : Option Addr) (c : Nat) (w : World) (ha : k25.C w A x.f3.length x.f3) (hc : x.f3.length ≤ c) :
  Calls Try.prog 34 #[.agg #[.int .u8 x.f0, .int .u64 x.f1, .string x.f2, .slice A x.f3.length c]] w fun e w' => e = .returned (.int .i64 (itemsN x : Int)) ∧ Below w.heap.size w w' := by
 have HA := Aside0.mk ha
 have HS := Aside0.mk hs
 clear ha hs
 go_enter Try.func34, Try.ntmps34
 go_wp2_with fail
 refine (fold63_all _ (Nat.le_refl _) x HS.out A c _ (Kd.C_below HA.out ((Below.refl _ _).alloc (Nat.le_refl _) _)) hc).mono ?_
 rintro e w2 ⟨rfl, hb⟩
 have HW2 : Aside0 (Below w.heap.size w w2) := ⟨below_step (below_alloc (Below.refl _ _) _) hb⟩
 clear hb
 rw [foldN_add x]
 go_wp2_with fail
 go_ret
 exact ⟨rfl, HW2.out⟩
end Go.Proofs.Ytdilbnggedidnaa.PVal
namespace Go.Proofs.Ytdilbnggedidnaa.PVal
open Go.RowKit Go.Proofs.YtdilbnggedidnaaW.PrintWords Go.Proofs.YtdilbnggedidnaaW.PrintLast
set_option linter.unusedVariables false
set_option linter.unusedSimpArgs false
def signB (n : Int) (m : Int) : Bool := decide (-m ≤ wrap64 n ∧ wrap64 n < m)
def numB (k n : Int) : Bool :=
 if k = 2 then decide (n ≤ 1) else if k = 3 then decide (n < 256) else if k = 4 then decide (n < 65536) else if k = 5 then decide (n < 4294967296) else if k = 11 then decide (n < 4294967296)
 else if k = 7 then signB n 128 else if k = 8 then signB n 32768 else if k = 9 then signB n 2147483648 else if k = 13 then isChar n
 else if k = 6 then true else if k = 10 then true else if k = 14 then true else if k = 12 then true else (n == 0)
def asciiB (l : List Int) : Bool := l.all fun x => decide (x < 128)
def txtB (k : Int) (s : ByteArray) : Bool :=
 if k = 15 then (s.size : Int) == 16 else if k = 18 then (s.size : Int) == 16 else if k = 17 then (s.size : Int) == 8 else if k = 16 then (s.size : Int) == 4 else if k = 19 then true
 else if k = 20 then textR (bytesOf s) else if k = 21 then asciiB (bytesOf s) else s.toList.isEmpty
theorem bytesR_of (s : ByteArray) : bytesR (bytesOf s) := by
 intro x hx
 unfold bytesOf at hx
 obtain ⟨b, _, rfl⟩ := List.mem_map.1 hx
 have := b.toNat_lt
 omega
def u64R (n : Int) : Prop := 0 ≤ n ∧ n < 18446744073709551616
theorem signed_f {n : Int} (hn : u64R n) (b : Int) (hb : b = 8 ∨ b = 16 ∨ b = 32) : value_signed.f n b = some (signB n (if b = 8 then 128 else if b = 16 then 32768 else 2147483648)) := by
 unfold u64R at hn
 have hw : ∀ z : Int, IntKind.i64.wrap z = (z + 9223372036854775808) % 18446744073709551616 - 9223372036854775808 := fun z => by simp [IntKind.wrap, IntKind.bits, IntKind.signed]; omega
 have hbits : IntKind.i64.bits = 64 := rfl
 obtain ⟨x, hx⟩ : ∃ x, wrap64 n = x := ⟨_, rfl⟩
 have hxr : -9223372036854775808 ≤ x ∧ x ≤ 9223372036854775807 := by rw [← hx]; unfold wrap64; omega
 unfold value_signed.f signB shr shl
 rw [hx, hbits]
 rcases hb with rfl | rfl | rfl
 ·have h1 : wrap64 (64 - 8) = 56 := by unfold wrap64; omega
  rw [h1, if_pos (by decide), hw, if_pos rfl, show min (56 : Int).toNat 64 = 56 from rfl, show (2 : Int) ^ 56 = 72057594037927936 from by decide]
  congr 1
  rw [Bool.eq_iff_iff]; simp only [beq_iff_eq, decide_eq_true_eq]; omega
 ·have h1 : wrap64 (64 - 16) = 48 := by unfold wrap64; omega
  rw [h1, if_pos (by decide), hw, if_neg (by decide), if_pos rfl, show min (48 : Int).toNat 64 = 48 from rfl, show (2 : Int) ^ 48 = 281474976710656 from by decide]
  congr 1
  rw [Bool.eq_iff_iff]; simp only [beq_iff_eq, decide_eq_true_eq]; omega
 ·have h1 : wrap64 (64 - 32) = 32 := by unfold wrap64; omega
  rw [h1, if_pos (by decide), hw, if_neg (by decide), if_neg (by decide), show min (32 : Int).toNat 64 = 32 from rfl, show (2 : Int) ^ 32 = 4294967296 from by decide]
  congr 1
  rw [Bool.eq_iff_iff]; simp only [beq_iff_eq, decide_eq_true_eq]; omega
theorem uchar_f {n : Int} (hn : u64R n) : utf_Char.f n = some (isChar n) := by
 unfold u64R at hn
 unfold utf_Char.f isChar
 by_cases h1 : n ≤ 1114111
 ·rw [if_pos h1]
  by_cases h2 : n < 55296
  ·rw [if_pos h2]; congr 1; symm; rw [decide_eq_true_eq]; omega
  ·rw [if_neg h2]; congr 1; exact decide_eq_decide.mpr (by omega)
 ·rw [if_neg h1]; congr 1; symm; rw [decide_eq_false_iff_not]; omega
theorem number_f {k n : Int} (hn : u64R n) (s : ByteArray) (l : List S25) : value_number.f 1 k n s l = some (numB k n) := by
 have hn' := hn
 unfold u64R at hn'
 have dv : ∀ m : Int, 0 < m → ((n / m) == 0) = decide (n < m) := fun m hm => by
  rw [Bool.eq_iff_iff]; simp only [beq_iff_eq, decide_eq_true_eq]
  constructor
  ·intro h
   have := Int.emod_add_mul_ediv n m
   rw [h] at this
   have := Int.emod_lt_of_pos n hm
   omega
  ·intro h; exact Int.ediv_eq_zero_of_lt hn'.1 h
 unfold value_number.f numB
 by_cases h2 : k = 2
 ·rw [if_pos h2, if_pos h2]
 rw [if_neg h2, if_neg h2]
 by_cases h3 : k = 3
 ·rw [if_pos h3, if_pos h3, dv 256 (by decide)]
 rw [if_neg h3, if_neg h3]
 by_cases h4 : k = 4
 ·rw [if_pos h4, if_pos h4, dv 65536 (by decide)]
 rw [if_neg h4, if_neg h4]
 by_cases h5 : k = 5
 ·rw [if_pos h5, if_pos h5]; simp only [value_number.j0]; rw [if_pos (by simp [h5]), dv 4294967296 (by decide)]
 rw [if_neg h5, if_neg h5]
 simp only [value_number.j0]
 by_cases h11 : k = 11
 ·rw [if_pos (by simp [h11]), if_pos h11, dv 4294967296 (by decide)]
 rw [if_neg (by simpa using h11), if_neg h11]
 by_cases h7 : k = 7
 ·rw [if_pos h7, if_pos h7, signed_f hn 8 (by simp)]; rfl
 rw [if_neg h7, if_neg h7]
 by_cases h8 : k = 8
 ·rw [if_pos h8, if_pos h8, signed_f hn 16 (by simp)]; rfl
 rw [if_neg h8, if_neg h8]
 by_cases h9 : k = 9
 ·rw [if_pos h9, if_pos h9, signed_f hn 32 (by simp)]; rfl
 rw [if_neg h9, if_neg h9]
 by_cases h13 : k = 13
 ·rw [if_pos h13, if_pos h13, uchar_f hn]; rfl
 rw [if_neg h13, if_neg h13]
 split; · rfl
 split; · rfl
 split; · rfl
 split; · rfl
 rfl
theorem number88_any (x : S25) (hn : u64R x.f1) (A : Option Addr) (c : Nat) (w : World) (ha : k25.C w A x.f3.length x.f3) (hc : x.f3.length ≤ c) :
  Calls Try.prog 88 #[.agg #[.int .u8 x.f0, .int .u64 x.f1, .string x.f2, .slice A x.f3.length c]] w fun e w' => e = .returned (.bool (numB x.f0 x.f1)) ∧ Below w.heap.size w w' :=
 value_number.calls 1 _ _ _ A c _ _ w ha hc (number_f hn _ _)
theorem ascii_l : ∀ (l pre : List Int) (k : Nat), l.length + 1 ≤ k → (pre ++ l).length ≤ 4294967296 → utf_Ascii.l0 k (pre ++ l) ((pre ++ l).length : Int) (pre.length : Int) = some (asciiB l)
 | [], pre, k, hk, _ => by
  obtain ⟨k, rfl⟩ : ∃ m, k = m + 1 := ⟨k - 1, by omega⟩
  simp only [utf_Ascii.l0]
  rw [if_neg (by simp)]; rfl
 | x :: l, pre, k, hk, hp => by
  obtain ⟨k, rfl⟩ : ∃ m, k = m + 1 := ⟨k - 1, by omega⟩
  simp only [utf_Ascii.l0]
  rw [if_pos (by simp; omega), if_pos (by omega), if_pos (by simp; omega), rd_atI]
  by_cases hx : x ≥ 128
  ·rw [if_pos hx]; simp only [asciiB, List.all_cons]; rw [decide_eq_false (by omega)]; rfl
  ·rw [if_neg hx]
   simp only [List.length_append, List.length_cons] at hp hk
   have h5 : wrap64 ((pre.length : Int) + 1) = ((pre ++ [x]).length : Int) := by unfold wrap64; simp; omega
   have := ascii_l l (pre ++ [x]) k (by omega) (by simp; omega)
   rw [List.append_assoc, List.singleton_append] at this
   rw [h5, this]
   simp only [asciiB, List.all_cons]; rw [decide_eq_true (by omega)]; rfl
theorem rascii_l : ∀ (l pre : List Int) (k : Nat), l.length + 1 ≤ k → (pre ++ l).length ≤ 4294967296 → bellwetherref02_Ascii.l0 k (pre ++ l) (pre.length : Int) = some (asciiB l)
 | [], pre, k, hk, _ => by
  obtain ⟨k, rfl⟩ : ∃ m, k = m + 1 := ⟨k - 1, by omega⟩
  simp only [bellwetherref02_Ascii.l0]
  rw [if_neg (by simp)]; rfl
 | x :: l, pre, k, hk, hp => by
  obtain ⟨k, rfl⟩ : ∃ m, k = m + 1 := ⟨k - 1, by omega⟩
  simp only [bellwetherref02_Ascii.l0]
  rw [if_pos (by simp; omega), if_pos (by omega), rd_atI]
  by_cases hx : x > 127
  ·rw [if_pos hx]; simp only [asciiB, List.all_cons]; rw [decide_eq_false (by omega)]; rfl
  ·rw [if_neg hx]
   simp only [List.length_append, List.length_cons] at hp hk
   have h5 : wrap64 ((pre.length : Int) + 1) = ((pre ++ [x]).length : Int) := by unfold wrap64; simp; omega
   have := rascii_l l (pre ++ [x]) k (by omega) (by simp; omega)
   rw [List.append_assoc, List.singleton_append] at this
   rw [h5, this]
   simp only [asciiB, List.all_cons]; rw [decide_eq_true (by omega)]; rfl
theorem ascii86_any (l : List Int) (hs : l.length ≤ 4294967290) (A : Option Addr) (c : Nat) (w : World) (ha : Kd.C (Kd.int .u8) w A l.length l) (hc : l.length ≤ c) :
  Calls Try.prog 86 #[.slice A l.length c] w fun e w' => e = .returned (.bool (asciiB l)) ∧ Below w.heap.size w w' :=
 (utf_Ascii.calls (l.length + 1) A c l _ w ha hc (ascii_l l [] _ (Nat.le_refl _) (by simp; omega))).mono fun e w' ⟨he, hd⟩ => ⟨he, hd.below⟩
theorem rascii125_any (l : List Int) (hs : l.length ≤ 4294967290) (A : Option Addr) (c : Nat) (w : World) (ha : Kd.C (Kd.int .u8) w A l.length l) (hc : l.length ≤ c) :
  Calls Try.prog 125 #[.slice A l.length c] w fun e w' => e = .returned (.bool (asciiB l)) ∧ Below w.heap.size w w' :=
 (bellwetherref02_Ascii.calls (l.length + 1) A c l _ w ha hc (rascii_l l [] _ (Nat.le_refl _) (by simp; omega))).mono fun e w' ⟨he, hd⟩ => ⟨he, hd.below⟩
end Go.Proofs.Ytdilbnggedidnaa.PVal
