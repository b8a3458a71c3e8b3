-- Printed by a program of mine (wip/myprint.py), which runs the printer of the kit with contracts of mine beside it.
import Derived.Test.YtgpmfkmdchcagaaDoorPFnExactFormatHistoryx0
import Derived.Test.YtgpmfkmdchcagaaDoorPFnExactFormatHistoryx2
import Derived.Test.YtgpmfkmdchcagaaDoorPFnExactFormatHistoryx3
namespace Go.Proofs.YtgpmfkmdchcagaaDoor.PFnExactFormatHistory
open Go.RowKit Go.Proofs.YtgpmfkmdchcagaaDoorW.PrintWords Go.Proofs.YtgpmfkmdchcagaaDoorW.PrintLast Go.Proofs.YtgpmfkmdchcagaaDoorW.PrintMore
attribute [local go_sem] max2_int min2_int max_two min_two max_three min_three max_four min_four   -- for this text's walks alone
set_option linter.unusedVariables false
set_option linter.unusedSimpArgs false

/-! ### spec_IsHistory: function 22 -/
mutual
def spec_IsHistory.l0 : Nat → List (S53) → Int → Option (Bool)
 | 0, _, _ => none
 | k + 1, x0, x3 => if x3 < (x0.length : Int) then (if 0 ≤ x3 then ((spec_l18Tx.f ((rd_T53 x0 x3).f0) ((rd_T53 x0 x3).f1) ((rd_T53 x0 x3).f2) ((rd_T53 x0 x3).f3)).bind fun bt137 => ((spec_IsValidTransaction.f k bt137.1 bt137.2.1 bt137.2.2.1 bt137.2.2.2.1 bt137.2.2.2.2.1 bt137.2.2.2.2.2.1 bt137.2.2.2.2.2.2 ((rd_T53 x0 x3).f2) ((rd_T53 x0 x3).f3)).bind fun t150 => (if t150 = true then (if x3 ≤ (x0.length : Int) then ((spec_FindEntry.f k (x0.take (x3 : Int).toNat) ((rd_T53 x0 x3).f0)).bind fun t156 => (spec_IsHistory.j1 k x0 x3 (decide (t156 ≥ 0)))) else (none)) else (spec_IsHistory.j1 k x0 x3 true)))) else (none)) else (spec_IsHistory.l1 k x0 0)
def spec_IsHistory.j1 : Nat → List (S53) → Int → Bool → Option (Bool)
 | 0, _, _, _ => none
 | k + 1, x0, x3, x31 => if x31 = true then (some false) else (if x3 > 0 then (if 0 ≤ (wrap64 (x3 - 1)) then (if (wrap64 (x3 - 1)) < (x0.length : Int) then (if 0 ≤ x3 then (if x3 < (x0.length : Int) then (if ((rd_T53 x0 (wrap64 (x3 - 1))).f1) > ((rd_T53 x0 x3).f1) then (spec_IsHistory.j2 k x0 x3 true) else (if ((rd_T53 x0 (wrap64 (x3 - 1))).f1) = ((rd_T53 x0 x3).f1) then (spec_IsHistory.j2 k x0 x3 (decide ((((rd_T53 x0 x3).f3).length : Int) > 0))) else (spec_IsHistory.j2 k x0 x3 false))) else (none)) else (none)) else (none)) else (none)) else (spec_IsHistory.j2 k x0 x3 false))
def spec_IsHistory.j2 : Nat → List (S53) → Int → Bool → Option (Bool)
 | 0, _, _, _ => none
 | k + 1, x0, x3, x70 => if x70 = true then (some false) else (spec_IsHistory.l0 k x0 (wrap64 (x3 + 1)))
def spec_IsHistory.l1 : Nat → List (S53) → Int → Option (Bool)
 | 0, _, _ => none
 | k + 1, x0, x4 => if x4 < (x0.length : Int) then (spec_IsHistory.l2 k x0 x4 0) else (some (decide ((x0.length : Int) ≤ 9)))
def spec_IsHistory.l2 : Nat → List (S53) → Int → Int → Option (Bool)
 | 0, _, _, _ => none
 | k + 1, x0, x4, x5 => if 0 ≤ x4 then (if x4 < (x0.length : Int) then (if x5 < (((rd_T53 x0 x4).f2).length : Int) then (if 0 ≤ x5 then ((spec_WriterOf.f k x0 ((rd_T55 ((rd_T53 x0 x4).f2) x5).f0) ((rd_T55 ((rd_T53 x0 x4).f2) x5).f1)).bind fun t165 => (if t165 = ((rd_T53 x0 x4).f0) then (spec_IsHistory.j5 k x0 x4 x5 true) else (if ((rd_T55 ((rd_T53 x0 x4).f2) x5).f1) > 0 then (spec_IsHistory.j5 k x0 x4 x5 (t165 == 0)) else (spec_IsHistory.j5 k x0 x4 x5 false)))) else (none)) else (spec_IsHistory.l1 k x0 (wrap64 (x4 + 1)))) else (none)) else (none)
def spec_IsHistory.j5 : Nat → List (S53) → Int → Int → Bool → Option (Bool)
 | 0, _, _, _, _ => none
 | k + 1, x0, x4, x5, x119 => if x119 = true then (some false) else (spec_IsHistory.l2 k x0 x4 (wrap64 (x5 + 1)))
end
def spec_IsHistory.f (k : Nat) (l0 : List (S53)) : Option (Bool) := spec_IsHistory.l0 k l0 0
theorem spec_IsHistory.mono_l : ∀ k, (∀ y0 y1, LeO (spec_IsHistory.l0 k y0 y1) (spec_IsHistory.l0 (k + 1) y0 y1)) ∧ (∀ y0 y1 y2, LeO (spec_IsHistory.j1 k y0 y1 y2) (spec_IsHistory.j1 (k + 1) y0 y1 y2)) ∧ (∀ y0 y1 y2, LeO (spec_IsHistory.j2 k y0 y1 y2) (spec_IsHistory.j2 (k + 1) y0 y1 y2)) ∧ (∀ y0 y1, LeO (spec_IsHistory.l1 k y0 y1) (spec_IsHistory.l1 (k + 1) y0 y1)) ∧ (∀ y0 y1 y2, LeO (spec_IsHistory.l2 k y0 y1 y2) (spec_IsHistory.l2 (k + 1) y0 y1 y2)) ∧ (∀ y0 y1 y2 y3, LeO (spec_IsHistory.j5 k y0 y1 y2 y3) (spec_IsHistory.j5 (k + 1) y0 y1 y2 y3))
 | 0 => ⟨fun _ _ r h => by simp [spec_IsHistory.l0] at h, fun _ _ _ r h => by simp [spec_IsHistory.j1] at h, fun _ _ _ r h => by simp [spec_IsHistory.j2] at h, fun _ _ r h => by simp [spec_IsHistory.l1] at h, fun _ _ _ r h => by simp [spec_IsHistory.l2] at h, fun _ _ _ _ r h => by simp [spec_IsHistory.j5] at h⟩
 | k + 1 => by
  obtain ⟨ih0, ih1, ih2, ih3, ih4, ih5⟩ := spec_IsHistory.mono_l k
  refine ⟨?_, ?_, ?_, ?_, ?_, ?_⟩
  ·intro y0 y1
   unfold spec_IsHistory.l0
   repeat' first
   | (with_reducible exact ih0 _ _)
   | (with_reducible exact ih1 _ _ _)
   | (with_reducible exact ih2 _ _ _)
   | (with_reducible exact ih3 _ _)
   | (with_reducible exact ih4 _ _ _)
   | (with_reducible exact ih5 _ _ _ _)
   | (with_reducible exact spec_FindEntry.mono _ _ _)
   | (with_reducible exact spec_IsValidTransaction.mono _ _ _ _ _ _ _ _ _ _)
   | (with_reducible exact spec_WriterOf.mono _ _ _ _)
   | (with_reducible exact LeO.refl _)
   | (with_reducible exact LeO.none _)
   | (with_reducible refine LeO.ite ?_ ?_)
   | (with_reducible refine LeO.bind ?_ (fun _ => ?_))
   | exact ih0 _ _
   | exact ih1 _ _ _
   | exact ih2 _ _ _
   | exact ih3 _ _
   | exact ih4 _ _ _
   | exact ih5 _ _ _ _
   | exact spec_FindEntry.mono _ _ _
   | exact spec_IsValidTransaction.mono _ _ _ _ _ _ _ _ _ _
   | exact spec_WriterOf.mono _ _ _ _
   | exact LeO.none _
   | refine LeO.ite ?_ ?_
   | refine LeO.bind ?_ (fun _ => ?_)
  ·intro y0 y1 y2
   unfold spec_IsHistory.j1
   repeat' first
   | (with_reducible exact ih0 _ _)
   | (with_reducible exact ih1 _ _ _)
   | (with_reducible exact ih2 _ _ _)
   | (with_reducible exact ih3 _ _)
   | (with_reducible exact ih4 _ _ _)
   | (with_reducible exact ih5 _ _ _ _)
   | (with_reducible exact spec_FindEntry.mono _ _ _)
   | (with_reducible exact spec_IsValidTransaction.mono _ _ _ _ _ _ _ _ _ _)
   | (with_reducible exact spec_WriterOf.mono _ _ _ _)
   | (with_reducible exact LeO.refl _)
   | (with_reducible exact LeO.none _)
   | (with_reducible refine LeO.ite ?_ ?_)
   | (with_reducible refine LeO.bind ?_ (fun _ => ?_))
   | exact ih0 _ _
   | exact ih1 _ _ _
   | exact ih2 _ _ _
   | exact ih3 _ _
   | exact ih4 _ _ _
   | exact ih5 _ _ _ _
   | exact spec_FindEntry.mono _ _ _
   | exact spec_IsValidTransaction.mono _ _ _ _ _ _ _ _ _ _
   | exact spec_WriterOf.mono _ _ _ _
   | exact LeO.none _
   | refine LeO.ite ?_ ?_
   | refine LeO.bind ?_ (fun _ => ?_)
  ·intro y0 y1 y2
   unfold spec_IsHistory.j2
   repeat' first
   | (with_reducible exact ih0 _ _)
   | (with_reducible exact ih1 _ _ _)
   | (with_reducible exact ih2 _ _ _)
   | (with_reducible exact ih3 _ _)
   | (with_reducible exact ih4 _ _ _)
   | (with_reducible exact ih5 _ _ _ _)
   | (with_reducible exact spec_FindEntry.mono _ _ _)
   | (with_reducible exact spec_IsValidTransaction.mono _ _ _ _ _ _ _ _ _ _)
   | (with_reducible exact spec_WriterOf.mono _ _ _ _)
   | (with_reducible exact LeO.refl _)
   | (with_reducible exact LeO.none _)
   | (with_reducible refine LeO.ite ?_ ?_)
   | (with_reducible refine LeO.bind ?_ (fun _ => ?_))
   | exact ih0 _ _
   | exact ih1 _ _ _
   | exact ih2 _ _ _
   | exact ih3 _ _
   | exact ih4 _ _ _
   | exact ih5 _ _ _ _
   | exact spec_FindEntry.mono _ _ _
   | exact spec_IsValidTransaction.mono _ _ _ _ _ _ _ _ _ _
   | exact spec_WriterOf.mono _ _ _ _
   | exact LeO.none _
   | refine LeO.ite ?_ ?_
   | refine LeO.bind ?_ (fun _ => ?_)
  ·intro y0 y1
   unfold spec_IsHistory.l1
   repeat' first
   | (with_reducible exact ih0 _ _)
   | (with_reducible exact ih1 _ _ _)
   | (with_reducible exact ih2 _ _ _)
   | (with_reducible exact ih3 _ _)
   | (with_reducible exact ih4 _ _ _)
   | (with_reducible exact ih5 _ _ _ _)
   | (with_reducible exact spec_FindEntry.mono _ _ _)
   | (with_reducible exact spec_IsValidTransaction.mono _ _ _ _ _ _ _ _ _ _)
   | (with_reducible exact spec_WriterOf.mono _ _ _ _)
   | (with_reducible exact LeO.refl _)
   | (with_reducible exact LeO.none _)
   | (with_reducible refine LeO.ite ?_ ?_)
   | (with_reducible refine LeO.bind ?_ (fun _ => ?_))
   | exact ih0 _ _
   | exact ih1 _ _ _
   | exact ih2 _ _ _
   | exact ih3 _ _
   | exact ih4 _ _ _
   | exact ih5 _ _ _ _
   | exact spec_FindEntry.mono _ _ _
   | exact spec_IsValidTransaction.mono _ _ _ _ _ _ _ _ _ _
   | exact spec_WriterOf.mono _ _ _ _
   | exact LeO.none _
   | refine LeO.ite ?_ ?_
   | refine LeO.bind ?_ (fun _ => ?_)
  ·intro y0 y1 y2
   unfold spec_IsHistory.l2
   repeat' first
   | (with_reducible exact ih0 _ _)
   | (with_reducible exact ih1 _ _ _)
   | (with_reducible exact ih2 _ _ _)
   | (with_reducible exact ih3 _ _)
   | (with_reducible exact ih4 _ _ _)
   | (with_reducible exact ih5 _ _ _ _)
   | (with_reducible exact spec_FindEntry.mono _ _ _)
   | (with_reducible exact spec_IsValidTransaction.mono _ _ _ _ _ _ _ _ _ _)
   | (with_reducible exact spec_WriterOf.mono _ _ _ _)
   | (with_reducible exact LeO.refl _)
   | (with_reducible exact LeO.none _)
   | (with_reducible refine LeO.ite ?_ ?_)
   | (with_reducible refine LeO.bind ?_ (fun _ => ?_))
   | exact ih0 _ _
   | exact ih1 _ _ _
   | exact ih2 _ _ _
   | exact ih3 _ _
   | exact ih4 _ _ _
   | exact ih5 _ _ _ _
   | exact spec_FindEntry.mono _ _ _
   | exact spec_IsValidTransaction.mono _ _ _ _ _ _ _ _ _ _
   | exact spec_WriterOf.mono _ _ _ _
   | exact LeO.none _
   | refine LeO.ite ?_ ?_
   | refine LeO.bind ?_ (fun _ => ?_)
  ·intro y0 y1 y2 y3
   unfold spec_IsHistory.j5
   repeat' first
   | (with_reducible exact ih0 _ _)
   | (with_reducible exact ih1 _ _ _)
   | (with_reducible exact ih2 _ _ _)
   | (with_reducible exact ih3 _ _)
   | (with_reducible exact ih4 _ _ _)
   | (with_reducible exact ih5 _ _ _ _)
   | (with_reducible exact spec_FindEntry.mono _ _ _)
   | (with_reducible exact spec_IsValidTransaction.mono _ _ _ _ _ _ _ _ _ _)
   | (with_reducible exact spec_WriterOf.mono _ _ _ _)
   | (with_reducible exact LeO.refl _)
   | (with_reducible exact LeO.none _)
   | (with_reducible refine LeO.ite ?_ ?_)
   | (with_reducible refine LeO.bind ?_ (fun _ => ?_))
   | exact ih0 _ _
   | exact ih1 _ _ _
   | exact ih2 _ _ _
   | exact ih3 _ _
   | exact ih4 _ _ _
   | exact ih5 _ _ _ _
   | exact spec_FindEntry.mono _ _ _
   | exact spec_IsValidTransaction.mono _ _ _ _ _ _ _ _ _ _
   | exact spec_WriterOf.mono _ _ _ _
   | exact LeO.none _
   | refine LeO.ite ?_ ?_
   | refine LeO.bind ?_ (fun _ => ?_)
theorem spec_IsHistory.mono : ∀ a0 k, LeO (spec_IsHistory.f k a0) (spec_IsHistory.f (k + 1) a0) := by
 intro a0 k
 obtain ⟨ih0, ih1, ih2, ih3, ih4, ih5⟩ := spec_IsHistory.mono_l k
 unfold spec_IsHistory.f
 repeat' first
   | (with_reducible exact ih0 _ _)
   | (with_reducible exact ih1 _ _ _)
   | (with_reducible exact ih2 _ _ _)
   | (with_reducible exact ih3 _ _)
   | (with_reducible exact ih4 _ _ _)
   | (with_reducible exact ih5 _ _ _ _)
   | (with_reducible exact spec_FindEntry.mono _ _ _)
   | (with_reducible exact spec_IsValidTransaction.mono _ _ _ _ _ _ _ _ _ _)
   | (with_reducible exact spec_WriterOf.mono _ _ _ _)
   | (with_reducible exact LeO.refl _)
   | (with_reducible exact LeO.none _)
   | (with_reducible refine LeO.ite ?_ ?_)
   | (with_reducible refine LeO.bind ?_ (fun _ => ?_))
   | exact ih0 _ _
   | exact ih1 _ _ _
   | exact ih2 _ _ _
   | exact ih3 _ _
   | exact ih4 _ _ _
   | exact ih5 _ _ _ _
   | exact spec_FindEntry.mono _ _ _
   | exact spec_IsValidTransaction.mono _ _ _ _ _ _ _ _ _ _
   | exact spec_WriterOf.mono _ _ _ _
   | exact LeO.none _
   | refine LeO.ite ?_ ?_
   | refine LeO.bind ?_ (fun _ => ?_)
def spec_IsHistory.T4 : Bool × List (List Nat × List Nat) := (true, [([], []), ([], []), ([0, 1], [0, 1]), ([2], [2]), ([3], [3]), ([4, 4], [4]), ([5], [5]), ([6, 5], [6]), ([7], [7]), ([7], [7]), ([8, 9, 7], [7, 8, 9]), ([7], [7]), ([7], [7]), ([11, 12, 7], [7, 11, 12]), ([13, 7], [7, 13]), ([14, 7], [7, 14]), ([10, 15, 7, 7], [7, 10, 15]), ([16, 7], [7, 16]), ([7, 17], [7, 17])])
def spec_IsHistory.B4 : List Nat := [0, 0, 3, 7, 15, 31, 63, 127, 255, 255, 1023, 255, 255, 6399, 14591, 30975, 65535, 131071, 262143]
theorem spec_IsHistory.tab4 : rtab .any (opsOf Tryd.f22 4) = spec_IsHistory.T4 := by kernel_rfl
theorem spec_IsHistory.bits4 : waitsOk spec_IsHistory.T4.2 spec_IsHistory.B4 = true := by kernel_rfl
def spec_IsHistory.T6 : Bool × List (List Nat × List Nat) := (true, [([], []), ([0], [0]), ([1], [1]), ([2], [2]), ([2], [2]), ([4, 2], [2, 4]), ([3, 5, 2], [2, 3, 5]), ([6, 2], [2, 6]), ([7, 2], [2, 7]), ([2], [2]), ([2], [2]), ([9, 10, 2], [2, 9, 10]), ([11, 2], [2, 11]), ([12, 2], [2, 12]), ([8, 13, 2], [2, 8, 13]), ([14, 2, 2], [2, 14]), ([15], [15]), ([15], [15]), ([17, 15], [15, 17]), ([16, 18, 15], [15, 16, 18]), ([19, 15], [15, 19]), ([20, 15], [15, 20]), ([15], [15]), ([15], [15]), ([22, 23, 15], [15, 22, 23]), ([24, 15], [15, 24]), ([25, 15], [15, 25]), ([21, 26, 15], [15, 21, 26]), ([27, 15, 15], [15, 27]), ([28], [28]), ([28], [28]), ([29, 30, 28], [28, 29, 30]), ([31, 28], [28, 31]), ([32, 28], [28, 32]), ([33, 28], [28, 33]), ([34, 28], [28, 34]), ([28, 35, 15], [15, 28, 35]), ([15, 36, 2], [2, 15, 36]), ([2, 37], [2, 37])])
def spec_IsHistory.B6 : List Nat := [0, 1, 3, 7, 7, 23, 63, 127, 255, 7, 7, 1543, 3591, 7687, 16383, 32767, 65535, 65535, 196607, 524287, 1048575, 2097151, 65535, 65535, 12648447, 29425663, 62980095, 134217727, 268435455, 536870911, 536870911, 2147483647, 4294967295, 8589934591, 17179869183, 34359738367, 68719476735, 137438953471, 274877906943]
theorem spec_IsHistory.tab6 : rtab .any (opsOf Tryd.f22 6) = spec_IsHistory.T6 := by kernel_rfl
theorem spec_IsHistory.bits6 : waitsOk spec_IsHistory.T6.2 spec_IsHistory.B6 = true := by kernel_rfl
set_option maxHeartbeats 8000000 in
set_option maxRecDepth 100000 in
theorem spec_IsHistory.calls (k : Nat) (A0 : Option Addr) (c0 : Nat) (l0 : List (S53)) (r : Bool) (w : World) (hr0 : Kd.C k53 w A0 l0.length l0) (hc0 : l0.length ≤ c0) (h : spec_IsHistory.f k l0 = some r) :
  Calls Tryd.prog 22 #[.slice A0 l0.length c0] w fun e w' => e = .returned (.bool r) ∧ Below w.heap.size w w' := by
 have hu53 := Tryd.underlying53
 have hu55 := Tryd.underlying55
 have HR0 := AM_ hr0
 have HC0 := AM_ hc0
 clear hr0 hc0
 have HB := AM_ (Below.refl w.heap.size w)
 have H : (spec_IsHistory.l0 k l0 0) = some r := h
 clear h
 have H' := AM_ H
 clear H
 go_enter Tryd.func22, Tryd.ntmps22
 go_wp2
 go_loopg [3] k (fun kq v3 w' => ∃ (x3_1 : Int), v3 = .int .i64 x3_1 ∧ Aside0 (spec_IsHistory.l0 kq l0 x3_1 = some r) ∧ Aside0 (kq ≤ k) ∧ Aside0 (Below w.heap.size w w'))
 case atStart => exact ⟨(0), (by first | rfl | (simp; done) | (simp [*]; done)), H', ⟨Nat.le_refl _⟩, ⟨BT HB.out⟩⟩
 case round =>
  clear H'
  obtain ⟨x3_1, rfl, HA, HK1, HB⟩ := hrel
  cases gk with
  | zero => exact absurd HA.out (by simp [spec_IsHistory.l0])
  | succ k1 =>
   have H := HA.out
   clear HA
   simp only [spec_IsHistory.l0] at H
   by_cases c2 : x3_1 < (l0.length : Int)
   rotate_left
   ·rw [if_neg c2] at H
    have c2b0 : decide (x3_1 < (l0.length : Int)) = false := decide_eq_false c2
    clear c2
    have H' := AM_ H
    clear H
    go_wp2
    go_loopg [4] k1 (fun kq v4 w' => ∃ (x4_2 : Int), v4 = .int .i64 x4_2 ∧ Aside0 (spec_IsHistory.l1 kq l0 x4_2 = some r) ∧ Aside0 (kq ≤ k1) ∧ Aside0 (Below w.heap.size w w'))
    case atStart => exact ⟨(0), (by first | rfl | (simp; done) | (simp [*]; done)), H', ⟨Nat.le_refl _⟩, ⟨BT HB.out⟩⟩
    case round =>
     clear H'
     try clear c1
     try clear p1
     try clear q1
     try clear hx1
     try clear c2
     try clear c2b0
     try clear p2
     try clear c3
     try clear p6
     try clear c15
     try clear p15
     try clear q15
     try clear hx15
     try clear c16
     try clear p16
     try clear q16
     try clear hx16
     try clear c20
     try clear c20b0
     try clear c22
     try clear c23
     try clear c24
     try clear c25
     try clear c28
     try clear c28b0
     try clear c28b1
     try clear c32
     try clear hx157_0
     try clear hx157_1
     try clear hx157_2
     try clear hx157_3
     try clear hx158_0
     try clear hx158_1
     try clear hx158_2
     try clear hx158_3
     try clear hx159_0
     try clear hx159_1
     try clear hx159_2
     try clear hx159_3
     try clear hx160_0
     try clear hx160_1
     try clear hx160_2
     try clear hx160_3
     try clear p1
     try clear p15
     try clear p157
     try clear p158
     try clear p159
     try clear p16
     try clear p160
     try clear p2
     try clear q1
     try clear q15
     try clear q157
     try clear q158
     try clear q159
     try clear q16
     try clear q160
     obtain ⟨x4_2, rfl, HA, HK2, HB⟩ := hrel
     cases gk with
     | zero => exact absurd HA.out (by simp [spec_IsHistory.l1])
     | succ k2 =>
      have H := HA.out
      clear HA
      simp only [spec_IsHistory.l1] at H
      by_cases c33 : x4_2 < (l0.length : Int)
      rotate_left
      ·rw [if_neg c33] at H
       have c33b0 : decide (x4_2 < (l0.length : Int)) = false := decide_eq_false c33
       clear c33
       obtain rfl := Option.some.inj H
       go_wp2
       go_ret
       exact QT (BT HB.out)
      rw [if_pos c33] at H
      have c33b0 : decide (x4_2 < (l0.length : Int)) = true := decide_eq_true c33
      clear c33
      have H' := AM_ H
      clear H
      go_wp2
      go_loopg [5] k2 (fun kq v5 w' => ∃ (x5_3 : Int), v5 = .int .i64 x5_3 ∧ Aside0 (spec_IsHistory.l2 kq l0 x4_2 x5_3 = some r) ∧ Aside0 (kq ≤ k2) ∧ Aside0 (Below w.heap.size w w'))
      case atStart => exact ⟨(0), (by first | rfl | (simp; done) | (simp [*]; done)), H', ⟨Nat.le_refl _⟩, ⟨BT HB.out⟩⟩
      case round =>
       clear H'
       try clear c1
       try clear p1
       try clear q1
       try clear hx1
       try clear c2
       try clear c2b0
       try clear p2
       try clear c3
       try clear p6
       try clear c15
       try clear p15
       try clear q15
       try clear hx15
       try clear c16
       try clear p16
       try clear q16
       try clear hx16
       try clear c20
       try clear c20b0
       try clear c22
       try clear c23
       try clear c24
       try clear c25
       try clear c28
       try clear c28b0
       try clear c28b1
       try clear c32
       try clear c33
       try clear c33b0
       try clear hx157_0
       try clear hx157_1
       try clear hx157_2
       try clear hx157_3
       try clear hx158_0
       try clear hx158_1
       try clear hx158_2
       try clear hx158_3
       try clear hx159_0
       try clear hx159_1
       try clear hx159_2
       try clear hx159_3
       try clear hx160_0
       try clear hx160_1
       try clear hx160_2
       try clear hx160_3
       try clear p1
       try clear p15
       try clear p157
       try clear p158
       try clear p159
       try clear p16
       try clear p160
       try clear p2
       try clear p6
       try clear q1
       try clear q15
       try clear q157
       try clear q158
       try clear q159
       try clear q16
       try clear q160
       obtain ⟨x5_3, rfl, HA, HK3, HB⟩ := hrel
       cases gk with
       | zero => exact absurd HA.out (by simp [spec_IsHistory.l2])
       | succ k3 =>
        have H := HA.out
        clear HA
        simp only [spec_IsHistory.l2] at H
        by_cases c34 : 0 ≤ x4_2
        rotate_left
        ·rw [if_neg c34] at H
         exact absurd H (by simp)
        rw [if_pos c34] at H
        have c34b0 : decide (0 ≤ x4_2) = true := decide_eq_true c34
        clear c34
        by_cases c35 : x4_2 < (l0.length : Int)
        rotate_left
        ·rw [if_neg c35] at H
         exact absurd H (by simp)
        rw [if_pos c35] at H
        have c35b0 : decide (x4_2 < (l0.length : Int)) = true := decide_eq_true c35
        clear c35
        by_cases c36 : x5_3 < (((rd_T53 l0 x4_2).f2).length : Int)
        rotate_left
        ·rw [if_neg c36] at H
         have c36b0 : decide (x5_3 < (((rd_T53 l0 x4_2).f2).length : Int)) = false := decide_eq_false c36
         clear c36
         have H' := AM_ H
         clear H
         have p162 : 0 ≤ (x4_2 : Int) := DT
         have q162 : x4_2 < (l0.length : Int) := DT
         obtain ⟨ad162, A162_2, c162_2, A162_3, c162_3, e162, hx162_0, hx162_1, hx162_2, hx162_3, hl162_2, hi162_2, hl162_3, hi162_3⟩ := at_T53 HR0.out x4_2 p162 q162
         cases e162
         replace hx162_0 := BC HB.out hx162_0
         replace hx162_1 := BC HB.out hx162_1
         replace hx162_2 := BC HB.out hx162_2
         replace hx162_3 := BC HB.out hx162_3
         have HR162_2 := AM_ hi162_2
         have HC162_2 := AM_ hl162_2
         clear hi162_2 hl162_2
         have HR162_3 := AM_ hi162_3
         have HC162_3 := AM_ hl162_3
         clear hi162_3 hl162_3
         replace p162 := eq_true p162
         replace q162 := eq_true q162
         go_wp2
         go_roundg k3
         case measure => have := HK1.out; have := HK2.out; have := HK3.out; omega
         case rel => exact ⟨(wrap64 (x4_2 + 1)), (by first | rfl | (simp; done) | (simp [*]; done)), H', ⟨by have := HK1.out; have := HK2.out; have := HK3.out; omega⟩, ⟨BT HB.out⟩⟩
        rw [if_pos c36] at H
        have c36b0 : decide (x5_3 < (((rd_T53 l0 x4_2).f2).length : Int)) = true := decide_eq_true c36
        clear c36
        by_cases c37 : 0 ≤ x5_3
        rotate_left
        ·rw [if_neg c37] at H
         exact absurd H (by simp)
        rw [if_pos c37] at H
        have c37b0 : decide (0 ≤ x5_3) = true := decide_eq_true c37
        clear c37
        replace H := Option.bind_eq_some_iff.mp H
        obtain ⟨t165, A380, H⟩ := H
        replace H : (if t165 = ((rd_T53 l0 x4_2).f0) then (spec_IsHistory.j5 k3 l0 x4_2 x5_3 true) else (if ((rd_T55 ((rd_T53 l0 x4_2).f2) x5_3).f1) > 0 then (spec_IsHistory.j5 k3 l0 x4_2 x5_3 (t165 == 0)) else (spec_IsHistory.j5 k3 l0 x4_2 x5_3 false))) = some r := H
        have A38 := AM_ A380
        clear A380
        have HC39 := AM_ H
        clear H
        have p162 : 0 ≤ (x4_2 : Int) := DT
        have q162 : x4_2 < (l0.length : Int) := DT
        obtain ⟨ad162, A162_2, c162_2, A162_3, c162_3, e162, hx162_0, hx162_1, hx162_2, hx162_3, hl162_2, hi162_2, hl162_3, hi162_3⟩ := at_T53 HR0.out x4_2 p162 q162
        cases e162
        replace hx162_0 := BC HB.out hx162_0
        replace hx162_1 := BC HB.out hx162_1
        replace hx162_2 := BC HB.out hx162_2
        replace hx162_3 := BC HB.out hx162_3
        have HR162_2 := AM_ hi162_2
        have HC162_2 := AM_ hl162_2
        clear hi162_2 hl162_2
        have HR162_3 := AM_ hi162_3
        have HC162_3 := AM_ hl162_3
        clear hi162_3 hl162_3
        replace p162 := eq_true p162
        replace q162 := eq_true q162
        have p163 : 0 ≤ (x4_2 : Int) := DT
        have q163 : x4_2 < (l0.length : Int) := DT
        obtain ⟨ad163, A163_2, c163_2, A163_3, c163_3, e163, hx163_0, hx163_1, hx163_2, hx163_3, hl163_2, hi163_2, hl163_3, hi163_3⟩ := at_T53 HR0.out x4_2 p163 q163
        obtain rfl : ad162 = ad163 := (by injection e163)
        replace hx163_0 := BC HB.out hx163_0
        replace hx163_1 := BC HB.out hx163_1
        replace hx163_2 := BC HB.out hx163_2
        replace hx163_3 := BC HB.out hx163_3
        have HR163_2 := AM_ hi163_2
        have HC163_2 := AM_ hl163_2
        clear hi163_2 hl163_2
        have HR163_3 := AM_ hi163_3
        have HC163_3 := AM_ hl163_3
        clear hi163_3 hl163_3
        replace p163 := eq_true p163
        replace q163 := eq_true q163
        have ea_ := Option.some.inj (hx162_2.symm.trans hx163_2)
        injection ea_ with ea_ en_ ec_
        subst ea_
        subst ec_
        clear en_
        have ea_ := Option.some.inj (hx162_3.symm.trans hx163_3)
        injection ea_ with ea_ en_ ec_
        subst ea_
        subst ec_
        clear en_
        have p164 : 0 ≤ (x5_3 : Int) := DT
        have q164 : x5_3 < (((rd_T53 l0 x4_2).f2).length : Int) := DT
        obtain ⟨ad164, e164, hx164_0, hx164_1⟩ := at_T55 HR163_2.out x5_3 p164 q164
        cases e164
        replace hx164_0 := BC HB.out hx164_0
        replace hx164_1 := BC HB.out hx164_1
        replace p164 := eq_true p164
        replace q164 := eq_true q164
        go_upto_region 15 with (first | ((with_reducible refine gate_callee (f := 45) rfl ?_); refine goesL_ (some 96) rfl rfl Tryd.func45 (by kernel_rfl) rfl #[.slice (some ad162) l0.length c0, .agg #[.int .i64 ((rd_T55 ((rd_T53 l0 x4_2).f2) x5_3).f0), .int .i64 ((rd_T55 ((rd_T53 l0 x4_2).f2) x5_3).f1)]] rfl (by (try simp only [List.map_toArray, List.map_cons, List.map_nil]); first | done | rfl | (simp only [List.length_drop, List.length_take]; rfl)) ?_; (with_reducible refine (spec_WriterOf.calls k3 _ _ l0 ((rd_T55 ((rd_T53 l0 x4_2).f2) x5_3).f0) ((rd_T55 ((rd_T53 l0 x4_2).f2) x5_3).f1) t165 _ ?side1 ?side2 A38.out).mono ?_); (case side1 => exact CB HR0.out HB.out); (case side2 => exact HC0.out); rintro e w40 ⟨rfl, hb⟩; refine ⟨_, rfl, ?_⟩; replace HB := AM_ (below_step (BT HB.out) hb); (try clear hb); (try clear hb2); (try clear hk); (try clear hi)))
        (try simp only [pA, pS, pZ, pK])
        go_cut [119] (fun v119 wc => ∃ (kq : Nat) (x119_38 : Bool), v119 = .bool x119_38 ∧ Aside0 (spec_IsHistory.j5 kq l0 x4_2 x5_3 x119_38 = some r) ∧ Aside0 (kq ≤ k3) ∧ Aside0 (Below w.heap.size w wc))
        case first =>
         have H := HC39.out
         clear HC39
         by_cases c41 : t165 = ((rd_T53 l0 x4_2).f0)
         ·rw [if_pos c41] at H
          have c41b0 : (t165 == ((rd_T53 l0 x4_2).f0)) = true := beq_iff_eq.mpr c41
          have c41b1 : (t165 != ((rd_T53 l0 x4_2).f0)) = false := bne_eq_false_iff_eq.mpr c41
          clear c41
          (first | rw [c41b0] | (simp only [i64_w, i32_w]; rw [c41b0]) | skip)
          have H' := AM_ H
          clear H
          have p166 : 0 ≤ (x4_2 : Int) := DT
          have q166 : x4_2 < (l0.length : Int) := DT
          obtain ⟨ad166, A166_2, c166_2, A166_3, c166_3, e166, hx166_0, hx166_1, hx166_2, hx166_3, hl166_2, hi166_2, hl166_3, hi166_3⟩ := at_T53 HR0.out x4_2 p166 q166
          obtain rfl : ad162 = ad166 := (by injection e166)
          replace hx166_0 := BC HB.out hx166_0
          replace hx166_1 := BC HB.out hx166_1
          replace hx166_2 := BC HB.out hx166_2
          replace hx166_3 := BC HB.out hx166_3
          have HR166_2 := AM_ hi166_2
          have HC166_2 := AM_ hl166_2
          clear hi166_2 hl166_2
          have HR166_3 := AM_ hi166_3
          have HC166_3 := AM_ hl166_3
          clear hi166_3 hl166_3
          replace p166 := eq_true p166
          replace q166 := eq_true q166
          go_wp2
          go_meet
          case rel => exact ⟨_, (true), (by first | rfl | (simp; done) | (simp [*]; done)), H', ⟨by have := HK1.out; have := HK2.out; have := HK3.out; first | omega | exact Nat.le_refl _⟩, ⟨BT HB.out⟩⟩
         rw [if_neg c41] at H
         have c41b0 : (t165 == ((rd_T53 l0 x4_2).f0)) = false := beq_eq_false_iff_ne.mpr c41
         have c41b1 : (t165 != ((rd_T53 l0 x4_2).f0)) = true := bne_iff_ne.mpr c41
         (first | rw [c41b0] | (simp only [i64_w, i32_w]; rw [c41b0]) | skip)
         by_cases c42 : ((rd_T55 ((rd_T53 l0 x4_2).f2) x5_3).f1) > 0
         rotate_left
         ·rw [if_neg c42] at H
          have c42b0 : decide (0 < ((rd_T55 ((rd_T53 l0 x4_2).f2) x5_3).f1)) = false := decide_eq_false c42
          clear c42
          have H' := AM_ H
          clear H
          have p166 : 0 ≤ (x4_2 : Int) := DT
          have q166 : x4_2 < (l0.length : Int) := DT
          obtain ⟨ad166, A166_2, c166_2, A166_3, c166_3, e166, hx166_0, hx166_1, hx166_2, hx166_3, hl166_2, hi166_2, hl166_3, hi166_3⟩ := at_T53 HR0.out x4_2 p166 q166
          obtain rfl : ad162 = ad166 := (by injection e166)
          replace hx166_0 := BC HB.out hx166_0
          replace hx166_1 := BC HB.out hx166_1
          replace hx166_2 := BC HB.out hx166_2
          replace hx166_3 := BC HB.out hx166_3
          have HR166_2 := AM_ hi166_2
          have HC166_2 := AM_ hl166_2
          clear hi166_2 hl166_2
          have HR166_3 := AM_ hi166_3
          have HC166_3 := AM_ hl166_3
          clear hi166_3 hl166_3
          replace p166 := eq_true p166
          replace q166 := eq_true q166
          have p167 : 0 ≤ (x4_2 : Int) := DT
          have q167 : x4_2 < (l0.length : Int) := DT
          obtain ⟨ad167, A167_2, c167_2, A167_3, c167_3, e167, hx167_0, hx167_1, hx167_2, hx167_3, hl167_2, hi167_2, hl167_3, hi167_3⟩ := at_T53 HR0.out x4_2 p167 q167
          obtain rfl : ad162 = ad167 := (by injection e167)
          replace hx167_0 := BC HB.out hx167_0
          replace hx167_1 := BC HB.out hx167_1
          replace hx167_2 := BC HB.out hx167_2
          replace hx167_3 := BC HB.out hx167_3
          have HR167_2 := AM_ hi167_2
          have HC167_2 := AM_ hl167_2
          clear hi167_2 hl167_2
          have HR167_3 := AM_ hi167_3
          have HC167_3 := AM_ hl167_3
          clear hi167_3 hl167_3
          replace p167 := eq_true p167
          replace q167 := eq_true q167
          have ea_ := Option.some.inj (hx166_2.symm.trans hx167_2)
          injection ea_ with ea_ en_ ec_
          subst ea_
          subst ec_
          clear en_
          have ea_ := Option.some.inj (hx166_3.symm.trans hx167_3)
          injection ea_ with ea_ en_ ec_
          subst ea_
          subst ec_
          clear en_
          have p168 : 0 ≤ (x5_3 : Int) := DT
          have q168 : x5_3 < (((rd_T53 l0 x4_2).f2).length : Int) := DT
          obtain ⟨ad168, e168, hx168_0, hx168_1⟩ := at_T55 HR167_2.out x5_3 p168 q168
          cases e168
          replace hx168_0 := BC HB.out hx168_0
          replace hx168_1 := BC HB.out hx168_1
          replace p168 := eq_true p168
          replace q168 := eq_true q168
          go_wp2
          go_meet
          case rel => exact ⟨_, (false), (by first | rfl | (simp; done) | (simp [*]; done)), H', ⟨by have := HK1.out; have := HK2.out; have := HK3.out; first | omega | exact Nat.le_refl _⟩, ⟨BT HB.out⟩⟩
         rw [if_pos c42] at H
         have c42b0 : decide (0 < ((rd_T55 ((rd_T53 l0 x4_2).f2) x5_3).f1)) = true := decide_eq_true c42
         clear c42
         have H' := AM_ H
         clear H
         have p166 : 0 ≤ (x4_2 : Int) := DT
         have q166 : x4_2 < (l0.length : Int) := DT
         obtain ⟨ad166, A166_2, c166_2, A166_3, c166_3, e166, hx166_0, hx166_1, hx166_2, hx166_3, hl166_2, hi166_2, hl166_3, hi166_3⟩ := at_T53 HR0.out x4_2 p166 q166
         obtain rfl : ad162 = ad166 := (by injection e166)
         replace hx166_0 := BC HB.out hx166_0
         replace hx166_1 := BC HB.out hx166_1
         replace hx166_2 := BC HB.out hx166_2
         replace hx166_3 := BC HB.out hx166_3
         have HR166_2 := AM_ hi166_2
         have HC166_2 := AM_ hl166_2
         clear hi166_2 hl166_2
         have HR166_3 := AM_ hi166_3
         have HC166_3 := AM_ hl166_3
         clear hi166_3 hl166_3
         replace p166 := eq_true p166
         replace q166 := eq_true q166
         have p167 : 0 ≤ (x4_2 : Int) := DT
         have q167 : x4_2 < (l0.length : Int) := DT
         obtain ⟨ad167, A167_2, c167_2, A167_3, c167_3, e167, hx167_0, hx167_1, hx167_2, hx167_3, hl167_2, hi167_2, hl167_3, hi167_3⟩ := at_T53 HR0.out x4_2 p167 q167
         obtain rfl : ad162 = ad167 := (by injection e167)
         replace hx167_0 := BC HB.out hx167_0
         replace hx167_1 := BC HB.out hx167_1
         replace hx167_2 := BC HB.out hx167_2
         replace hx167_3 := BC HB.out hx167_3
         have HR167_2 := AM_ hi167_2
         have HC167_2 := AM_ hl167_2
         clear hi167_2 hl167_2
         have HR167_3 := AM_ hi167_3
         have HC167_3 := AM_ hl167_3
         clear hi167_3 hl167_3
         replace p167 := eq_true p167
         replace q167 := eq_true q167
         have ea_ := Option.some.inj (hx166_2.symm.trans hx167_2)
         injection ea_ with ea_ en_ ec_
         subst ea_
         subst ec_
         clear en_
         have ea_ := Option.some.inj (hx166_3.symm.trans hx167_3)
         injection ea_ with ea_ en_ ec_
         subst ea_
         subst ec_
         clear en_
         have p168 : 0 ≤ (x5_3 : Int) := DT
         have q168 : x5_3 < (((rd_T53 l0 x4_2).f2).length : Int) := DT
         obtain ⟨ad168, e168, hx168_0, hx168_1⟩ := at_T55 HR167_2.out x5_3 p168 q168
         cases e168
         replace hx168_0 := BC HB.out hx168_0
         replace hx168_1 := BC HB.out hx168_1
         replace p168 := eq_true p168
         replace q168 := eq_true q168
         go_wp2
         go_meet
         case rel => exact ⟨_, ((t165 == 0)), (by first | rfl | (simp; done) | (simp [*]; done)), H', ⟨by have := HK1.out; have := HK2.out; have := HK3.out; first | omega | exact Nat.le_refl _⟩, ⟨BT HB.out⟩⟩
        case rest =>
         clear HC39
         try clear c1
         try clear p1
         try clear q1
         try clear hx1
         try clear c2
         try clear c2b0
         try clear p2
         try clear c3
         try clear c4
         try clear p6
         try clear c15
         try clear p15
         try clear q15
         try clear hx15
         try clear c16
         try clear p16
         try clear q16
         try clear hx16
         try clear c20
         try clear c20b0
         try clear c22
         try clear c23
         try clear c24
         try clear c25
         try clear c28
         try clear c28b0
         try clear c28b1
         try clear c32
         try clear c33
         try clear c33b0
         try clear c34
         try clear c34b0
         try clear c35
         try clear c35b0
         try clear c36
         try clear c36b0
         try clear c37
         try clear c37b0
         try clear c41
         try clear c41b0
         try clear c41b1
         try clear c42
         try clear c42b0
         try clear hx157_0
         try clear hx157_1
         try clear hx157_2
         try clear hx157_3
         try clear hx158_0
         try clear hx158_1
         try clear hx158_2
         try clear hx158_3
         try clear hx159_0
         try clear hx159_1
         try clear hx159_2
         try clear hx159_3
         try clear hx160_0
         try clear hx160_1
         try clear hx160_2
         try clear hx160_3
         try clear hx162_0
         try clear hx162_1
         try clear hx162_2
         try clear hx162_3
         try clear hx163_0
         try clear hx163_1
         try clear hx163_2
         try clear hx163_3
         try clear hx164_0
         try clear hx164_1
         try clear hx166_0
         try clear hx166_1
         try clear hx166_2
         try clear hx166_3
         try clear hx167_0
         try clear hx167_1
         try clear hx167_2
         try clear hx167_3
         try clear hx168_0
         try clear hx168_1
         try clear p1
         try clear p15
         try clear p157
         try clear p158
         try clear p159
         try clear p16
         try clear p160
         try clear p162
         try clear p163
         try clear p164
         try clear p166
         try clear p167
         try clear p168
         try clear p2
         try clear p6
         try clear q1
         try clear q15
         try clear q157
         try clear q158
         try clear q159
         try clear q16
         try clear q160
         try clear q162
         try clear q163
         try clear q164
         try clear q166
         try clear q167
         try clear q168
         obtain ⟨kq, x119_38, rfl, HA, HJ38, HB⟩ := hcut
         cases kq with
         | zero => exact absurd HA.out (by simp [spec_IsHistory.j5])
         | succ kj38 =>
          have H := HA.out
          clear HA
          simp only [spec_IsHistory.j5] at H
          by_cases c43 : x119_38 = true
          ·subst c43
           have H1 : (some false) = some r := by rw [if_pos rfl] at H; exact H
           clear H
           have H := H1
           clear H1
           obtain rfl := Option.some.inj H
           go_wp2
           go_ret
           exact QT (BT HB.out)
          replace c43 := Bool.eq_false_iff.mpr c43
          subst c43
          have H1 : (spec_IsHistory.l2 kj38 l0 x4_2 (wrap64 (x5_3 + 1))) = some r := by rw [if_neg (show ¬ (false = true) by decide)] at H; exact H
          clear H
          have H := H1
          clear H1
          have H' := AM_ H
          clear H
          go_wp2
          go_roundg kj38
          case measure => have := HK1.out; have := HK2.out; have := HK3.out; have := HJ38.out; omega
          case rel => exact ⟨(wrap64 (x5_3 + 1)), (by first | rfl | (simp; done) | (simp [*]; done)), H', ⟨by have := HK1.out; have := HK2.out; have := HK3.out; have := HJ38.out; omega⟩, ⟨BT HB.out⟩⟩
   rw [if_pos c2] at H
   have c2b0 : decide (x3_1 < (l0.length : Int)) = true := decide_eq_true c2
   clear c2
   have HC3 := AM_ H
   clear H
   go_upto_region 4 with (fail)
   go_cut [31] (fun v31 wc => ∃ (kq : Nat) (x31_2 : Bool), v31 = .bool x31_2 ∧ Aside0 (spec_IsHistory.j1 kq l0 x3_1 x31_2 = some r) ∧ Aside0 (kq ≤ k1) ∧ Aside0 (Below w.heap.size w wc))
   case first =>
    have H := HC3.out
    clear HC3
    by_cases c4 : 0 ≤ x3_1
    rotate_left
    ·rw [if_neg c4] at H
     exact absurd H (by simp)
    rw [if_pos c4] at H
    have c4b0 : decide (0 ≤ x3_1) = true := decide_eq_true c4
    clear c4
    (first | rw [c4b0] | (simp only [i64_w, i32_w]; rw [c4b0]) | skip)
    replace H := Option.bind_eq_some_iff.mp H
    obtain ⟨⟨t137, t138, t139, t140, t141, t142, t143⟩, A50, H⟩ := H
    replace H : ((spec_IsValidTransaction.f k1 t137 t138 t139 t140 t141 t142 t143 ((rd_T53 l0 x3_1).f2) ((rd_T53 l0 x3_1).f3)).bind fun t150 => (if t150 = true then (if x3_1 ≤ (l0.length : Int) then ((spec_FindEntry.f k1 (l0.take (x3_1 : Int).toNat) ((rd_T53 l0 x3_1).f0)).bind fun t156 => (spec_IsHistory.j1 k1 l0 x3_1 (decide (t156 ≥ 0)))) else (none)) else (spec_IsHistory.j1 k1 l0 x3_1 true))) = some r := H
    have A5 := AM_ A50
    clear A50
    replace H := Option.bind_eq_some_iff.mp H
    obtain ⟨t150, A60, H⟩ := H
    replace H : (if t150 = true then (if x3_1 ≤ (l0.length : Int) then ((spec_FindEntry.f k1 (l0.take (x3_1 : Int).toNat) ((rd_T53 l0 x3_1).f0)).bind fun t156 => (spec_IsHistory.j1 k1 l0 x3_1 (decide (t156 ≥ 0)))) else (none)) else (spec_IsHistory.j1 k1 l0 x3_1 true)) = some r := H
    have A6 := AM_ A60
    clear A60
    by_cases c7 : t150 = true
    rotate_left
    ·replace c7 := Bool.eq_false_iff.mpr c7
     subst c7
     have H1 : (spec_IsHistory.j1 k1 l0 x3_1 true) = some r := by rw [if_neg (show ¬ (false = true) by decide)] at H; exact H
     clear H
     have H := H1
     clear H1
     have H' := AM_ H
     clear H
     try go_wp2
     replace HB := AM_ (below_drew1 HB.out)
     have p136 : 0 ≤ (x3_1 : Int) := DT
     have q136 : x3_1 < (l0.length : Int) := DT
     obtain ⟨ad136, A136_2, c136_2, A136_3, c136_3, e136, hx136_0, hx136_1, hx136_2, hx136_3, hl136_2, hi136_2, hl136_3, hi136_3⟩ := at_T53 HR0.out x3_1 p136 q136
     have hw136_3 := hx136_3
     have hw136_2 := hx136_2
     have hw136_1 := hx136_1
     have hw136_0 := hx136_0
     cases e136
     replace hx136_0 := BC HB.out hx136_0
     replace hx136_1 := BC HB.out hx136_1
     replace hx136_2 := BC HB.out hx136_2
     replace hx136_3 := BC HB.out hx136_3
     have HR136_2 := AM_ hi136_2
     have HC136_2 := AM_ hl136_2
     clear hi136_2 hl136_2
     have HR136_3 := AM_ hi136_3
     have HC136_3 := AM_ hl136_3
     clear hi136_3 hl136_3
     replace p136 := eq_true p136
     replace q136 := eq_true q136
     refine start_ (n := 19) (S := fun w' => w'.cell? (ad136.add ((x3_1).toNat * 4)) = some (.int .i64 ((rd_T53 l0 x3_1).f0)) ∧ w'.cell? ⟨(ad136.add ((x3_1).toNat * 4)).block, (ad136.add ((x3_1).toNat * 4)).off + 1, none⟩ = some (.int .i64 ((rd_T53 l0 x3_1).f1)) ∧ w'.cell? ⟨(ad136.add ((x3_1).toNat * 4)).block, (ad136.add ((x3_1).toNat * 4)).off + 2, none⟩ = some (.slice A136_2 ((rd_T53 l0 x3_1).f2).length c136_2) ∧ w'.cell? ⟨(ad136.add ((x3_1).toNat * 4)).block, (ad136.add ((x3_1).toNat * 4)).off + 3, none⟩ = some (.slice A136_3 ((rd_T53 l0 x3_1).f3).length c136_3)) (ds := []) (bs 0 19) (by kernel_rfl) rfl rfl ⟨(BD HB.out hw136_0), (BD HB.out hw136_1), (BD HB.out hw136_2), (BD HB.out hw136_3)⟩ (fun hHeld => ?_); refine with_tabW spec_IsHistory.tab4 spec_IsHistory.bits4 (fun HT_ HW_ => ?_)
     generalize wr.drew = w15 at HB HR136_2 HR136_3 hx136_0 hx136_1 hx136_2 hx136_3 hHeld ⊢
     refine pu (i := 0) (N := some 13) (v := ?_) (a' := ?_) (bs 1 19) rfl rfl HT_ ?_ ?_ ?_
     rotate_left
     ·intro w'
      go_simp
      with_reducible rfl
     rotate_left
     ·simp only [pA, pS, pZ, pK, i64_w, i32_w]
      rfl
     refine pu (i := 1) (N := some 14) (v := ?_) (a' := ?_) (bs 3 19) rfl rfl HT_ ?_ ?_ ?_
     rotate_left
     ·intro w'
      go_simp
      with_reducible rfl
     rotate_left
     ·simp only [pA, pS, pZ, pK, i64_w, i32_w]
      rfl
     refine pu (i := 2) (N := some 15) (v := ?_) (a' := ?_) (bs 7 19) rfl rfl HT_ ?_ ?_ ?_
     rotate_left
     ·intro w'
      go_simp
      with_reducible rfl
     rotate_left
     ·simp only [pA, pS, pZ, pK, i64_w, i32_w]
      rfl
     refine tk (i := 3) (N := some 16) (v := ?_) (a' := ?_) (bs 15 19) rfl rfl HT_ HW_ ?_ hHeld ?_ ?_
     rotate_left
     ·rintro w' ⟨s0, s1, s2, s3⟩
      go_simp
      with_reducible rfl
     rotate_left
     ·simp only [pA, pS, pZ, pK, i64_w, i32_w]
      rfl
     refine one_ (i := 4) (N := some 17) (bs 31 19) rfl rfl (one_of HT_.out (by kernel_rfl)) (by decide) (fun K hK => ?_)
     refine goes_ Tryd.func43 (by kernel_rfl) rfl #[.agg #[.int .i64 ((rd_T53 l0 x3_1).f0), .int .i64 ((rd_T53 l0 x3_1).f1), .slice A136_2 ((rd_T53 l0 x3_1).f2).length c136_2, .slice A136_3 ((rd_T53 l0 x3_1).f3).length c136_3]] (by rfl) rfl rfl (by (try simp only [List.map_toArray, List.map_cons, List.map_nil]); first | done | rfl | (simp only [List.length_drop, List.length_take]; rfl)) ?_
     with_reducible refine (spec_l18Tx.calls ((rd_T53 l0 x3_1).f0) ((rd_T53 l0 x3_1).f1) _ _ ((rd_T53 l0 x3_1).f2) _ _ ((rd_T53 l0 x3_1).f3) t137 t138 t139 t140 t141 t142 t143 _ ?side1 ?side2 ?side3 ?side4 A5.out).mono ?_
     (case side1 => exact CB HR136_2.out HB.out)
     (case side2 => exact HC136_2.out)
     (case side3 => exact CB HR136_3.out HB.out)
     (case side4 => exact HC136_3.out)
     rintro e w16 ⟨rfl, hb⟩
     refine ⟨_, rfl, ?_⟩
     replace HB := AM_ (below_step (BT HB.out) hb)
     (try clear hb)
     (try clear hb2)
     (try clear hk)
     (try clear hi)
     refine hK.out _ _ ⟨(BD HB.out hw136_0), (BD HB.out hw136_1), (BD HB.out hw136_2), (BD HB.out hw136_3)⟩ (fun hHeld => ?_)
     clear hK K
     refine norm_ (a' := ?_) ?_ ?_
     rotate_left
     ·show Act.put _ (some 17) _ = _
      simp only [pA, pS, pZ, pK, i64_w, i32_w]
      rfl
     refine one_ (i := 5) (N := some 18) (bs 63 19) rfl rfl (one_of HT_.out (by kernel_rfl)) (by decide) (fun K hK => ?_)
     refine goes_ Tryd.func42 (by kernel_rfl) rfl #[.agg #[.int .i64 t137, .int .i64 t138, .int .i64 t139, .int .i64 t140, .int .i64 t141, .int .i64 t142, .int .i64 t143, .slice A136_2 ((rd_T53 l0 x3_1).f2).length c136_2, .slice A136_3 ((rd_T53 l0 x3_1).f3).length c136_3]] (by rfl) rfl rfl (by (try simp only [List.map_toArray, List.map_cons, List.map_nil]); first | done | rfl | (simp only [List.length_drop, List.length_take]; rfl)) ?_
     with_reducible refine (spec_IsValidTransaction.calls k1 t137 t138 t139 t140 t141 t142 t143 _ _ ((rd_T53 l0 x3_1).f2) _ _ ((rd_T53 l0 x3_1).f3) false _ ?side1 ?side2 ?side3 ?side4 A6.out).mono ?_
     (case side1 => exact CB HR136_2.out HB.out)
     (case side2 => exact HC136_2.out)
     (case side3 => exact CB HR136_3.out HB.out)
     (case side4 => exact HC136_3.out)
     rintro e w17 ⟨rfl, hb⟩
     refine ⟨_, rfl, ?_⟩
     replace HB := AM_ (below_step (BT HB.out) hb)
     (try clear hb)
     (try clear hb2)
     (try clear hk)
     (try clear hi)
     refine hK.out _ _ ⟨(BD HB.out hw136_0), (BD HB.out hw136_1), (BD HB.out hw136_2), (BD HB.out hw136_3)⟩ (fun hHeld => ?_)
     clear hK K
     refine norm_ (a' := ?_) ?_ ?_
     rotate_left
     ·show Act.put _ (some 18) _ = _
      simp only [pA, pS, pZ, pK, i64_w, i32_w]
      rfl
     refine pu (i := 6) (N := some 19) (v := ?_) (a' := ?_) (bs 127 19) rfl rfl HT_ ?_ ?_ ?_
     rotate_left
     ·intro w'
      go_simp
      with_reducible rfl
     rotate_left
     ·simp only [pA, pS, pZ, pK, i64_w, i32_w]
      rfl
     refine pu (i := 7) (N := some 20) (v := ?_) (a' := ?_) (bs 255 19) rfl rfl HT_ ?_ ?_ ?_
     rotate_left
     ·intro w'
      go_simp
      with_reducible rfl
     rotate_left
     ·simp only [pA, pS, pZ, pK, i64_w, i32_w]
      rfl
     refine pn (i := 8) (N := some 21) (v := undef) (a' := ?_) (bs 511 19) rfl rfl HT_ ?_ ?_
     rotate_left
     ·simp only [pA, pS, pZ, pK, i64_w, i32_w]
      rfl
     refine pn (i := 9) (N := some 22) (v := undef) (a' := ?_) (bs 1023 19) rfl rfl HT_ ?_ ?_
     rotate_left
     ·simp only [pA, pS, pZ, pK, i64_w, i32_w]
      rfl
     refine pn (i := 10) (N := some 23) (v := undef) (a' := ?_) (bs 2047 19) rfl rfl HT_ ?_ ?_
     rotate_left
     ·simp only [pA, pS, pZ, pK, i64_w, i32_w]
      rfl
     refine pn (i := 11) (N := some 24) (v := undef) (a' := ?_) (bs 4095 19) rfl rfl HT_ ?_ ?_
     rotate_left
     ·simp only [pA, pS, pZ, pK, i64_w, i32_w]
      rfl
     refine pn (i := 12) (N := some 25) (v := undef) (a' := ?_) (bs 8191 19) rfl rfl HT_ ?_ ?_
     rotate_left
     ·simp only [pA, pS, pZ, pK, i64_w, i32_w]
      rfl
     refine pn (i := 13) (N := some 26) (v := undef) (a' := ?_) (bs 16383 19) rfl rfl HT_ ?_ ?_
     rotate_left
     ·simp only [pA, pS, pZ, pK, i64_w, i32_w]
      rfl
     refine pn (i := 14) (N := some 27) (v := undef) (a' := ?_) (bs 32767 19) rfl rfl HT_ ?_ ?_
     rotate_left
     ·simp only [pA, pS, pZ, pK, i64_w, i32_w]
      rfl
     refine pn (i := 15) (N := some 28) (v := undef) (a' := ?_) (bs 65535 19) rfl rfl HT_ ?_ ?_
     rotate_left
     ·simp only [pA, pS, pZ, pK, i64_w, i32_w]
      rfl
     refine pn (i := 16) (N := some 29) (v := undef) (a' := ?_) (bs 131071 19) rfl rfl HT_ ?_ ?_
     rotate_left
     ·simp only [pA, pS, pZ, pK, i64_w, i32_w]
      rfl
     refine pn (i := 17) (N := some 30) (v := undef) (a' := ?_) (bs 262143 19) rfl rfl HT_ ?_ ?_
     rotate_left
     ·simp only [pA, pS, pZ, pK, i64_w, i32_w]
      rfl
     refine pu (i := 18) (N := some 31) (v := ?_) (a' := ?_) (bs 524287 19) rfl rfl HT_ ?_ ?_ ?_
     rotate_left
     ·intro w'
      go_simp
      with_reducible rfl
     rotate_left
     ·simp only [pA, pS, pZ, pK, i64_w, i32_w]
      rfl
     refine done_ (done_of HT_.out (by kernel_rfl)) ?_
     try go_wp2
     go_meet
     case rel => exact ⟨_, (true), (by first | rfl | (simp; done) | (simp [*]; done)), H', ⟨by have := HK1.out; first | omega | exact Nat.le_refl _⟩, ⟨BT HB.out⟩⟩
    subst c7
    have H1 : (if x3_1 ≤ (l0.length : Int) then ((spec_FindEntry.f k1 (l0.take (x3_1 : Int).toNat) ((rd_T53 l0 x3_1).f0)).bind fun t156 => (spec_IsHistory.j1 k1 l0 x3_1 (decide (t156 ≥ 0)))) else (none)) = some r := by rw [if_pos rfl] at H; exact H
    clear H
    have H := H1
    clear H1
    have c8b0 := eq_true (DT : 0 ≤ x3_1)
    by_cases c9 : x3_1 ≤ (l0.length : Int)
    rotate_left
    ·rw [if_neg c9] at H
     exact absurd H (by simp)
    rw [if_pos c9] at H
    have c9b0 := eq_true c9
    have c9b1 : decide (x3_1 ≤ (l0.length : Int)) = true := decide_eq_true c9
    clear c9
    obtain ⟨y151, hy151⟩ : ∃ y_ : List (S53), y_ = (l0.take (x3_1 : Int).toNat) := ⟨_, rfl⟩
    replace H : ((spec_FindEntry.f k1 y151 ((rd_T53 l0 x3_1).f0)).bind fun t156 => (spec_IsHistory.j1 k1 l0 x3_1 (decide (t156 ≥ 0)))) = some r := by first | (rw [hy151]; with_reducible exact H) | (have H2_ := (Option.bind_some _ _).symm.trans H; rw [hy151]; with_reducible exact H2_) | (have H2_ := (Option.bind_some _ _).symm.trans H; with_reducible exact H2_) | with_reducible exact H | (rw [hy151]; exact H) | exact H
    have Ny151 := AM_ hy151
    clear hy151
    replace H := Option.bind_eq_some_iff.mp H
    obtain ⟨t156, A100, H⟩ := H
    replace H : (spec_IsHistory.j1 k1 l0 x3_1 (decide (t156 ≥ 0))) = some r := H
    have A10 := AM_ A100
    clear A100
    have H' := AM_ H
    clear H
    try go_wp2
    replace HB := AM_ (below_drew1 HB.out)
    have p136 : 0 ≤ (x3_1 : Int) := DT
    have q136 : x3_1 < (l0.length : Int) := DT
    obtain ⟨ad136, A136_2, c136_2, A136_3, c136_3, e136, hx136_0, hx136_1, hx136_2, hx136_3, hl136_2, hi136_2, hl136_3, hi136_3⟩ := at_T53 HR0.out x3_1 p136 q136
    have hw136_3 := hx136_3
    have hw136_2 := hx136_2
    have hw136_1 := hx136_1
    have hw136_0 := hx136_0
    cases e136
    replace hx136_0 := BC HB.out hx136_0
    replace hx136_1 := BC HB.out hx136_1
    replace hx136_2 := BC HB.out hx136_2
    replace hx136_3 := BC HB.out hx136_3
    have HR136_2 := AM_ hi136_2
    have HC136_2 := AM_ hl136_2
    clear hi136_2 hl136_2
    have HR136_3 := AM_ hi136_3
    have HC136_3 := AM_ hl136_3
    clear hi136_3 hl136_3
    replace p136 := eq_true p136
    replace q136 := eq_true q136
    have p155 : 0 ≤ (x3_1 : Int) := DT
    have q155 : x3_1 < (l0.length : Int) := DT
    obtain ⟨ad155, A155_2, c155_2, A155_3, c155_3, e155, hx155_0, hx155_1, hx155_2, hx155_3, hl155_2, hi155_2, hl155_3, hi155_3⟩ := at_T53 HR0.out x3_1 p155 q155
    have hw155_3 := hx155_3
    have hw155_2 := hx155_2
    have hw155_1 := hx155_1
    have hw155_0 := hx155_0
    obtain rfl : ad136 = ad155 := (by injection e155)
    replace hx155_0 := BC HB.out hx155_0
    replace hx155_1 := BC HB.out hx155_1
    replace hx155_2 := BC HB.out hx155_2
    replace hx155_3 := BC HB.out hx155_3
    have HR155_2 := AM_ hi155_2
    have HC155_2 := AM_ hl155_2
    clear hi155_2 hl155_2
    have HR155_3 := AM_ hi155_3
    have HC155_3 := AM_ hl155_3
    clear hi155_3 hl155_3
    replace p155 := eq_true p155
    replace q155 := eq_true q155
    refine start_ (n := 19) (S := fun w' => w'.cell? (ad136.add ((x3_1).toNat * 4)) = some (.int .i64 ((rd_T53 l0 x3_1).f0)) ∧ w'.cell? ⟨(ad136.add ((x3_1).toNat * 4)).block, (ad136.add ((x3_1).toNat * 4)).off + 1, none⟩ = some (.int .i64 ((rd_T53 l0 x3_1).f1)) ∧ w'.cell? ⟨(ad136.add ((x3_1).toNat * 4)).block, (ad136.add ((x3_1).toNat * 4)).off + 2, none⟩ = some (.slice A136_2 ((rd_T53 l0 x3_1).f2).length c136_2) ∧ w'.cell? ⟨(ad136.add ((x3_1).toNat * 4)).block, (ad136.add ((x3_1).toNat * 4)).off + 3, none⟩ = some (.slice A136_3 ((rd_T53 l0 x3_1).f3).length c136_3) ∧ w'.cell? (ad136.add ((x3_1).toNat * 4)) = some (.int .i64 ((rd_T53 l0 x3_1).f0)) ∧ w'.cell? ⟨(ad136.add ((x3_1).toNat * 4)).block, (ad136.add ((x3_1).toNat * 4)).off + 1, none⟩ = some (.int .i64 ((rd_T53 l0 x3_1).f1)) ∧ w'.cell? ⟨(ad136.add ((x3_1).toNat * 4)).block, (ad136.add ((x3_1).toNat * 4)).off + 2, none⟩ = some (.slice A155_2 ((rd_T53 l0 x3_1).f2).length c155_2) ∧ w'.cell? ⟨(ad136.add ((x3_1).toNat * 4)).block, (ad136.add ((x3_1).toNat * 4)).off + 3, none⟩ = some (.slice A155_3 ((rd_T53 l0 x3_1).f3).length c155_3)) (ds := []) (bs 0 19) (by kernel_rfl) rfl rfl ⟨(BD HB.out hw136_0), (BD HB.out hw136_1), (BD HB.out hw136_2), (BD HB.out hw136_3), (BD HB.out hw155_0), (BD HB.out hw155_1), (BD HB.out hw155_2), (BD HB.out hw155_3)⟩ (fun hHeld => ?_); refine with_tabW spec_IsHistory.tab4 spec_IsHistory.bits4 (fun HT_ HW_ => ?_)
    generalize wr.drew = w11 at HB HR136_2 HR136_3 HR155_2 HR155_3 hx136_0 hx136_1 hx136_2 hx136_3 hx155_0 hx155_1 hx155_2 hx155_3 hHeld ⊢
    refine pu (i := 0) (N := some 13) (v := ?_) (a' := ?_) (bs 1 19) rfl rfl HT_ ?_ ?_ ?_
    rotate_left
    ·intro w'
     go_simp
     with_reducible rfl
    rotate_left
    ·simp only [pA, pS, pZ, pK, i64_w, i32_w]
     rfl
    refine pu (i := 1) (N := some 14) (v := ?_) (a' := ?_) (bs 3 19) rfl rfl HT_ ?_ ?_ ?_
    rotate_left
    ·intro w'
     go_simp
     with_reducible rfl
    rotate_left
    ·simp only [pA, pS, pZ, pK, i64_w, i32_w]
     rfl
    refine pu (i := 2) (N := some 15) (v := ?_) (a' := ?_) (bs 7 19) rfl rfl HT_ ?_ ?_ ?_
    rotate_left
    ·intro w'
     go_simp
     with_reducible rfl
    rotate_left
    ·simp only [pA, pS, pZ, pK, i64_w, i32_w]
     rfl
    refine tk (i := 3) (N := some 16) (v := ?_) (a' := ?_) (bs 15 19) rfl rfl HT_ HW_ ?_ hHeld ?_ ?_
    rotate_left
    ·rintro w' ⟨s0, s1, s2, s3, s4, s5, s6, s7⟩
     go_simp
     with_reducible rfl
    rotate_left
    ·simp only [pA, pS, pZ, pK, i64_w, i32_w]
     rfl
    refine one_ (i := 4) (N := some 17) (bs 31 19) rfl rfl (one_of HT_.out (by kernel_rfl)) (by decide) (fun K hK => ?_)
    refine goes_ Tryd.func43 (by kernel_rfl) rfl #[.agg #[.int .i64 ((rd_T53 l0 x3_1).f0), .int .i64 ((rd_T53 l0 x3_1).f1), .slice A136_2 ((rd_T53 l0 x3_1).f2).length c136_2, .slice A136_3 ((rd_T53 l0 x3_1).f3).length c136_3]] (by rfl) rfl rfl (by (try simp only [List.map_toArray, List.map_cons, List.map_nil]); first | done | rfl | (simp only [List.length_drop, List.length_take]; rfl)) ?_
    with_reducible refine (spec_l18Tx.calls ((rd_T53 l0 x3_1).f0) ((rd_T53 l0 x3_1).f1) _ _ ((rd_T53 l0 x3_1).f2) _ _ ((rd_T53 l0 x3_1).f3) t137 t138 t139 t140 t141 t142 t143 _ ?side1 ?side2 ?side3 ?side4 A5.out).mono ?_
    (case side1 => exact CB HR136_2.out HB.out)
    (case side2 => exact HC136_2.out)
    (case side3 => exact CB HR136_3.out HB.out)
    (case side4 => exact HC136_3.out)
    rintro e w12 ⟨rfl, hb⟩
    refine ⟨_, rfl, ?_⟩
    replace HB := AM_ (below_step (BT HB.out) hb)
    (try clear hb)
    (try clear hb2)
    (try clear hk)
    (try clear hi)
    refine hK.out _ _ ⟨(BD HB.out hw136_0), (BD HB.out hw136_1), (BD HB.out hw136_2), (BD HB.out hw136_3), (BD HB.out hw155_0), (BD HB.out hw155_1), (BD HB.out hw155_2), (BD HB.out hw155_3)⟩ (fun hHeld => ?_)
    clear hK K
    refine norm_ (a' := ?_) ?_ ?_
    rotate_left
    ·show Act.put _ (some 17) _ = _
     simp only [pA, pS, pZ, pK, i64_w, i32_w]
     rfl
    refine one_ (i := 5) (N := some 18) (bs 63 19) rfl rfl (one_of HT_.out (by kernel_rfl)) (by decide) (fun K hK => ?_)
    refine goes_ Tryd.func42 (by kernel_rfl) rfl #[.agg #[.int .i64 t137, .int .i64 t138, .int .i64 t139, .int .i64 t140, .int .i64 t141, .int .i64 t142, .int .i64 t143, .slice A136_2 ((rd_T53 l0 x3_1).f2).length c136_2, .slice A136_3 ((rd_T53 l0 x3_1).f3).length c136_3]] (by rfl) rfl rfl (by (try simp only [List.map_toArray, List.map_cons, List.map_nil]); first | done | rfl | (simp only [List.length_drop, List.length_take]; rfl)) ?_
    with_reducible refine (spec_IsValidTransaction.calls k1 t137 t138 t139 t140 t141 t142 t143 _ _ ((rd_T53 l0 x3_1).f2) _ _ ((rd_T53 l0 x3_1).f3) true _ ?side1 ?side2 ?side3 ?side4 A6.out).mono ?_
    (case side1 => exact CB HR136_2.out HB.out)
    (case side2 => exact HC136_2.out)
    (case side3 => exact CB HR136_3.out HB.out)
    (case side4 => exact HC136_3.out)
    rintro e w13 ⟨rfl, hb⟩
    refine ⟨_, rfl, ?_⟩
    replace HB := AM_ (below_step (BT HB.out) hb)
    (try clear hb)
    (try clear hb2)
    (try clear hk)
    (try clear hi)
    have q14 : (x3_1 : Int) ≤ ((l0.length : Int) : Int) := DT
    obtain ⟨i014, hi014, _, hsz14, _⟩ := info_parts info53
    have hroom14 : l0.length ≤ c0 := HC0.out
    have hC14 : Kd.C k53 _ (some ad136) l0.length l0 := HR0.out
    have hcut14 := cut_to (P := Tryd.prog) 31 53 .i64 Tryd.underlying31 hi014 (some ad136) l0.length c0 x3_1 (DT) q14 hroom14
    have hr14 := Kd.C_take (m := (x3_1 : Int).toNat) hC14 (by omega)
    have hy14 : y151.length = (x3_1 : Int).toNat := (by rw [Ny151.out, List.length_take]; omega)
    rw [← Ny151.out] at hr14
    rw [← hy14] at hcut14
    have HR154 := AM_ hr14
    have HC154 := AM_ (show y151.length ≤ c0 from by omega)
    clear hr14 hC14 hroom14 hi014 hsz14
    have KY14 := AM_ hy14
    clear hy14
    replace q14 := eq_true q14
    refine hK.out _ _ ⟨(BD HB.out hw136_0), (BD HB.out hw136_1), (BD HB.out hw136_2), (BD HB.out hw136_3), (BD HB.out hw155_0), (BD HB.out hw155_1), (BD HB.out hw155_2), (BD HB.out hw155_3)⟩ (fun hHeld => ?_)
    clear hK K
    refine norm_ (a' := ?_) ?_ ?_
    rotate_left
    ·show Act.put _ (some 18) _ = _
     simp only [pA, pS, pZ, pK, i64_w, i32_w]
     rfl
    refine pu (i := 6) (N := some 19) (v := ?_) (a' := ?_) (bs 127 19) rfl rfl HT_ ?_ ?_ ?_
    rotate_left
    ·intro w'
     go_simp
     with_reducible rfl
    rotate_left
    ·simp only [pA, pS, pZ, pK, i64_w, i32_w]
     rfl
    refine pu (i := 7) (N := some 20) (v := ?_) (a' := ?_) (bs 255 19) rfl rfl HT_ ?_ ?_ ?_
    rotate_left
    ·intro w'
     go_simp
     with_reducible rfl
    rotate_left
    ·simp only [pA, pS, pZ, pK, i64_w, i32_w]
     rfl
    refine pu (i := 8) (N := some 21) (v := ?_) (a' := ?_) (bs 511 19) rfl rfl HT_ ?_ ?_ ?_
    rotate_left
    ·intro w'
     go_simp
     with_reducible rfl
    rotate_left
    ·simp only [pA, pS, pZ, pK, i64_w, i32_w]
     rfl
    refine pu (i := 9) (N := some 22) (v := ?_) (a' := ?_) (bs 1023 19) rfl rfl HT_ ?_ ?_ ?_
    rotate_left
    ·intro w'
     go_simp
     with_reducible rfl
    rotate_left
    ·simp only [pA, pS, pZ, pK, i64_w, i32_w]
     rfl
    refine pu (i := 10) (N := some 23) (v := ?_) (a' := ?_) (bs 2047 19) rfl rfl HT_ ?_ ?_ ?_
    rotate_left
    ·intro w'
     go_simp
     with_reducible rfl
    rotate_left
    ·simp only [pA, pS, pZ, pK, i64_w, i32_w]
     rfl
    refine pu (i := 11) (N := some 24) (v := ?_) (a' := ?_) (bs 4095 19) rfl rfl HT_ ?_ ?_ ?_
    rotate_left
    ·intro w'
     go_simp
     with_reducible rfl
    rotate_left
    ·simp only [pA, pS, pZ, pK, i64_w, i32_w]
     rfl
    refine pu (i := 12) (N := some 25) (v := ?_) (a' := ?_) (bs 8191 19) rfl rfl HT_ ?_ ?_ ?_
    rotate_left
    ·intro w'
     go_simp
     with_reducible rfl
    rotate_left
    ·simp only [pA, pS, pZ, pK, i64_w, i32_w]
     rfl
    refine pu (i := 13) (N := some 26) (v := ?_) (a' := ?_) (bs 16383 19) rfl rfl HT_ ?_ ?_ ?_
    rotate_left
    ·intro w'
     go_simp
     with_reducible rfl
    rotate_left
    ·simp only [pA, pS, pZ, pK, i64_w, i32_w]
     rfl
    refine pu (i := 14) (N := some 27) (v := ?_) (a' := ?_) (bs 32767 19) rfl rfl HT_ ?_ ?_ ?_
    rotate_left
    ·intro w'
     go_simp
     with_reducible rfl
    rotate_left
    ·simp only [pA, pS, pZ, pK, i64_w, i32_w]
     rfl
    refine tk (i := 15) (N := some 28) (v := ?_) (a' := ?_) (bs 65535 19) rfl rfl HT_ HW_ ?_ hHeld ?_ ?_
    rotate_left
    ·rintro w' ⟨s0, s1, s2, s3, s4, s5, s6, s7⟩
     go_simp
     with_reducible rfl
    rotate_left
    ·simp only [pA, pS, pZ, pK, i64_w, i32_w]
     rfl
    refine one_ (i := 16) (N := some 29) (bs 131071 19) rfl rfl (one_of HT_.out (by kernel_rfl)) (by decide) (fun K hK => ?_)
    refine goes_ Tryd.func44 (by kernel_rfl) rfl #[.slice (some ad136) y151.length c0, .int .i64 ((rd_T53 l0 x3_1).f0)] (by rfl) rfl rfl (by (try simp only [List.map_toArray, List.map_cons, List.map_nil]); first | done | rfl | (simp only [List.length_drop, List.length_take]; rfl)) ?_
    with_reducible refine (spec_FindEntry.calls k1 _ _ y151 ((rd_T53 l0 x3_1).f0) t156 _ ?side1 ?side2 A10.out).mono ?_
    (case side1 => exact CB HR154.out HB.out)
    (case side2 => exact HC154.out)
    rintro e w' ⟨rfl, ⟨nd, rfl⟩⟩
    refine ⟨_, rfl, ?_⟩
    refine hK.out _ _ ⟨(BD HB.out hw136_0), (BD HB.out hw136_1), (BD HB.out hw136_2), (BD HB.out hw136_3), (BD HB.out hw155_0), (BD HB.out hw155_1), (BD HB.out hw155_2), (BD HB.out hw155_3)⟩ (fun hHeld => ?_)
    clear hK K
    refine norm_ (a' := ?_) ?_ ?_
    rotate_left
    ·show Act.put _ (some 29) _ = _
     simp only [pA, pS, pZ, pK, i64_w, i32_w]
     rfl
    refine pu (i := 17) (N := some 30) (v := ?_) (a' := ?_) (bs 262143 19) rfl rfl HT_ ?_ ?_ ?_
    rotate_left
    ·intro w'
     go_simp
     with_reducible rfl
    rotate_left
    ·simp only [pA, pS, pZ, pK, i64_w, i32_w]
     rfl
    refine pu (i := 18) (N := some 31) (v := ?_) (a' := ?_) (bs 524287 19) rfl rfl HT_ ?_ ?_ ?_
    rotate_left
    ·intro w'
     go_simp
     with_reducible rfl
    rotate_left
    ·simp only [pA, pS, pZ, pK, i64_w, i32_w]
     rfl
    refine done_ (done_of HT_.out (by kernel_rfl)) ?_
    try go_wp2
    go_meet
    case rel => exact ⟨_, (decide (t156 ≥ 0)), (by first | rfl | (simp; done) | (simp [*]; done)), H', ⟨by have := HK1.out; first | omega | exact Nat.le_refl _⟩, ⟨BT HB.out⟩⟩
   case rest =>
    clear HC3
    try clear c1
    try clear p1
    try clear q1
    try clear hx1
    try clear c2
    try clear c2b0
    try clear p2
    try clear c4
    try clear c4b0
    try clear c7
    try clear c8
    try clear c8b0
    try clear c9
    try clear c9b0
    try clear c9b1
    try clear c13
    try clear p13
    try clear q13
    try clear hx13
    try clear q14
    try clear c15
    try clear p15
    try clear q15
    try clear hx15
    try clear hx136_0
    try clear hx136_1
    try clear hx136_2
    try clear hx136_3
    try clear hx155_0
    try clear hx155_1
    try clear hx155_2
    try clear hx155_3
    try clear p136
    try clear p155
    try clear q136
    try clear q14
    try clear q155
    obtain ⟨kq, x31_2, rfl, HA, HJ2, HB⟩ := hcut
    cases kq with
    | zero => exact absurd HA.out (by simp [spec_IsHistory.j1])
    | succ kj2 =>
     have H := HA.out
     clear HA
     simp only [spec_IsHistory.j1] at H
     by_cases c18 : x31_2 = true
     ·subst c18
      have H1 : (some false) = some r := by rw [if_pos rfl] at H; exact H
      clear H
      have H := H1
      clear H1
      obtain rfl := Option.some.inj H
      go_wp2
      go_ret
      exact QT (BT HB.out)
     replace c18 := Bool.eq_false_iff.mpr c18
     subst c18
     have H1 : (if x3_1 > 0 then (if 0 ≤ (wrap64 (x3_1 - 1)) then (if (wrap64 (x3_1 - 1)) < (l0.length : Int) then (if 0 ≤ x3_1 then (if x3_1 < (l0.length : Int) then (if ((rd_T53 l0 (wrap64 (x3_1 - 1))).f1) > ((rd_T53 l0 x3_1).f1) then (spec_IsHistory.j2 kj2 l0 x3_1 true) else (if ((rd_T53 l0 (wrap64 (x3_1 - 1))).f1) = ((rd_T53 l0 x3_1).f1) then (spec_IsHistory.j2 kj2 l0 x3_1 (decide ((((rd_T53 l0 x3_1).f3).length : Int) > 0))) else (spec_IsHistory.j2 kj2 l0 x3_1 false))) else (none)) else (none)) else (none)) else (none)) else (spec_IsHistory.j2 kj2 l0 x3_1 false)) = some r := by rw [if_neg (show ¬ (false = true) by decide)] at H; exact H
     clear H
     have H := H1
     clear H1
     have HC19 := AM_ H
     clear H
     go_upto_region 6 with (fail)
     go_cut [70] (fun v70 wc => ∃ (kq : Nat) (x70_18 : Bool), v70 = .bool x70_18 ∧ Aside0 (spec_IsHistory.j2 kq l0 x3_1 x70_18 = some r) ∧ Aside0 (kq ≤ kj2) ∧ Aside0 (Below w.heap.size w wc))
     case first =>
      have H := HC19.out
      clear HC19
      by_cases c20 : x3_1 > 0
      rotate_left
      ·rw [if_neg c20] at H
       have c20b0 : decide (0 < x3_1) = false := decide_eq_false c20
       clear c20
       (first | rw [c20b0] | (simp only [i64_w, i32_w]; rw [c20b0]) | skip)
       have H' := AM_ H
       clear H
       try go_wp2
       replace HB := AM_ (below_drew1 HB.out)
       refine start_ (n := 39) (S := fun w' => True) (ds := []) (bs 0 39) (by kernel_rfl) rfl rfl trivial (fun hHeld => ?_); refine with_tabW spec_IsHistory.tab6 spec_IsHistory.bits6 (fun HT_ HW_ => ?_)
       generalize wc.drew = w31 at HB hHeld ⊢
       refine pu (i := 0) (N := some 32) (v := ?_) (a' := ?_) (bs 1 39) rfl rfl HT_ ?_ ?_ ?_
       rotate_left
       ·intro w'
        go_simp
        with_reducible rfl
       rotate_left
       ·simp only [pA, pS, pZ, pK, i64_w, i32_w]
        rfl
       refine pu (i := 1) (N := some 33) (v := ?_) (a' := ?_) (bs 3 39) rfl rfl HT_ ?_ ?_ ?_
       rotate_left
       ·intro w'
        go_simp
        with_reducible rfl
       rotate_left
       ·simp only [pA, pS, pZ, pK, i64_w, i32_w]
        rfl
       refine pu (i := 2) (N := some 34) (v := ?_) (a' := ?_) (bs 7 39) rfl rfl HT_ ?_ ?_ ?_
       rotate_left
       ·intro w'
        go_simp
        with_reducible rfl
       rotate_left
       ·simp only [pA, pS, pZ, pK, i64_w, i32_w]
        rfl
       refine pn (i := 3) (N := some 35) (v := undef) (a' := ?_) (bs 15 39) rfl rfl HT_ ?_ ?_
       rotate_left
       ·simp only [pA, pS, pZ, pK, i64_w, i32_w]
        rfl
       refine pn (i := 4) (N := some 36) (v := undef) (a' := ?_) (bs 31 39) rfl rfl HT_ ?_ ?_
       rotate_left
       ·simp only [pA, pS, pZ, pK, i64_w, i32_w]
        rfl
       refine pn (i := 5) (N := some 37) (v := undef) (a' := ?_) (bs 63 39) rfl rfl HT_ ?_ ?_
       rotate_left
       ·simp only [pA, pS, pZ, pK, i64_w, i32_w]
        rfl
       refine pn (i := 6) (N := some 38) (v := undef) (a' := ?_) (bs 127 39) rfl rfl HT_ ?_ ?_
       rotate_left
       ·simp only [pA, pS, pZ, pK, i64_w, i32_w]
        rfl
       refine pn (i := 7) (N := some 39) (v := undef) (a' := ?_) (bs 255 39) rfl rfl HT_ ?_ ?_
       rotate_left
       ·simp only [pA, pS, pZ, pK, i64_w, i32_w]
        rfl
       refine pn (i := 8) (N := some 40) (v := undef) (a' := ?_) (bs 511 39) rfl rfl HT_ ?_ ?_
       rotate_left
       ·simp only [pA, pS, pZ, pK, i64_w, i32_w]
        rfl
       refine pn (i := 9) (N := some 41) (v := undef) (a' := ?_) (bs 1023 39) rfl rfl HT_ ?_ ?_
       rotate_left
       ·simp only [pA, pS, pZ, pK, i64_w, i32_w]
        rfl
       refine pn (i := 10) (N := some 42) (v := undef) (a' := ?_) (bs 2047 39) rfl rfl HT_ ?_ ?_
       rotate_left
       ·simp only [pA, pS, pZ, pK, i64_w, i32_w]
        rfl
       refine pn (i := 11) (N := some 43) (v := undef) (a' := ?_) (bs 4095 39) rfl rfl HT_ ?_ ?_
       rotate_left
       ·simp only [pA, pS, pZ, pK, i64_w, i32_w]
        rfl
       refine pn (i := 12) (N := some 44) (v := undef) (a' := ?_) (bs 8191 39) rfl rfl HT_ ?_ ?_
       rotate_left
       ·simp only [pA, pS, pZ, pK, i64_w, i32_w]
        rfl
       refine pn (i := 13) (N := some 45) (v := undef) (a' := ?_) (bs 16383 39) rfl rfl HT_ ?_ ?_
       rotate_left
       ·simp only [pA, pS, pZ, pK, i64_w, i32_w]
        rfl
       refine pn (i := 14) (N := some 46) (v := undef) (a' := ?_) (bs 32767 39) rfl rfl HT_ ?_ ?_
       rotate_left
       ·simp only [pA, pS, pZ, pK, i64_w, i32_w]
        rfl
       refine pn (i := 15) (N := some 47) (v := undef) (a' := ?_) (bs 65535 39) rfl rfl HT_ ?_ ?_
       rotate_left
       ·simp only [pA, pS, pZ, pK, i64_w, i32_w]
        rfl
       refine pn (i := 16) (N := some 48) (v := undef) (a' := ?_) (bs 131071 39) rfl rfl HT_ ?_ ?_
       rotate_left
       ·simp only [pA, pS, pZ, pK, i64_w, i32_w]
        rfl
       refine pn (i := 17) (N := some 49) (v := undef) (a' := ?_) (bs 262143 39) rfl rfl HT_ ?_ ?_
       rotate_left
       ·simp only [pA, pS, pZ, pK, i64_w, i32_w]
        rfl
       refine pn (i := 18) (N := some 50) (v := undef) (a' := ?_) (bs 524287 39) rfl rfl HT_ ?_ ?_
       rotate_left
       ·simp only [pA, pS, pZ, pK, i64_w, i32_w]
        rfl
       refine pn (i := 19) (N := some 51) (v := undef) (a' := ?_) (bs 1048575 39) rfl rfl HT_ ?_ ?_
       rotate_left
       ·simp only [pA, pS, pZ, pK, i64_w, i32_w]
        rfl
       refine pn (i := 20) (N := some 52) (v := undef) (a' := ?_) (bs 2097151 39) rfl rfl HT_ ?_ ?_
       rotate_left
       ·simp only [pA, pS, pZ, pK, i64_w, i32_w]
        rfl
       refine pn (i := 21) (N := some 53) (v := undef) (a' := ?_) (bs 4194303 39) rfl rfl HT_ ?_ ?_
       rotate_left
       ·simp only [pA, pS, pZ, pK, i64_w, i32_w]
        rfl
       refine pn (i := 22) (N := some 54) (v := undef) (a' := ?_) (bs 8388607 39) rfl rfl HT_ ?_ ?_
       rotate_left
       ·simp only [pA, pS, pZ, pK, i64_w, i32_w]
        rfl
       refine pn (i := 23) (N := some 55) (v := undef) (a' := ?_) (bs 16777215 39) rfl rfl HT_ ?_ ?_
       rotate_left
       ·simp only [pA, pS, pZ, pK, i64_w, i32_w]
        rfl
       refine pn (i := 24) (N := some 56) (v := undef) (a' := ?_) (bs 33554431 39) rfl rfl HT_ ?_ ?_
       rotate_left
       ·simp only [pA, pS, pZ, pK, i64_w, i32_w]
        rfl
       refine pn (i := 25) (N := some 57) (v := undef) (a' := ?_) (bs 67108863 39) rfl rfl HT_ ?_ ?_
       rotate_left
       ·simp only [pA, pS, pZ, pK, i64_w, i32_w]
        rfl
       refine pn (i := 26) (N := some 58) (v := undef) (a' := ?_) (bs 134217727 39) rfl rfl HT_ ?_ ?_
       rotate_left
       ·simp only [pA, pS, pZ, pK, i64_w, i32_w]
        rfl
       refine pn (i := 27) (N := some 59) (v := undef) (a' := ?_) (bs 268435455 39) rfl rfl HT_ ?_ ?_
       rotate_left
       ·simp only [pA, pS, pZ, pK, i64_w, i32_w]
        rfl
       refine pn (i := 28) (N := some 60) (v := undef) (a' := ?_) (bs 536870911 39) rfl rfl HT_ ?_ ?_
       rotate_left
       ·simp only [pA, pS, pZ, pK, i64_w, i32_w]
        rfl
       refine pn (i := 29) (N := some 61) (v := undef) (a' := ?_) (bs 1073741823 39) rfl rfl HT_ ?_ ?_
       rotate_left
       ·simp only [pA, pS, pZ, pK, i64_w, i32_w]
        rfl
       refine pn (i := 30) (N := some 62) (v := undef) (a' := ?_) (bs 2147483647 39) rfl rfl HT_ ?_ ?_
       rotate_left
       ·simp only [pA, pS, pZ, pK, i64_w, i32_w]
        rfl
       refine pn (i := 31) (N := some 63) (v := undef) (a' := ?_) (bs 4294967295 39) rfl rfl HT_ ?_ ?_
       rotate_left
       ·simp only [pA, pS, pZ, pK, i64_w, i32_w]
        rfl
       refine pn (i := 32) (N := some 64) (v := undef) (a' := ?_) (bs 8589934591 39) rfl rfl HT_ ?_ ?_
       rotate_left
       ·simp only [pA, pS, pZ, pK, i64_w, i32_w]
        rfl
       refine pn (i := 33) (N := some 65) (v := undef) (a' := ?_) (bs 17179869183 39) rfl rfl HT_ ?_ ?_
       rotate_left
       ·simp only [pA, pS, pZ, pK, i64_w, i32_w]
        rfl
       refine pn (i := 34) (N := some 66) (v := undef) (a' := ?_) (bs 34359738367 39) rfl rfl HT_ ?_ ?_
       rotate_left
       ·simp only [pA, pS, pZ, pK, i64_w, i32_w]
        rfl
       refine pn (i := 35) (N := some 67) (v := undef) (a' := ?_) (bs 68719476735 39) rfl rfl HT_ ?_ ?_
       rotate_left
       ·simp only [pA, pS, pZ, pK, i64_w, i32_w]
        rfl
       refine pn (i := 36) (N := some 68) (v := undef) (a' := ?_) (bs 137438953471 39) rfl rfl HT_ ?_ ?_
       rotate_left
       ·simp only [pA, pS, pZ, pK, i64_w, i32_w]
        rfl
       refine pn (i := 37) (N := some 69) (v := undef) (a' := ?_) (bs 274877906943 39) rfl rfl HT_ ?_ ?_
       rotate_left
       ·simp only [pA, pS, pZ, pK, i64_w, i32_w]
        rfl
       refine pu (i := 38) (N := some 70) (v := ?_) (a' := ?_) (bs 549755813887 39) rfl rfl HT_ ?_ ?_ ?_
       rotate_left
       ·intro w'
        go_simp
        with_reducible rfl
       rotate_left
       ·simp only [pA, pS, pZ, pK, i64_w, i32_w]
        rfl
       refine done_ (done_of HT_.out (by kernel_rfl)) ?_
       try go_wp2
       go_meet
       case rel => exact ⟨_, (false), (by first | rfl | (simp; done) | (simp [*]; done)), H', ⟨by have := HK1.out; have := HJ2.out; first | omega | exact Nat.le_refl _⟩, ⟨BT HB.out⟩⟩
      rw [if_pos c20] at H
      have c20b0 : decide (0 < x3_1) = true := decide_eq_true c20
      clear c20
      (first | rw [c20b0] | (simp only [i64_w, i32_w]; rw [c20b0]) | skip)
      obtain ⟨ji21, hji21⟩ : ∃ j_ : Int, (wrap64 (x3_1 - 1)) = j_ := ⟨_, rfl⟩
      replace H : (if 0 ≤ (ji21) then (if (ji21) < (l0.length : Int) then (if 0 ≤ x3_1 then (if x3_1 < (l0.length : Int) then (if ((rd_T53 l0 (ji21)).f1) > ((rd_T53 l0 x3_1).f1) then (spec_IsHistory.j2 kj2 l0 x3_1 true) else (if ((rd_T53 l0 (ji21)).f1) = ((rd_T53 l0 x3_1).f1) then (spec_IsHistory.j2 kj2 l0 x3_1 (decide ((((rd_T53 l0 x3_1).f3).length : Int) > 0))) else (spec_IsHistory.j2 kj2 l0 x3_1 false))) else (none)) else (none)) else (none)) else (none)) = some r := by first | (rw [hji21] at H; exact H) | (simp only [hji21] at H ⊢; exact H)
      have hji21w : (IntKind.i64.wrap (x3_1 - 1)) = ji21 := (i64_w _).trans hji21
      by_cases c22 : 0 ≤ (ji21)
      rotate_left
      ·rw [if_neg c22] at H
       exact absurd H (by simp)
      rw [if_pos c22] at H
      have c22b0 : decide (0 ≤ (ji21)) = true := decide_eq_true c22
      clear c22
      by_cases c23 : (ji21) < (l0.length : Int)
      rotate_left
      ·rw [if_neg c23] at H
       exact absurd H (by simp)
      rw [if_pos c23] at H
      have c23b0 : decide ((ji21) < (l0.length : Int)) = true := decide_eq_true c23
      clear c23
      by_cases c24 : 0 ≤ x3_1
      rotate_left
      ·rw [if_neg c24] at H
       exact absurd H (by simp)
      rw [if_pos c24] at H
      have c24b0 : decide (0 ≤ x3_1) = true := decide_eq_true c24
      clear c24
      by_cases c25 : x3_1 < (l0.length : Int)
      rotate_left
      ·rw [if_neg c25] at H
       exact absurd H (by simp)
      rw [if_pos c25] at H
      have c25b0 : decide (x3_1 < (l0.length : Int)) = true := decide_eq_true c25
      clear c25
      by_cases c26 : ((rd_T53 l0 (ji21)).f1) > ((rd_T53 l0 x3_1).f1)
      ·rw [if_pos c26] at H
       have c26b0 : decide (((rd_T53 l0 x3_1).f1) < ((rd_T53 l0 (ji21)).f1)) = true := decide_eq_true c26
       clear c26
       have H' := AM_ H
       clear H
       try go_wp2
       replace HB := AM_ (below_drew1 HB.out)
       have p157 : 0 ≤ ((ji21) : Int) := DT
       have q157 : (ji21) < (l0.length : Int) := DT
       obtain ⟨ad157, A157_2, c157_2, A157_3, c157_3, e157, hx157_0, hx157_1, hx157_2, hx157_3, hl157_2, hi157_2, hl157_3, hi157_3⟩ := at_T53 HR0.out (ji21) p157 q157
       have hw157_3 := hx157_3
       have hw157_2 := hx157_2
       have hw157_1 := hx157_1
       have hw157_0 := hx157_0
       cases e157
       replace hx157_0 := BC HB.out hx157_0
       replace hx157_1 := BC HB.out hx157_1
       replace hx157_2 := BC HB.out hx157_2
       replace hx157_3 := BC HB.out hx157_3
       have HR157_2 := AM_ hi157_2
       have HC157_2 := AM_ hl157_2
       clear hi157_2 hl157_2
       have HR157_3 := AM_ hi157_3
       have HC157_3 := AM_ hl157_3
       clear hi157_3 hl157_3
       replace p157 := eq_true p157
       replace q157 := eq_true q157
       have p158 : 0 ≤ (x3_1 : Int) := DT
       have q158 : x3_1 < (l0.length : Int) := DT
       obtain ⟨ad158, A158_2, c158_2, A158_3, c158_3, e158, hx158_0, hx158_1, hx158_2, hx158_3, hl158_2, hi158_2, hl158_3, hi158_3⟩ := at_T53 HR0.out x3_1 p158 q158
       have hw158_3 := hx158_3
       have hw158_2 := hx158_2
       have hw158_1 := hx158_1
       have hw158_0 := hx158_0
       obtain rfl : ad157 = ad158 := (by injection e158)
       replace hx158_0 := BC HB.out hx158_0
       replace hx158_1 := BC HB.out hx158_1
       replace hx158_2 := BC HB.out hx158_2
       replace hx158_3 := BC HB.out hx158_3
       have HR158_2 := AM_ hi158_2
       have HC158_2 := AM_ hl158_2
       clear hi158_2 hl158_2
       have HR158_3 := AM_ hi158_3
       have HC158_3 := AM_ hl158_3
       clear hi158_3 hl158_3
       replace p158 := eq_true p158
       replace q158 := eq_true q158
       refine start_ (n := 39) (S := fun w' => w'.cell? (ad157.add (((ji21)).toNat * 4)) = some (.int .i64 ((rd_T53 l0 (ji21)).f0)) ∧ w'.cell? ⟨(ad157.add (((ji21)).toNat * 4)).block, (ad157.add (((ji21)).toNat * 4)).off + 1, none⟩ = some (.int .i64 ((rd_T53 l0 (ji21)).f1)) ∧ w'.cell? ⟨(ad157.add (((ji21)).toNat * 4)).block, (ad157.add (((ji21)).toNat * 4)).off + 2, none⟩ = some (.slice A157_2 ((rd_T53 l0 (ji21)).f2).length c157_2) ∧ w'.cell? ⟨(ad157.add (((ji21)).toNat * 4)).block, (ad157.add (((ji21)).toNat * 4)).off + 3, none⟩ = some (.slice A157_3 ((rd_T53 l0 (ji21)).f3).length c157_3) ∧ w'.cell? (ad157.add ((x3_1).toNat * 4)) = some (.int .i64 ((rd_T53 l0 x3_1).f0)) ∧ w'.cell? ⟨(ad157.add ((x3_1).toNat * 4)).block, (ad157.add ((x3_1).toNat * 4)).off + 1, none⟩ = some (.int .i64 ((rd_T53 l0 x3_1).f1)) ∧ w'.cell? ⟨(ad157.add ((x3_1).toNat * 4)).block, (ad157.add ((x3_1).toNat * 4)).off + 2, none⟩ = some (.slice A158_2 ((rd_T53 l0 x3_1).f2).length c158_2) ∧ w'.cell? ⟨(ad157.add ((x3_1).toNat * 4)).block, (ad157.add ((x3_1).toNat * 4)).off + 3, none⟩ = some (.slice A158_3 ((rd_T53 l0 x3_1).f3).length c158_3)) (ds := []) (bs 0 39) (by kernel_rfl) rfl rfl ⟨(BD HB.out hw157_0), (BD HB.out hw157_1), (BD HB.out hw157_2), (BD HB.out hw157_3), (BD HB.out hw158_0), (BD HB.out hw158_1), (BD HB.out hw158_2), (BD HB.out hw158_3)⟩ (fun hHeld => ?_); refine with_tabW spec_IsHistory.tab6 spec_IsHistory.bits6 (fun HT_ HW_ => ?_)
       generalize wc.drew = w27 at HB HR157_2 HR157_3 HR158_2 HR158_3 hx157_0 hx157_1 hx157_2 hx157_3 hx158_0 hx158_1 hx158_2 hx158_3 hHeld ⊢
       refine pu (i := 0) (N := some 32) (v := ?_) (a' := ?_) (bs 1 39) rfl rfl HT_ ?_ ?_ ?_
       rotate_left
       ·intro w'
        go_simp
        with_reducible rfl
       rotate_left
       ·simp only [pA, pS, pZ, pK, i64_w, i32_w]
        rfl
       refine pu (i := 1) (N := some 33) (v := ?_) (a' := ?_) (bs 3 39) rfl rfl HT_ ?_ ?_ ?_
       rotate_left
       ·intro w'
        go_simp
        with_reducible rfl
       rotate_left
       ·simp only [pA, pS, pZ, pK, i64_w, i32_w]
        rfl
       refine pu (i := 2) (N := some 34) (v := ?_) (a' := ?_) (bs 7 39) rfl rfl HT_ ?_ ?_ ?_
       rotate_left
       ·intro w'
        go_simp
        with_reducible rfl
       rotate_left
       ·simp only [pA, pS, pZ, pK, i64_w, i32_w]
        rfl
       refine pu (i := 3) (N := some 35) (v := ?_) (a' := ?_) (bs 15 39) rfl rfl HT_ ?_ ?_ ?_
       rotate_left
       ·intro w'
        go_simp
        with_reducible rfl
       rotate_left
       ·simp only [pA, pS, pZ, pK, i64_w, i32_w]
        rfl
       refine pu (i := 4) (N := some 36) (v := ?_) (a' := ?_) (bs 31 39) rfl rfl HT_ ?_ ?_ ?_
       rotate_left
       ·intro w'
        go_simp
        with_reducible rfl
       rotate_left
       ·simp only [pA, pS, pZ, pK, i64_w, i32_w]
        rfl
       refine pu (i := 5) (N := some 37) (v := ?_) (a' := ?_) (bs 63 39) rfl rfl HT_ ?_ ?_ ?_
       rotate_left
       ·intro w'
        go_simp
        with_reducible rfl
       rotate_left
       ·simp only [pA, pS, pZ, pK, i64_w, i32_w]
        rfl
       refine pu (i := 6) (N := some 38) (v := ?_) (a' := ?_) (bs 127 39) rfl rfl HT_ ?_ ?_ ?_
       rotate_left
       ·intro w'
        go_simp
        with_reducible rfl
       rotate_left
       ·simp only [pA, pS, pZ, pK, i64_w, i32_w]
        rfl
       refine pu (i := 7) (N := some 39) (v := ?_) (a' := ?_) (bs 255 39) rfl rfl HT_ ?_ ?_ ?_
       rotate_left
       ·intro w'
        go_simp
        with_reducible rfl
       rotate_left
       ·simp only [pA, pS, pZ, pK, i64_w, i32_w]
        rfl
       refine pu (i := 9) (N := some 41) (v := ?_) (a' := ?_) (bs 767 39) rfl rfl HT_ ?_ ?_ ?_
       rotate_left
       ·intro w'
        go_simp
        with_reducible rfl
       rotate_left
       ·simp only [pA, pS, pZ, pK, i64_w, i32_w]
        rfl
       refine pu (i := 10) (N := some 42) (v := ?_) (a' := ?_) (bs 1791 39) rfl rfl HT_ ?_ ?_ ?_
       rotate_left
       ·intro w'
        go_simp
        with_reducible rfl
       rotate_left
       ·simp only [pA, pS, pZ, pK, i64_w, i32_w]
        rfl
       refine pu (i := 11) (N := some 43) (v := ?_) (a' := ?_) (bs 3839 39) rfl rfl HT_ ?_ ?_ ?_
       rotate_left
       ·intro w'
        go_simp
        with_reducible rfl
       rotate_left
       ·simp only [pA, pS, pZ, pK, i64_w, i32_w]
        rfl
       refine pu (i := 12) (N := some 44) (v := ?_) (a' := ?_) (bs 7935 39) rfl rfl HT_ ?_ ?_ ?_
       rotate_left
       ·intro w'
        go_simp
        with_reducible rfl
       rotate_left
       ·simp only [pA, pS, pZ, pK, i64_w, i32_w]
        rfl
       refine tk (i := 8) (N := some 40) (v := ?_) (a' := ?_) (bs 8191 39) rfl rfl HT_ HW_ ?_ hHeld ?_ ?_
       rotate_left
       ·rintro w' ⟨s0, s1, s2, s3, s4, s5, s6, s7⟩
        go_simp
        with_reducible rfl
       rotate_left
       ·simp only [pA, pS, pZ, pK, i64_w, i32_w]
        rfl
       refine tk (i := 13) (N := some 45) (v := ?_) (a' := ?_) (bs 16383 39) rfl rfl HT_ HW_ ?_ hHeld ?_ ?_
       rotate_left
       ·rintro w' ⟨s0, s1, s2, s3, s4, s5, s6, s7⟩
        go_simp
        with_reducible rfl
       rotate_left
       ·simp only [pA, pS, pZ, pK, i64_w, i32_w]
        rfl
       refine pu (i := 14) (N := some 46) (v := ?_) (a' := ?_) (bs 32767 39) rfl rfl HT_ ?_ ?_ ?_
       rotate_left
       ·intro w'
        go_simp
        with_reducible rfl
       rotate_left
       ·simp only [pA, pS, pZ, pK, i64_w, i32_w]
        rfl
       refine pu (i := 15) (N := some 47) (v := ?_) (a' := ?_) (bs 65535 39) rfl rfl HT_ ?_ ?_ ?_
       rotate_left
       ·intro w'
        go_simp
        with_reducible rfl
       rotate_left
       ·simp only [pA, pS, pZ, pK, i64_w, i32_w]
        rfl
       refine pn (i := 16) (N := some 48) (v := undef) (a' := ?_) (bs 131071 39) rfl rfl HT_ ?_ ?_
       rotate_left
       ·simp only [pA, pS, pZ, pK, i64_w, i32_w]
        rfl
       refine pn (i := 17) (N := some 49) (v := undef) (a' := ?_) (bs 262143 39) rfl rfl HT_ ?_ ?_
       rotate_left
       ·simp only [pA, pS, pZ, pK, i64_w, i32_w]
        rfl
       refine pn (i := 18) (N := some 50) (v := undef) (a' := ?_) (bs 524287 39) rfl rfl HT_ ?_ ?_
       rotate_left
       ·simp only [pA, pS, pZ, pK, i64_w, i32_w]
        rfl
       refine pn (i := 19) (N := some 51) (v := undef) (a' := ?_) (bs 1048575 39) rfl rfl HT_ ?_ ?_
       rotate_left
       ·simp only [pA, pS, pZ, pK, i64_w, i32_w]
        rfl
       refine pn (i := 20) (N := some 52) (v := undef) (a' := ?_) (bs 2097151 39) rfl rfl HT_ ?_ ?_
       rotate_left
       ·simp only [pA, pS, pZ, pK, i64_w, i32_w]
        rfl
       refine pn (i := 21) (N := some 53) (v := undef) (a' := ?_) (bs 4194303 39) rfl rfl HT_ ?_ ?_
       rotate_left
       ·simp only [pA, pS, pZ, pK, i64_w, i32_w]
        rfl
       refine pn (i := 22) (N := some 54) (v := undef) (a' := ?_) (bs 8388607 39) rfl rfl HT_ ?_ ?_
       rotate_left
       ·simp only [pA, pS, pZ, pK, i64_w, i32_w]
        rfl
       refine pn (i := 23) (N := some 55) (v := undef) (a' := ?_) (bs 16777215 39) rfl rfl HT_ ?_ ?_
       rotate_left
       ·simp only [pA, pS, pZ, pK, i64_w, i32_w]
        rfl
       refine pn (i := 24) (N := some 56) (v := undef) (a' := ?_) (bs 33554431 39) rfl rfl HT_ ?_ ?_
       rotate_left
       ·simp only [pA, pS, pZ, pK, i64_w, i32_w]
        rfl
       refine pn (i := 25) (N := some 57) (v := undef) (a' := ?_) (bs 67108863 39) rfl rfl HT_ ?_ ?_
       rotate_left
       ·simp only [pA, pS, pZ, pK, i64_w, i32_w]
        rfl
       refine pn (i := 26) (N := some 58) (v := undef) (a' := ?_) (bs 134217727 39) rfl rfl HT_ ?_ ?_
       rotate_left
       ·simp only [pA, pS, pZ, pK, i64_w, i32_w]
        rfl
       refine pn (i := 27) (N := some 59) (v := undef) (a' := ?_) (bs 268435455 39) rfl rfl HT_ ?_ ?_
       rotate_left
       ·simp only [pA, pS, pZ, pK, i64_w, i32_w]
        rfl
       refine pn (i := 28) (N := some 60) (v := undef) (a' := ?_) (bs 536870911 39) rfl rfl HT_ ?_ ?_
       rotate_left
       ·simp only [pA, pS, pZ, pK, i64_w, i32_w]
        rfl
       refine pn (i := 29) (N := some 61) (v := undef) (a' := ?_) (bs 1073741823 39) rfl rfl HT_ ?_ ?_
       rotate_left
       ·simp only [pA, pS, pZ, pK, i64_w, i32_w]
        rfl
       refine pn (i := 30) (N := some 62) (v := undef) (a' := ?_) (bs 2147483647 39) rfl rfl HT_ ?_ ?_
       rotate_left
       ·simp only [pA, pS, pZ, pK, i64_w, i32_w]
        rfl
       refine pn (i := 31) (N := some 63) (v := undef) (a' := ?_) (bs 4294967295 39) rfl rfl HT_ ?_ ?_
       rotate_left
       ·simp only [pA, pS, pZ, pK, i64_w, i32_w]
        rfl
       refine pn (i := 32) (N := some 64) (v := undef) (a' := ?_) (bs 8589934591 39) rfl rfl HT_ ?_ ?_
       rotate_left
       ·simp only [pA, pS, pZ, pK, i64_w, i32_w]
        rfl
       refine pn (i := 33) (N := some 65) (v := undef) (a' := ?_) (bs 17179869183 39) rfl rfl HT_ ?_ ?_
       rotate_left
       ·simp only [pA, pS, pZ, pK, i64_w, i32_w]
        rfl
       refine pn (i := 34) (N := some 66) (v := undef) (a' := ?_) (bs 34359738367 39) rfl rfl HT_ ?_ ?_
       rotate_left
       ·simp only [pA, pS, pZ, pK, i64_w, i32_w]
        rfl
       refine pn (i := 35) (N := some 67) (v := undef) (a' := ?_) (bs 68719476735 39) rfl rfl HT_ ?_ ?_
       rotate_left
       ·simp only [pA, pS, pZ, pK, i64_w, i32_w]
        rfl
       refine pn (i := 36) (N := some 68) (v := undef) (a' := ?_) (bs 137438953471 39) rfl rfl HT_ ?_ ?_
       rotate_left
       ·simp only [pA, pS, pZ, pK, i64_w, i32_w]
        rfl
       refine pu (i := 37) (N := some 69) (v := ?_) (a' := ?_) (bs 274877906943 39) rfl rfl HT_ ?_ ?_ ?_
       rotate_left
       ·intro w'
        go_simp
        with_reducible rfl
       rotate_left
       ·simp only [pA, pS, pZ, pK, i64_w, i32_w]
        rfl
       refine pu (i := 38) (N := some 70) (v := ?_) (a' := ?_) (bs 549755813887 39) rfl rfl HT_ ?_ ?_ ?_
       rotate_left
       ·intro w'
        go_simp
        with_reducible rfl
       rotate_left
       ·simp only [pA, pS, pZ, pK, i64_w, i32_w]
        rfl
       refine done_ (done_of HT_.out (by kernel_rfl)) ?_
       try go_wp2
       go_meet
       case rel => exact ⟨_, (true), (by first | rfl | (simp; done) | (simp [*]; done)), H', ⟨by have := HK1.out; have := HJ2.out; first | omega | exact Nat.le_refl _⟩, ⟨BT HB.out⟩⟩
      rw [if_neg c26] at H
      have c26b0 : decide (((rd_T53 l0 x3_1).f1) < ((rd_T53 l0 (ji21)).f1)) = false := decide_eq_false c26
      clear c26
      by_cases c28 : ((rd_T53 l0 (ji21)).f1) = ((rd_T53 l0 x3_1).f1)
      rotate_left
      ·rw [if_neg c28] at H
       have c28b0 : (((rd_T53 l0 (ji21)).f1) == ((rd_T53 l0 x3_1).f1)) = false := beq_eq_false_iff_ne.mpr c28
       have c28b1 : (((rd_T53 l0 (ji21)).f1) != ((rd_T53 l0 x3_1).f1)) = true := bne_iff_ne.mpr c28
       have H' := AM_ H
       clear H
       try go_wp2
       replace HB := AM_ (below_drew1 HB.out)
       have p157 : 0 ≤ ((ji21) : Int) := DT
       have q157 : (ji21) < (l0.length : Int) := DT
       obtain ⟨ad157, A157_2, c157_2, A157_3, c157_3, e157, hx157_0, hx157_1, hx157_2, hx157_3, hl157_2, hi157_2, hl157_3, hi157_3⟩ := at_T53 HR0.out (ji21) p157 q157
       have hw157_3 := hx157_3
       have hw157_2 := hx157_2
       have hw157_1 := hx157_1
       have hw157_0 := hx157_0
       cases e157
       replace hx157_0 := BC HB.out hx157_0
       replace hx157_1 := BC HB.out hx157_1
       replace hx157_2 := BC HB.out hx157_2
       replace hx157_3 := BC HB.out hx157_3
       have HR157_2 := AM_ hi157_2
       have HC157_2 := AM_ hl157_2
       clear hi157_2 hl157_2
       have HR157_3 := AM_ hi157_3
       have HC157_3 := AM_ hl157_3
       clear hi157_3 hl157_3
       replace p157 := eq_true p157
       replace q157 := eq_true q157
       have p158 : 0 ≤ (x3_1 : Int) := DT
       have q158 : x3_1 < (l0.length : Int) := DT
       obtain ⟨ad158, A158_2, c158_2, A158_3, c158_3, e158, hx158_0, hx158_1, hx158_2, hx158_3, hl158_2, hi158_2, hl158_3, hi158_3⟩ := at_T53 HR0.out x3_1 p158 q158
       have hw158_3 := hx158_3
       have hw158_2 := hx158_2
       have hw158_1 := hx158_1
       have hw158_0 := hx158_0
       obtain rfl : ad157 = ad158 := (by injection e158)
       replace hx158_0 := BC HB.out hx158_0
       replace hx158_1 := BC HB.out hx158_1
       replace hx158_2 := BC HB.out hx158_2
       replace hx158_3 := BC HB.out hx158_3
       have HR158_2 := AM_ hi158_2
       have HC158_2 := AM_ hl158_2
       clear hi158_2 hl158_2
       have HR158_3 := AM_ hi158_3
       have HC158_3 := AM_ hl158_3
       clear hi158_3 hl158_3
       replace p158 := eq_true p158
       replace q158 := eq_true q158
       have p159 : 0 ≤ ((ji21) : Int) := DT
       have q159 : (ji21) < (l0.length : Int) := DT
       obtain ⟨ad159, A159_2, c159_2, A159_3, c159_3, e159, hx159_0, hx159_1, hx159_2, hx159_3, hl159_2, hi159_2, hl159_3, hi159_3⟩ := at_T53 HR0.out (ji21) p159 q159
       have hw159_3 := hx159_3
       have hw159_2 := hx159_2
       have hw159_1 := hx159_1
       have hw159_0 := hx159_0
       obtain rfl : ad157 = ad159 := (by injection e159)
       replace hx159_0 := BC HB.out hx159_0
       replace hx159_1 := BC HB.out hx159_1
       replace hx159_2 := BC HB.out hx159_2
       replace hx159_3 := BC HB.out hx159_3
       have HR159_2 := AM_ hi159_2
       have HC159_2 := AM_ hl159_2
       clear hi159_2 hl159_2
       have HR159_3 := AM_ hi159_3
       have HC159_3 := AM_ hl159_3
       clear hi159_3 hl159_3
       replace p159 := eq_true p159
       replace q159 := eq_true q159
       have ea_ := Option.some.inj (hx157_2.symm.trans hx159_2)
       injection ea_ with ea_ en_ ec_
       subst ea_
       subst ec_
       clear en_
       have ea_ := Option.some.inj (hx157_3.symm.trans hx159_3)
       injection ea_ with ea_ en_ ec_
       subst ea_
       subst ec_
       clear en_
       have p160 : 0 ≤ (x3_1 : Int) := DT
       have q160 : x3_1 < (l0.length : Int) := DT
       obtain ⟨ad160, A160_2, c160_2, A160_3, c160_3, e160, hx160_0, hx160_1, hx160_2, hx160_3, hl160_2, hi160_2, hl160_3, hi160_3⟩ := at_T53 HR0.out x3_1 p160 q160
       have hw160_3 := hx160_3
       have hw160_2 := hx160_2
       have hw160_1 := hx160_1
       have hw160_0 := hx160_0
       obtain rfl : ad157 = ad160 := (by injection e160)
       replace hx160_0 := BC HB.out hx160_0
       replace hx160_1 := BC HB.out hx160_1
       replace hx160_2 := BC HB.out hx160_2
       replace hx160_3 := BC HB.out hx160_3
       have HR160_2 := AM_ hi160_2
       have HC160_2 := AM_ hl160_2
       clear hi160_2 hl160_2
       have HR160_3 := AM_ hi160_3
       have HC160_3 := AM_ hl160_3
       clear hi160_3 hl160_3
       replace p160 := eq_true p160
       replace q160 := eq_true q160
       have ea_ := Option.some.inj (hx158_2.symm.trans hx160_2)
       injection ea_ with ea_ en_ ec_
       subst ea_
       subst ec_
       clear en_
       have ea_ := Option.some.inj (hx158_3.symm.trans hx160_3)
       injection ea_ with ea_ en_ ec_
       subst ea_
       subst ec_
       clear en_
       refine start_ (n := 39) (S := fun w' => w'.cell? (ad157.add (((ji21)).toNat * 4)) = some (.int .i64 ((rd_T53 l0 (ji21)).f0)) ∧ w'.cell? ⟨(ad157.add (((ji21)).toNat * 4)).block, (ad157.add (((ji21)).toNat * 4)).off + 1, none⟩ = some (.int .i64 ((rd_T53 l0 (ji21)).f1)) ∧ w'.cell? ⟨(ad157.add (((ji21)).toNat * 4)).block, (ad157.add (((ji21)).toNat * 4)).off + 2, none⟩ = some (.slice A157_2 ((rd_T53 l0 (ji21)).f2).length c157_2) ∧ w'.cell? ⟨(ad157.add (((ji21)).toNat * 4)).block, (ad157.add (((ji21)).toNat * 4)).off + 3, none⟩ = some (.slice A157_3 ((rd_T53 l0 (ji21)).f3).length c157_3) ∧ w'.cell? (ad157.add ((x3_1).toNat * 4)) = some (.int .i64 ((rd_T53 l0 x3_1).f0)) ∧ w'.cell? ⟨(ad157.add ((x3_1).toNat * 4)).block, (ad157.add ((x3_1).toNat * 4)).off + 1, none⟩ = some (.int .i64 ((rd_T53 l0 x3_1).f1)) ∧ w'.cell? ⟨(ad157.add ((x3_1).toNat * 4)).block, (ad157.add ((x3_1).toNat * 4)).off + 2, none⟩ = some (.slice A158_2 ((rd_T53 l0 x3_1).f2).length c158_2) ∧ w'.cell? ⟨(ad157.add ((x3_1).toNat * 4)).block, (ad157.add ((x3_1).toNat * 4)).off + 3, none⟩ = some (.slice A158_3 ((rd_T53 l0 x3_1).f3).length c158_3) ∧ w'.cell? (ad157.add (((ji21)).toNat * 4)) = some (.int .i64 ((rd_T53 l0 (ji21)).f0)) ∧ w'.cell? ⟨(ad157.add (((ji21)).toNat * 4)).block, (ad157.add (((ji21)).toNat * 4)).off + 1, none⟩ = some (.int .i64 ((rd_T53 l0 (ji21)).f1)) ∧ w'.cell? ⟨(ad157.add (((ji21)).toNat * 4)).block, (ad157.add (((ji21)).toNat * 4)).off + 2, none⟩ = some (.slice A157_2 ((rd_T53 l0 (ji21)).f2).length c157_2) ∧ w'.cell? ⟨(ad157.add (((ji21)).toNat * 4)).block, (ad157.add (((ji21)).toNat * 4)).off + 3, none⟩ = some (.slice A157_3 ((rd_T53 l0 (ji21)).f3).length c157_3) ∧ w'.cell? (ad157.add ((x3_1).toNat * 4)) = some (.int .i64 ((rd_T53 l0 x3_1).f0)) ∧ w'.cell? ⟨(ad157.add ((x3_1).toNat * 4)).block, (ad157.add ((x3_1).toNat * 4)).off + 1, none⟩ = some (.int .i64 ((rd_T53 l0 x3_1).f1)) ∧ w'.cell? ⟨(ad157.add ((x3_1).toNat * 4)).block, (ad157.add ((x3_1).toNat * 4)).off + 2, none⟩ = some (.slice A158_2 ((rd_T53 l0 x3_1).f2).length c158_2) ∧ w'.cell? ⟨(ad157.add ((x3_1).toNat * 4)).block, (ad157.add ((x3_1).toNat * 4)).off + 3, none⟩ = some (.slice A158_3 ((rd_T53 l0 x3_1).f3).length c158_3)) (ds := []) (bs 0 39) (by kernel_rfl) rfl rfl ⟨(BD HB.out hw157_0), (BD HB.out hw157_1), (BD HB.out hw157_2), (BD HB.out hw157_3), (BD HB.out hw158_0), (BD HB.out hw158_1), (BD HB.out hw158_2), (BD HB.out hw158_3), (BD HB.out hw159_0), (BD HB.out hw159_1), (BD HB.out hw159_2), (BD HB.out hw159_3), (BD HB.out hw160_0), (BD HB.out hw160_1), (BD HB.out hw160_2), (BD HB.out hw160_3)⟩ (fun hHeld => ?_); refine with_tabW spec_IsHistory.tab6 spec_IsHistory.bits6 (fun HT_ HW_ => ?_)
       generalize wc.drew = w30 at HB HR157_2 HR157_3 HR158_2 HR158_3 HR159_2 HR159_3 HR160_2 HR160_3 hx157_0 hx157_1 hx157_2 hx157_3 hx158_0 hx158_1 hx158_2 hx158_3 hx159_0 hx159_1 hx159_2 hx159_3 hx160_0 hx160_1 hx160_2 hx160_3 hHeld ⊢
       refine pu (i := 0) (N := some 32) (v := ?_) (a' := ?_) (bs 1 39) rfl rfl HT_ ?_ ?_ ?_
       rotate_left
       ·intro w'
        go_simp
        with_reducible rfl
       rotate_left
       ·simp only [pA, pS, pZ, pK, i64_w, i32_w]
        rfl
       refine pu (i := 1) (N := some 33) (v := ?_) (a' := ?_) (bs 3 39) rfl rfl HT_ ?_ ?_ ?_
       rotate_left
       ·intro w'
        go_simp
        with_reducible rfl
       rotate_left
       ·simp only [pA, pS, pZ, pK, i64_w, i32_w]
        rfl
       refine pu (i := 2) (N := some 34) (v := ?_) (a' := ?_) (bs 7 39) rfl rfl HT_ ?_ ?_ ?_
       rotate_left
       ·intro w'
        go_simp
        with_reducible rfl
       rotate_left
       ·simp only [pA, pS, pZ, pK, i64_w, i32_w]
        rfl
       refine pu (i := 3) (N := some 35) (v := ?_) (a' := ?_) (bs 15 39) rfl rfl HT_ ?_ ?_ ?_
       rotate_left
       ·intro w'
        go_simp
        with_reducible rfl
       rotate_left
       ·simp only [pA, pS, pZ, pK, i64_w, i32_w]
        rfl
       refine pu (i := 4) (N := some 36) (v := ?_) (a' := ?_) (bs 31 39) rfl rfl HT_ ?_ ?_ ?_
       rotate_left
       ·intro w'
        go_simp
        with_reducible rfl
       rotate_left
       ·simp only [pA, pS, pZ, pK, i64_w, i32_w]
        rfl
       refine pu (i := 5) (N := some 37) (v := ?_) (a' := ?_) (bs 63 39) rfl rfl HT_ ?_ ?_ ?_
       rotate_left
       ·intro w'
        go_simp
        with_reducible rfl
       rotate_left
       ·simp only [pA, pS, pZ, pK, i64_w, i32_w]
        rfl
       refine pu (i := 6) (N := some 38) (v := ?_) (a' := ?_) (bs 127 39) rfl rfl HT_ ?_ ?_ ?_
       rotate_left
       ·intro w'
        go_simp
        with_reducible rfl
       rotate_left
       ·simp only [pA, pS, pZ, pK, i64_w, i32_w]
        rfl
       refine pu (i := 7) (N := some 39) (v := ?_) (a' := ?_) (bs 255 39) rfl rfl HT_ ?_ ?_ ?_
       rotate_left
       ·intro w'
        go_simp
        with_reducible rfl
       rotate_left
       ·simp only [pA, pS, pZ, pK, i64_w, i32_w]
        rfl
       refine pu (i := 9) (N := some 41) (v := ?_) (a' := ?_) (bs 767 39) rfl rfl HT_ ?_ ?_ ?_
       rotate_left
       ·intro w'
        go_simp
        with_reducible rfl
       rotate_left
       ·simp only [pA, pS, pZ, pK, i64_w, i32_w]
        rfl
       refine pu (i := 10) (N := some 42) (v := ?_) (a' := ?_) (bs 1791 39) rfl rfl HT_ ?_ ?_ ?_
       rotate_left
       ·intro w'
        go_simp
        with_reducible rfl
       rotate_left
       ·simp only [pA, pS, pZ, pK, i64_w, i32_w]
        rfl
       refine pu (i := 11) (N := some 43) (v := ?_) (a' := ?_) (bs 3839 39) rfl rfl HT_ ?_ ?_ ?_
       rotate_left
       ·intro w'
        go_simp
        with_reducible rfl
       rotate_left
       ·simp only [pA, pS, pZ, pK, i64_w, i32_w]
        rfl
       refine pu (i := 12) (N := some 44) (v := ?_) (a' := ?_) (bs 7935 39) rfl rfl HT_ ?_ ?_ ?_
       rotate_left
       ·intro w'
        go_simp
        with_reducible rfl
       rotate_left
       ·simp only [pA, pS, pZ, pK, i64_w, i32_w]
        rfl
       refine tk (i := 8) (N := some 40) (v := ?_) (a' := ?_) (bs 8191 39) rfl rfl HT_ HW_ ?_ hHeld ?_ ?_
       rotate_left
       ·rintro w' ⟨s0, s1, s2, s3, s4, s5, s6, s7, s8, s9, s10, s11, s12, s13, s14, s15⟩
        go_simp
        with_reducible rfl
       rotate_left
       ·simp only [pA, pS, pZ, pK, i64_w, i32_w]
        rfl
       refine tk (i := 13) (N := some 45) (v := ?_) (a' := ?_) (bs 16383 39) rfl rfl HT_ HW_ ?_ hHeld ?_ ?_
       rotate_left
       ·rintro w' ⟨s0, s1, s2, s3, s4, s5, s6, s7, s8, s9, s10, s11, s12, s13, s14, s15⟩
        go_simp
        with_reducible rfl
       rotate_left
       ·simp only [pA, pS, pZ, pK, i64_w, i32_w]
        rfl
       refine pu (i := 14) (N := some 46) (v := ?_) (a' := ?_) (bs 32767 39) rfl rfl HT_ ?_ ?_ ?_
       rotate_left
       ·intro w'
        go_simp
        with_reducible rfl
       rotate_left
       ·simp only [pA, pS, pZ, pK, i64_w, i32_w]
        rfl
       refine pu (i := 15) (N := some 47) (v := ?_) (a' := ?_) (bs 65535 39) rfl rfl HT_ ?_ ?_ ?_
       rotate_left
       ·intro w'
        go_simp
        with_reducible rfl
       rotate_left
       ·simp only [pA, pS, pZ, pK, i64_w, i32_w]
        rfl
       refine pu (i := 16) (N := some 48) (v := ?_) (a' := ?_) (bs 131071 39) rfl rfl HT_ ?_ ?_ ?_
       rotate_left
       ·intro w'
        go_simp
        with_reducible rfl
       rotate_left
       ·simp only [pA, pS, pZ, pK, i64_w, i32_w]
        rfl
       refine pu (i := 17) (N := some 49) (v := ?_) (a' := ?_) (bs 262143 39) rfl rfl HT_ ?_ ?_ ?_
       rotate_left
       ·intro w'
        go_simp
        with_reducible rfl
       rotate_left
       ·simp only [pA, pS, pZ, pK, i64_w, i32_w]
        rfl
       refine pu (i := 18) (N := some 50) (v := ?_) (a' := ?_) (bs 524287 39) rfl rfl HT_ ?_ ?_ ?_
       rotate_left
       ·intro w'
        go_simp
        with_reducible rfl
       rotate_left
       ·simp only [pA, pS, pZ, pK, i64_w, i32_w]
        rfl
       refine pu (i := 19) (N := some 51) (v := ?_) (a' := ?_) (bs 1048575 39) rfl rfl HT_ ?_ ?_ ?_
       rotate_left
       ·intro w'
        go_simp
        with_reducible rfl
       rotate_left
       ·simp only [pA, pS, pZ, pK, i64_w, i32_w]
        rfl
       refine pu (i := 20) (N := some 52) (v := ?_) (a' := ?_) (bs 2097151 39) rfl rfl HT_ ?_ ?_ ?_
       rotate_left
       ·intro w'
        go_simp
        with_reducible rfl
       rotate_left
       ·simp only [pA, pS, pZ, pK, i64_w, i32_w]
        rfl
       refine pu (i := 22) (N := some 54) (v := ?_) (a' := ?_) (bs 6291455 39) rfl rfl HT_ ?_ ?_ ?_
       rotate_left
       ·intro w'
        go_simp
        with_reducible rfl
       rotate_left
       ·simp only [pA, pS, pZ, pK, i64_w, i32_w]
        rfl
       refine pu (i := 23) (N := some 55) (v := ?_) (a' := ?_) (bs 14680063 39) rfl rfl HT_ ?_ ?_ ?_
       rotate_left
       ·intro w'
        go_simp
        with_reducible rfl
       rotate_left
       ·simp only [pA, pS, pZ, pK, i64_w, i32_w]
        rfl
       refine pu (i := 24) (N := some 56) (v := ?_) (a' := ?_) (bs 31457279 39) rfl rfl HT_ ?_ ?_ ?_
       rotate_left
       ·intro w'
        go_simp
        with_reducible rfl
       rotate_left
       ·simp only [pA, pS, pZ, pK, i64_w, i32_w]
        rfl
       refine pu (i := 25) (N := some 57) (v := ?_) (a' := ?_) (bs 65011711 39) rfl rfl HT_ ?_ ?_ ?_
       rotate_left
       ·intro w'
        go_simp
        with_reducible rfl
       rotate_left
       ·simp only [pA, pS, pZ, pK, i64_w, i32_w]
        rfl
       refine tk (i := 21) (N := some 53) (v := ?_) (a' := ?_) (bs 67108863 39) rfl rfl HT_ HW_ ?_ hHeld ?_ ?_
       rotate_left
       ·rintro w' ⟨s0, s1, s2, s3, s4, s5, s6, s7, s8, s9, s10, s11, s12, s13, s14, s15⟩
        go_simp
        with_reducible rfl
       rotate_left
       ·simp only [pA, pS, pZ, pK, i64_w, i32_w]
        rfl
       refine tk (i := 26) (N := some 58) (v := ?_) (a' := ?_) (bs 134217727 39) rfl rfl HT_ HW_ ?_ hHeld ?_ ?_
       rotate_left
       ·rintro w' ⟨s0, s1, s2, s3, s4, s5, s6, s7, s8, s9, s10, s11, s12, s13, s14, s15⟩
        go_simp
        with_reducible rfl
       rotate_left
       ·simp only [pA, pS, pZ, pK, i64_w, i32_w]
        rfl
       refine pu (i := 27) (N := some 59) (v := ?_) (a' := ?_) (bs 268435455 39) rfl rfl HT_ ?_ ?_ ?_
       rotate_left
       ·intro w'
        go_simp
        with_reducible rfl
       rotate_left
       ·simp only [pA, pS, pZ, pK, i64_w, i32_w]
        rfl
       refine pu (i := 28) (N := some 60) (v := ?_) (a' := ?_) (bs 536870911 39) rfl rfl HT_ ?_ ?_ ?_
       rotate_left
       ·intro w'
        go_simp
        with_reducible rfl
       rotate_left
       ·simp only [pA, pS, pZ, pK, i64_w, i32_w]
        rfl
       refine pn (i := 29) (N := some 61) (v := undef) (a' := ?_) (bs 1073741823 39) rfl rfl HT_ ?_ ?_
       rotate_left
       ·simp only [pA, pS, pZ, pK, i64_w, i32_w]
        rfl
       refine pn (i := 30) (N := some 62) (v := undef) (a' := ?_) (bs 2147483647 39) rfl rfl HT_ ?_ ?_
       rotate_left
       ·simp only [pA, pS, pZ, pK, i64_w, i32_w]
        rfl
       refine pn (i := 31) (N := some 63) (v := undef) (a' := ?_) (bs 4294967295 39) rfl rfl HT_ ?_ ?_
       rotate_left
       ·simp only [pA, pS, pZ, pK, i64_w, i32_w]
        rfl
       refine pn (i := 32) (N := some 64) (v := undef) (a' := ?_) (bs 8589934591 39) rfl rfl HT_ ?_ ?_
       rotate_left
       ·simp only [pA, pS, pZ, pK, i64_w, i32_w]
        rfl
       refine pn (i := 33) (N := some 65) (v := undef) (a' := ?_) (bs 17179869183 39) rfl rfl HT_ ?_ ?_
       rotate_left
       ·simp only [pA, pS, pZ, pK, i64_w, i32_w]
        rfl
       refine pn (i := 34) (N := some 66) (v := undef) (a' := ?_) (bs 34359738367 39) rfl rfl HT_ ?_ ?_
       rotate_left
       ·simp only [pA, pS, pZ, pK, i64_w, i32_w]
        rfl
       refine pn (i := 35) (N := some 67) (v := undef) (a' := ?_) (bs 68719476735 39) rfl rfl HT_ ?_ ?_
       rotate_left
       ·simp only [pA, pS, pZ, pK, i64_w, i32_w]
        rfl
       refine pu (i := 36) (N := some 68) (v := ?_) (a' := ?_) (bs 137438953471 39) rfl rfl HT_ ?_ ?_ ?_
       rotate_left
       ·intro w'
        go_simp
        with_reducible rfl
       rotate_left
       ·simp only [pA, pS, pZ, pK, i64_w, i32_w]
        rfl
       refine pu (i := 37) (N := some 69) (v := ?_) (a' := ?_) (bs 274877906943 39) rfl rfl HT_ ?_ ?_ ?_
       rotate_left
       ·intro w'
        go_simp
        with_reducible rfl
       rotate_left
       ·simp only [pA, pS, pZ, pK, i64_w, i32_w]
        rfl
       refine pu (i := 38) (N := some 70) (v := ?_) (a' := ?_) (bs 549755813887 39) rfl rfl HT_ ?_ ?_ ?_
       rotate_left
       ·intro w'
        go_simp
        with_reducible rfl
       rotate_left
       ·simp only [pA, pS, pZ, pK, i64_w, i32_w]
        rfl
       refine done_ (done_of HT_.out (by kernel_rfl)) ?_
       try go_wp2
       go_meet
       case rel => exact ⟨_, (false), (by first | rfl | (simp; done) | (simp [*]; done)), H', ⟨by have := HK1.out; have := HJ2.out; first | omega | exact Nat.le_refl _⟩, ⟨BT HB.out⟩⟩
      rw [if_pos c28] at H
      have c28b0 : (((rd_T53 l0 (ji21)).f1) == ((rd_T53 l0 x3_1).f1)) = true := beq_iff_eq.mpr c28
      have c28b1 : (((rd_T53 l0 (ji21)).f1) != ((rd_T53 l0 x3_1).f1)) = false := bne_eq_false_iff_eq.mpr c28
      clear c28
      have H' := AM_ H
      clear H
      try go_wp2
      replace HB := AM_ (below_drew1 HB.out)
      have p157 : 0 ≤ ((ji21) : Int) := DT
      have q157 : (ji21) < (l0.length : Int) := DT
      obtain ⟨ad157, A157_2, c157_2, A157_3, c157_3, e157, hx157_0, hx157_1, hx157_2, hx157_3, hl157_2, hi157_2, hl157_3, hi157_3⟩ := at_T53 HR0.out (ji21) p157 q157
      have hw157_3 := hx157_3
      have hw157_2 := hx157_2
      have hw157_1 := hx157_1
      have hw157_0 := hx157_0
      cases e157
      replace hx157_0 := BC HB.out hx157_0
      replace hx157_1 := BC HB.out hx157_1
      replace hx157_2 := BC HB.out hx157_2
      replace hx157_3 := BC HB.out hx157_3
      have HR157_2 := AM_ hi157_2
      have HC157_2 := AM_ hl157_2
      clear hi157_2 hl157_2
      have HR157_3 := AM_ hi157_3
      have HC157_3 := AM_ hl157_3
      clear hi157_3 hl157_3
      replace p157 := eq_true p157
      replace q157 := eq_true q157
      have p158 : 0 ≤ (x3_1 : Int) := DT
      have q158 : x3_1 < (l0.length : Int) := DT
      obtain ⟨ad158, A158_2, c158_2, A158_3, c158_3, e158, hx158_0, hx158_1, hx158_2, hx158_3, hl158_2, hi158_2, hl158_3, hi158_3⟩ := at_T53 HR0.out x3_1 p158 q158
      have hw158_3 := hx158_3
      have hw158_2 := hx158_2
      have hw158_1 := hx158_1
      have hw158_0 := hx158_0
      obtain rfl : ad157 = ad158 := (by injection e158)
      replace hx158_0 := BC HB.out hx158_0
      replace hx158_1 := BC HB.out hx158_1
      replace hx158_2 := BC HB.out hx158_2
      replace hx158_3 := BC HB.out hx158_3
      have HR158_2 := AM_ hi158_2
      have HC158_2 := AM_ hl158_2
      clear hi158_2 hl158_2
      have HR158_3 := AM_ hi158_3
      have HC158_3 := AM_ hl158_3
      clear hi158_3 hl158_3
      replace p158 := eq_true p158
      replace q158 := eq_true q158
      have p159 : 0 ≤ ((ji21) : Int) := DT
      have q159 : (ji21) < (l0.length : Int) := DT
      obtain ⟨ad159, A159_2, c159_2, A159_3, c159_3, e159, hx159_0, hx159_1, hx159_2, hx159_3, hl159_2, hi159_2, hl159_3, hi159_3⟩ := at_T53 HR0.out (ji21) p159 q159
      have hw159_3 := hx159_3
      have hw159_2 := hx159_2
      have hw159_1 := hx159_1
      have hw159_0 := hx159_0
      obtain rfl : ad157 = ad159 := (by injection e159)
      replace hx159_0 := BC HB.out hx159_0
      replace hx159_1 := BC HB.out hx159_1
      replace hx159_2 := BC HB.out hx159_2
      replace hx159_3 := BC HB.out hx159_3
      have HR159_2 := AM_ hi159_2
      have HC159_2 := AM_ hl159_2
      clear hi159_2 hl159_2
      have HR159_3 := AM_ hi159_3
      have HC159_3 := AM_ hl159_3
      clear hi159_3 hl159_3
      replace p159 := eq_true p159
      replace q159 := eq_true q159
      have ea_ := Option.some.inj (hx157_2.symm.trans hx159_2)
      injection ea_ with ea_ en_ ec_
      subst ea_
      subst ec_
      clear en_
      have ea_ := Option.some.inj (hx157_3.symm.trans hx159_3)
      injection ea_ with ea_ en_ ec_
      subst ea_
      subst ec_
      clear en_
      have p160 : 0 ≤ (x3_1 : Int) := DT
      have q160 : x3_1 < (l0.length : Int) := DT
      obtain ⟨ad160, A160_2, c160_2, A160_3, c160_3, e160, hx160_0, hx160_1, hx160_2, hx160_3, hl160_2, hi160_2, hl160_3, hi160_3⟩ := at_T53 HR0.out x3_1 p160 q160
      have hw160_3 := hx160_3
      have hw160_2 := hx160_2
      have hw160_1 := hx160_1
      have hw160_0 := hx160_0
      obtain rfl : ad157 = ad160 := (by injection e160)
      replace hx160_0 := BC HB.out hx160_0
      replace hx160_1 := BC HB.out hx160_1
      replace hx160_2 := BC HB.out hx160_2
      replace hx160_3 := BC HB.out hx160_3
      have HR160_2 := AM_ hi160_2
      have HC160_2 := AM_ hl160_2
      clear hi160_2 hl160_2
      have HR160_3 := AM_ hi160_3
      have HC160_3 := AM_ hl160_3
      clear hi160_3 hl160_3
      replace p160 := eq_true p160
      replace q160 := eq_true q160
      have ea_ := Option.some.inj (hx158_2.symm.trans hx160_2)
      injection ea_ with ea_ en_ ec_
      subst ea_
      subst ec_
      clear en_
      have ea_ := Option.some.inj (hx158_3.symm.trans hx160_3)
      injection ea_ with ea_ en_ ec_
      subst ea_
      subst ec_
      clear en_
      have p161 : 0 ≤ (x3_1 : Int) := DT
      have q161 : x3_1 < (l0.length : Int) := DT
      obtain ⟨ad161, A161_2, c161_2, A161_3, c161_3, e161, hx161_0, hx161_1, hx161_2, hx161_3, hl161_2, hi161_2, hl161_3, hi161_3⟩ := at_T53 HR0.out x3_1 p161 q161
      have hw161_3 := hx161_3
      have hw161_2 := hx161_2
      have hw161_1 := hx161_1
      have hw161_0 := hx161_0
      obtain rfl : ad157 = ad161 := (by injection e161)
      replace hx161_0 := BC HB.out hx161_0
      replace hx161_1 := BC HB.out hx161_1
      replace hx161_2 := BC HB.out hx161_2
      replace hx161_3 := BC HB.out hx161_3
      have HR161_2 := AM_ hi161_2
      have HC161_2 := AM_ hl161_2
      clear hi161_2 hl161_2
      have HR161_3 := AM_ hi161_3
      have HC161_3 := AM_ hl161_3
      clear hi161_3 hl161_3
      replace p161 := eq_true p161
      replace q161 := eq_true q161
      have ea_ := Option.some.inj (hx158_2.symm.trans hx161_2)
      injection ea_ with ea_ en_ ec_
      subst ea_
      subst ec_
      clear en_
      have ea_ := Option.some.inj (hx158_3.symm.trans hx161_3)
      injection ea_ with ea_ en_ ec_
      subst ea_
      subst ec_
      clear en_
      refine start_ (n := 39) (S := fun w' => w'.cell? (ad157.add (((ji21)).toNat * 4)) = some (.int .i64 ((rd_T53 l0 (ji21)).f0)) ∧ w'.cell? ⟨(ad157.add (((ji21)).toNat * 4)).block, (ad157.add (((ji21)).toNat * 4)).off + 1, none⟩ = some (.int .i64 ((rd_T53 l0 (ji21)).f1)) ∧ w'.cell? ⟨(ad157.add (((ji21)).toNat * 4)).block, (ad157.add (((ji21)).toNat * 4)).off + 2, none⟩ = some (.slice A157_2 ((rd_T53 l0 (ji21)).f2).length c157_2) ∧ w'.cell? ⟨(ad157.add (((ji21)).toNat * 4)).block, (ad157.add (((ji21)).toNat * 4)).off + 3, none⟩ = some (.slice A157_3 ((rd_T53 l0 (ji21)).f3).length c157_3) ∧ w'.cell? (ad157.add ((x3_1).toNat * 4)) = some (.int .i64 ((rd_T53 l0 x3_1).f0)) ∧ w'.cell? ⟨(ad157.add ((x3_1).toNat * 4)).block, (ad157.add ((x3_1).toNat * 4)).off + 1, none⟩ = some (.int .i64 ((rd_T53 l0 x3_1).f1)) ∧ w'.cell? ⟨(ad157.add ((x3_1).toNat * 4)).block, (ad157.add ((x3_1).toNat * 4)).off + 2, none⟩ = some (.slice A158_2 ((rd_T53 l0 x3_1).f2).length c158_2) ∧ w'.cell? ⟨(ad157.add ((x3_1).toNat * 4)).block, (ad157.add ((x3_1).toNat * 4)).off + 3, none⟩ = some (.slice A158_3 ((rd_T53 l0 x3_1).f3).length c158_3) ∧ w'.cell? (ad157.add (((ji21)).toNat * 4)) = some (.int .i64 ((rd_T53 l0 (ji21)).f0)) ∧ w'.cell? ⟨(ad157.add (((ji21)).toNat * 4)).block, (ad157.add (((ji21)).toNat * 4)).off + 1, none⟩ = some (.int .i64 ((rd_T53 l0 (ji21)).f1)) ∧ w'.cell? ⟨(ad157.add (((ji21)).toNat * 4)).block, (ad157.add (((ji21)).toNat * 4)).off + 2, none⟩ = some (.slice A157_2 ((rd_T53 l0 (ji21)).f2).length c157_2) ∧ w'.cell? ⟨(ad157.add (((ji21)).toNat * 4)).block, (ad157.add (((ji21)).toNat * 4)).off + 3, none⟩ = some (.slice A157_3 ((rd_T53 l0 (ji21)).f3).length c157_3) ∧ w'.cell? (ad157.add ((x3_1).toNat * 4)) = some (.int .i64 ((rd_T53 l0 x3_1).f0)) ∧ w'.cell? ⟨(ad157.add ((x3_1).toNat * 4)).block, (ad157.add ((x3_1).toNat * 4)).off + 1, none⟩ = some (.int .i64 ((rd_T53 l0 x3_1).f1)) ∧ w'.cell? ⟨(ad157.add ((x3_1).toNat * 4)).block, (ad157.add ((x3_1).toNat * 4)).off + 2, none⟩ = some (.slice A158_2 ((rd_T53 l0 x3_1).f2).length c158_2) ∧ w'.cell? ⟨(ad157.add ((x3_1).toNat * 4)).block, (ad157.add ((x3_1).toNat * 4)).off + 3, none⟩ = some (.slice A158_3 ((rd_T53 l0 x3_1).f3).length c158_3) ∧ w'.cell? (ad157.add ((x3_1).toNat * 4)) = some (.int .i64 ((rd_T53 l0 x3_1).f0)) ∧ w'.cell? ⟨(ad157.add ((x3_1).toNat * 4)).block, (ad157.add ((x3_1).toNat * 4)).off + 1, none⟩ = some (.int .i64 ((rd_T53 l0 x3_1).f1)) ∧ w'.cell? ⟨(ad157.add ((x3_1).toNat * 4)).block, (ad157.add ((x3_1).toNat * 4)).off + 2, none⟩ = some (.slice A158_2 ((rd_T53 l0 x3_1).f2).length c158_2) ∧ w'.cell? ⟨(ad157.add ((x3_1).toNat * 4)).block, (ad157.add ((x3_1).toNat * 4)).off + 3, none⟩ = some (.slice A158_3 ((rd_T53 l0 x3_1).f3).length c158_3)) (ds := []) (bs 0 39) (by kernel_rfl) rfl rfl ⟨(BD HB.out hw157_0), (BD HB.out hw157_1), (BD HB.out hw157_2), (BD HB.out hw157_3), (BD HB.out hw158_0), (BD HB.out hw158_1), (BD HB.out hw158_2), (BD HB.out hw158_3), (BD HB.out hw159_0), (BD HB.out hw159_1), (BD HB.out hw159_2), (BD HB.out hw159_3), (BD HB.out hw160_0), (BD HB.out hw160_1), (BD HB.out hw160_2), (BD HB.out hw160_3), (BD HB.out hw161_0), (BD HB.out hw161_1), (BD HB.out hw161_2), (BD HB.out hw161_3)⟩ (fun hHeld => ?_); refine with_tabW spec_IsHistory.tab6 spec_IsHistory.bits6 (fun HT_ HW_ => ?_)
      generalize wc.drew = w29 at HB HR157_2 HR157_3 HR158_2 HR158_3 HR159_2 HR159_3 HR160_2 HR160_3 HR161_2 HR161_3 hx157_0 hx157_1 hx157_2 hx157_3 hx158_0 hx158_1 hx158_2 hx158_3 hx159_0 hx159_1 hx159_2 hx159_3 hx160_0 hx160_1 hx160_2 hx160_3 hx161_0 hx161_1 hx161_2 hx161_3 hHeld ⊢
      refine pu (i := 0) (N := some 32) (v := ?_) (a' := ?_) (bs 1 39) rfl rfl HT_ ?_ ?_ ?_
      rotate_left
      ·intro w'
       go_simp
       with_reducible rfl
      rotate_left
      ·simp only [pA, pS, pZ, pK, i64_w, i32_w]
       rfl
      refine pu (i := 1) (N := some 33) (v := ?_) (a' := ?_) (bs 3 39) rfl rfl HT_ ?_ ?_ ?_
      rotate_left
      ·intro w'
       go_simp
       with_reducible rfl
      rotate_left
      ·simp only [pA, pS, pZ, pK, i64_w, i32_w]
       rfl
      refine pu (i := 2) (N := some 34) (v := ?_) (a' := ?_) (bs 7 39) rfl rfl HT_ ?_ ?_ ?_
      rotate_left
      ·intro w'
       go_simp
       with_reducible rfl
      rotate_left
      ·simp only [pA, pS, pZ, pK, i64_w, i32_w]
       rfl
      refine pu (i := 3) (N := some 35) (v := ?_) (a' := ?_) (bs 15 39) rfl rfl HT_ ?_ ?_ ?_
      rotate_left
      ·intro w'
       go_simp
       with_reducible rfl
      rotate_left
      ·simp only [pA, pS, pZ, pK, i64_w, i32_w]
       rfl
      refine pu (i := 4) (N := some 36) (v := ?_) (a' := ?_) (bs 31 39) rfl rfl HT_ ?_ ?_ ?_
      rotate_left
      ·intro w'
       go_simp
       with_reducible rfl
      rotate_left
      ·simp only [pA, pS, pZ, pK, i64_w, i32_w]
       rfl
      refine pu (i := 5) (N := some 37) (v := ?_) (a' := ?_) (bs 63 39) rfl rfl HT_ ?_ ?_ ?_
      rotate_left
      ·intro w'
       go_simp
       with_reducible rfl
      rotate_left
      ·simp only [pA, pS, pZ, pK, i64_w, i32_w]
       rfl
      refine pu (i := 6) (N := some 38) (v := ?_) (a' := ?_) (bs 127 39) rfl rfl HT_ ?_ ?_ ?_
      rotate_left
      ·intro w'
       go_simp
       with_reducible rfl
      rotate_left
      ·simp only [pA, pS, pZ, pK, i64_w, i32_w]
       rfl
      refine pu (i := 7) (N := some 39) (v := ?_) (a' := ?_) (bs 255 39) rfl rfl HT_ ?_ ?_ ?_
      rotate_left
      ·intro w'
       go_simp
       with_reducible rfl
      rotate_left
      ·simp only [pA, pS, pZ, pK, i64_w, i32_w]
       rfl
      refine pu (i := 9) (N := some 41) (v := ?_) (a' := ?_) (bs 767 39) rfl rfl HT_ ?_ ?_ ?_
      rotate_left
      ·intro w'
       go_simp
       with_reducible rfl
      rotate_left
      ·simp only [pA, pS, pZ, pK, i64_w, i32_w]
       rfl
      refine pu (i := 10) (N := some 42) (v := ?_) (a' := ?_) (bs 1791 39) rfl rfl HT_ ?_ ?_ ?_
      rotate_left
      ·intro w'
       go_simp
       with_reducible rfl
      rotate_left
      ·simp only [pA, pS, pZ, pK, i64_w, i32_w]
       rfl
      refine pu (i := 11) (N := some 43) (v := ?_) (a' := ?_) (bs 3839 39) rfl rfl HT_ ?_ ?_ ?_
      rotate_left
      ·intro w'
       go_simp
       with_reducible rfl
      rotate_left
      ·simp only [pA, pS, pZ, pK, i64_w, i32_w]
       rfl
      refine pu (i := 12) (N := some 44) (v := ?_) (a' := ?_) (bs 7935 39) rfl rfl HT_ ?_ ?_ ?_
      rotate_left
      ·intro w'
       go_simp
       with_reducible rfl
      rotate_left
      ·simp only [pA, pS, pZ, pK, i64_w, i32_w]
       rfl
      refine tk (i := 8) (N := some 40) (v := ?_) (a' := ?_) (bs 8191 39) rfl rfl HT_ HW_ ?_ hHeld ?_ ?_
      rotate_left
      ·rintro w' ⟨s0, s1, s2, s3, s4, s5, s6, s7, s8, s9, s10, s11, s12, s13, s14, s15, s16, s17, s18, s19⟩
       go_simp
       with_reducible rfl
      rotate_left
      ·simp only [pA, pS, pZ, pK, i64_w, i32_w]
       rfl
      refine tk (i := 13) (N := some 45) (v := ?_) (a' := ?_) (bs 16383 39) rfl rfl HT_ HW_ ?_ hHeld ?_ ?_
      rotate_left
      ·rintro w' ⟨s0, s1, s2, s3, s4, s5, s6, s7, s8, s9, s10, s11, s12, s13, s14, s15, s16, s17, s18, s19⟩
       go_simp
       with_reducible rfl
      rotate_left
      ·simp only [pA, pS, pZ, pK, i64_w, i32_w]
       rfl
      refine pu (i := 14) (N := some 46) (v := ?_) (a' := ?_) (bs 32767 39) rfl rfl HT_ ?_ ?_ ?_
      rotate_left
      ·intro w'
       go_simp
       with_reducible rfl
      rotate_left
      ·simp only [pA, pS, pZ, pK, i64_w, i32_w]
       rfl
      refine pu (i := 15) (N := some 47) (v := ?_) (a' := ?_) (bs 65535 39) rfl rfl HT_ ?_ ?_ ?_
      rotate_left
      ·intro w'
       go_simp
       with_reducible rfl
      rotate_left
      ·simp only [pA, pS, pZ, pK, i64_w, i32_w]
       rfl
      refine pu (i := 16) (N := some 48) (v := ?_) (a' := ?_) (bs 131071 39) rfl rfl HT_ ?_ ?_ ?_
      rotate_left
      ·intro w'
       go_simp
       with_reducible rfl
      rotate_left
      ·simp only [pA, pS, pZ, pK, i64_w, i32_w]
       rfl
      refine pu (i := 17) (N := some 49) (v := ?_) (a' := ?_) (bs 262143 39) rfl rfl HT_ ?_ ?_ ?_
      rotate_left
      ·intro w'
       go_simp
       with_reducible rfl
      rotate_left
      ·simp only [pA, pS, pZ, pK, i64_w, i32_w]
       rfl
      refine pu (i := 18) (N := some 50) (v := ?_) (a' := ?_) (bs 524287 39) rfl rfl HT_ ?_ ?_ ?_
      rotate_left
      ·intro w'
       go_simp
       with_reducible rfl
      rotate_left
      ·simp only [pA, pS, pZ, pK, i64_w, i32_w]
       rfl
      refine pu (i := 19) (N := some 51) (v := ?_) (a' := ?_) (bs 1048575 39) rfl rfl HT_ ?_ ?_ ?_
      rotate_left
      ·intro w'
       go_simp
       with_reducible rfl
      rotate_left
      ·simp only [pA, pS, pZ, pK, i64_w, i32_w]
       rfl
      refine pu (i := 20) (N := some 52) (v := ?_) (a' := ?_) (bs 2097151 39) rfl rfl HT_ ?_ ?_ ?_
      rotate_left
      ·intro w'
       go_simp
       with_reducible rfl
      rotate_left
      ·simp only [pA, pS, pZ, pK, i64_w, i32_w]
       rfl
      refine pu (i := 22) (N := some 54) (v := ?_) (a' := ?_) (bs 6291455 39) rfl rfl HT_ ?_ ?_ ?_
      rotate_left
      ·intro w'
       go_simp
       with_reducible rfl
      rotate_left
      ·simp only [pA, pS, pZ, pK, i64_w, i32_w]
       rfl
      refine pu (i := 23) (N := some 55) (v := ?_) (a' := ?_) (bs 14680063 39) rfl rfl HT_ ?_ ?_ ?_
      rotate_left
      ·intro w'
       go_simp
       with_reducible rfl
      rotate_left
      ·simp only [pA, pS, pZ, pK, i64_w, i32_w]
       rfl
      refine pu (i := 24) (N := some 56) (v := ?_) (a' := ?_) (bs 31457279 39) rfl rfl HT_ ?_ ?_ ?_
      rotate_left
      ·intro w'
       go_simp
       with_reducible rfl
      rotate_left
      ·simp only [pA, pS, pZ, pK, i64_w, i32_w]
       rfl
      refine pu (i := 25) (N := some 57) (v := ?_) (a' := ?_) (bs 65011711 39) rfl rfl HT_ ?_ ?_ ?_
      rotate_left
      ·intro w'
       go_simp
       with_reducible rfl
      rotate_left
      ·simp only [pA, pS, pZ, pK, i64_w, i32_w]
       rfl
      refine tk (i := 21) (N := some 53) (v := ?_) (a' := ?_) (bs 67108863 39) rfl rfl HT_ HW_ ?_ hHeld ?_ ?_
      rotate_left
      ·rintro w' ⟨s0, s1, s2, s3, s4, s5, s6, s7, s8, s9, s10, s11, s12, s13, s14, s15, s16, s17, s18, s19⟩
       go_simp
       with_reducible rfl
      rotate_left
      ·simp only [pA, pS, pZ, pK, i64_w, i32_w]
       rfl
      refine tk (i := 26) (N := some 58) (v := ?_) (a' := ?_) (bs 134217727 39) rfl rfl HT_ HW_ ?_ hHeld ?_ ?_
      rotate_left
      ·rintro w' ⟨s0, s1, s2, s3, s4, s5, s6, s7, s8, s9, s10, s11, s12, s13, s14, s15, s16, s17, s18, s19⟩
       go_simp
       with_reducible rfl
      rotate_left
      ·simp only [pA, pS, pZ, pK, i64_w, i32_w]
       rfl
      refine pu (i := 27) (N := some 59) (v := ?_) (a' := ?_) (bs 268435455 39) rfl rfl HT_ ?_ ?_ ?_
      rotate_left
      ·intro w'
       go_simp
       with_reducible rfl
      rotate_left
      ·simp only [pA, pS, pZ, pK, i64_w, i32_w]
       rfl
      refine pu (i := 28) (N := some 60) (v := ?_) (a' := ?_) (bs 536870911 39) rfl rfl HT_ ?_ ?_ ?_
      rotate_left
      ·intro w'
       go_simp
       with_reducible rfl
      rotate_left
      ·simp only [pA, pS, pZ, pK, i64_w, i32_w]
       rfl
      refine pu (i := 29) (N := some 61) (v := ?_) (a' := ?_) (bs 1073741823 39) rfl rfl HT_ ?_ ?_ ?_
      rotate_left
      ·intro w'
       go_simp
       with_reducible rfl
      rotate_left
      ·simp only [pA, pS, pZ, pK, i64_w, i32_w]
       rfl
      refine pu (i := 30) (N := some 62) (v := ?_) (a' := ?_) (bs 2147483647 39) rfl rfl HT_ ?_ ?_ ?_
      rotate_left
      ·intro w'
       go_simp
       with_reducible rfl
      rotate_left
      ·simp only [pA, pS, pZ, pK, i64_w, i32_w]
       rfl
      refine pu (i := 31) (N := some 63) (v := ?_) (a' := ?_) (bs 4294967295 39) rfl rfl HT_ ?_ ?_ ?_
      rotate_left
      ·intro w'
       go_simp
       with_reducible rfl
      rotate_left
      ·simp only [pA, pS, pZ, pK, i64_w, i32_w]
       rfl
      refine pu (i := 32) (N := some 64) (v := ?_) (a' := ?_) (bs 8589934591 39) rfl rfl HT_ ?_ ?_ ?_
      rotate_left
      ·intro w'
       go_simp
       with_reducible rfl
      rotate_left
      ·simp only [pA, pS, pZ, pK, i64_w, i32_w]
       rfl
      refine tk (i := 33) (N := some 65) (v := ?_) (a' := ?_) (bs 17179869183 39) rfl rfl HT_ HW_ ?_ hHeld ?_ ?_
      rotate_left
      ·rintro w' ⟨s0, s1, s2, s3, s4, s5, s6, s7, s8, s9, s10, s11, s12, s13, s14, s15, s16, s17, s18, s19⟩
       go_simp
       with_reducible rfl
      rotate_left
      ·simp only [pA, pS, pZ, pK, i64_w, i32_w]
       rfl
      refine pu (i := 34) (N := some 66) (v := ?_) (a' := ?_) (bs 34359738367 39) rfl rfl HT_ ?_ ?_ ?_
      rotate_left
      ·intro w'
       go_simp
       with_reducible rfl
      rotate_left
      ·simp only [pA, pS, pZ, pK, i64_w, i32_w]
       rfl
      refine pu (i := 35) (N := some 67) (v := ?_) (a' := ?_) (bs 68719476735 39) rfl rfl HT_ ?_ ?_ ?_
      rotate_left
      ·intro w'
       go_simp
       with_reducible rfl
      rotate_left
      ·simp only [pA, pS, pZ, pK, i64_w, i32_w]
       rfl
      refine pu (i := 36) (N := some 68) (v := ?_) (a' := ?_) (bs 137438953471 39) rfl rfl HT_ ?_ ?_ ?_
      rotate_left
      ·intro w'
       go_simp
       with_reducible rfl
      rotate_left
      ·simp only [pA, pS, pZ, pK, i64_w, i32_w]
       rfl
      refine pu (i := 37) (N := some 69) (v := ?_) (a' := ?_) (bs 274877906943 39) rfl rfl HT_ ?_ ?_ ?_
      rotate_left
      ·intro w'
       go_simp
       with_reducible rfl
      rotate_left
      ·simp only [pA, pS, pZ, pK, i64_w, i32_w]
       rfl
      refine pu (i := 38) (N := some 70) (v := ?_) (a' := ?_) (bs 549755813887 39) rfl rfl HT_ ?_ ?_ ?_
      rotate_left
      ·intro w'
       go_simp
       with_reducible rfl
      rotate_left
      ·simp only [pA, pS, pZ, pK, i64_w, i32_w]
       rfl
      refine done_ (done_of HT_.out (by kernel_rfl)) ?_
      try go_wp2
      go_meet
      case rel => exact ⟨_, (decide ((((rd_T53 l0 x3_1).f3).length : Int) > 0)), (by first | rfl | (simp; done) | (simp [*]; done)), H', ⟨by have := HK1.out; have := HJ2.out; first | omega | exact Nat.le_refl _⟩, ⟨BT HB.out⟩⟩
     case rest =>
      clear HC19
      try clear c1
      try clear p1
      try clear q1
      try clear hx1
      try clear c2
      try clear p2
      try clear c15
      try clear p15
      try clear q15
      try clear hx15
      try clear c16
      try clear p16
      try clear q16
      try clear hx16
      try clear c20
      try clear c20b0
      try clear c22
      try clear c23
      try clear c24
      try clear c25
      try clear c28
      try clear c28b0
      try clear c28b1
      try clear hx157_0
      try clear hx157_1
      try clear hx157_2
      try clear hx157_3
      try clear hx158_0
      try clear hx158_1
      try clear hx158_2
      try clear hx158_3
      try clear hx159_0
      try clear hx159_1
      try clear hx159_2
      try clear hx159_3
      try clear hx160_0
      try clear hx160_1
      try clear hx160_2
      try clear hx160_3
      try clear p157
      try clear p158
      try clear p159
      try clear p160
      try clear q157
      try clear q158
      try clear q159
      try clear q160
      obtain ⟨kq, x70_18, rfl, HA, HJ18, HB⟩ := hcut
      cases kq with
      | zero => exact absurd HA.out (by simp [spec_IsHistory.j2])
      | succ kj18 =>
       have H := HA.out
       clear HA
       simp only [spec_IsHistory.j2] at H
       by_cases c32 : x70_18 = true
       ·subst c32
        have H1 : (some false) = some r := by rw [if_pos rfl] at H; exact H
        clear H
        have H := H1
        clear H1
        obtain rfl := Option.some.inj H
        go_wp2
        go_ret
        exact QT (BT HB.out)
       replace c32 := Bool.eq_false_iff.mpr c32
       subst c32
       have H1 : (spec_IsHistory.l0 kj18 l0 (wrap64 (x3_1 + 1))) = some r := by rw [if_neg (show ¬ (false = true) by decide)] at H; exact H
       clear H
       have H := H1
       clear H1
       have H' := AM_ H
       clear H
       go_wp2
       go_roundg kj18
       case measure => have := HK1.out; have := HJ2.out; have := HJ18.out; omega
       case rel => exact ⟨(wrap64 (x3_1 + 1)), (by first | rfl | (simp; done) | (simp [*]; done)), H', ⟨by have := HK1.out; have := HJ2.out; have := HJ18.out; omega⟩, ⟨BT HB.out⟩⟩

end Go.Proofs.YtgpmfkmdchcagaaDoor.PFnExactFormatHistory
