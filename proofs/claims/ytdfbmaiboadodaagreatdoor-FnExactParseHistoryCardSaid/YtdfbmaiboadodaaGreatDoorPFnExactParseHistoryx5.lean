-- Printed by wip/myprint.py.
import Derived.Test.YtdfbmaiboadodaaGreatDoorPFnExactParseHistoryx3
import Derived.Test.YtdfbmaiboadodaaGreatDoorPFnExactParseHistoryx4
namespace Go.Proofs.YtdfbmaiboadodaaGreatDoor.PFnExactParseHistory
open Go.RowKit Go.Proofs.YtdfbmaiboadodaaGreatDoorW.PrintWords Go.Proofs.YtdfbmaiboadodaaGreatDoorW.PrintLast Go.Proofs.YtdfbmaiboadodaaGreatDoorW.PrintMore
set_option maxHeartbeats 8000000
set_option maxRecDepth 100000
set_option linter.unusedVariables false
set_option linter.unusedSimpArgs false

/-! ### spec_IsHistory: function 24 -/
mutual
def spec_IsHistory.l0 : Nat → List (S33) → Int → Option (Bool)
 | 0, _, _ => none
 | k + 1, x0, x3 => if x3 < (x0.length : Int) then (if 0 ≤ x3 then ((spec_l18Tx.f ((rd_T33 x0 x3).f0) ((rd_T33 x0 x3).f1) ((rd_T33 x0 x3).f2) ((rd_T33 x0 x3).f3)).bind fun bt181 => ((spec_IsValidTransaction.f k bt181.1 bt181.2.1 bt181.2.2.1 bt181.2.2.2.1 bt181.2.2.2.2.1 bt181.2.2.2.2.2.1 bt181.2.2.2.2.2.2 ((rd_T33 x0 x3).f2) ((rd_T33 x0 x3).f3)).bind fun t194 => (if t194 = true then (if x3 ≤ (x0.length : Int) then ((spec_FindEntry.f k (x0.take (x3 : Int).toNat) ((rd_T33 x0 x3).f0)).bind fun t200 => (spec_IsHistory.j1 k x0 x3 (decide (t200 ≥ 0)))) else (none)) else (spec_IsHistory.j1 k x0 x3 true)))) else (none)) else (spec_IsHistory.l1 k x0 0)
def spec_IsHistory.j1 : Nat → List (S33) → Int → Bool → Option (Bool)
 | 0, _, _, _ => none
 | k + 1, x0, x3, x31 => if x31 = true then (some false) else (if x3 > 0 then (if 0 ≤ (wrap64 (x3 - 1)) then (if (wrap64 (x3 - 1)) < (x0.length : Int) then (if 0 ≤ x3 then (if x3 < (x0.length : Int) then (if ((rd_T33 x0 (wrap64 (x3 - 1))).f1) > ((rd_T33 x0 x3).f1) then (spec_IsHistory.j2 k x0 x3 true) else (if ((rd_T33 x0 (wrap64 (x3 - 1))).f1) = ((rd_T33 x0 x3).f1) then (spec_IsHistory.j2 k x0 x3 (decide ((((rd_T33 x0 x3).f3).length : Int) > 0))) else (spec_IsHistory.j2 k x0 x3 false))) else (none)) else (none)) else (none)) else (none)) else (spec_IsHistory.j2 k x0 x3 false))
def spec_IsHistory.j2 : Nat → List (S33) → Int → Bool → Option (Bool)
 | 0, _, _, _ => none
 | k + 1, x0, x3, x70 => if x70 = true then (some false) else (spec_IsHistory.l0 k x0 (wrap64 (x3 + 1)))
def spec_IsHistory.l1 : Nat → List (S33) → Int → Option (Bool)
 | 0, _, _ => none
 | k + 1, x0, x4 => if x4 < (x0.length : Int) then (spec_IsHistory.l2 k x0 x4 0) else (some (decide ((x0.length : Int) ≤ 9)))
def spec_IsHistory.l2 : Nat → List (S33) → Int → Int → Option (Bool)
 | 0, _, _, _ => none
 | k + 1, x0, x4, x5 => if 0 ≤ x4 then (if x4 < (x0.length : Int) then (if x5 < (((rd_T33 x0 x4).f2).length : Int) then (if 0 ≤ x5 then ((spec_WriterOf.f k x0 ((rd_T48 ((rd_T33 x0 x4).f2) x5).f0) ((rd_T48 ((rd_T33 x0 x4).f2) x5).f1)).bind fun t209 => (if t209 = ((rd_T33 x0 x4).f0) then (spec_IsHistory.j5 k x0 x4 x5 true) else (if ((rd_T48 ((rd_T33 x0 x4).f2) x5).f1) > 0 then (spec_IsHistory.j5 k x0 x4 x5 (t209 == 0)) else (spec_IsHistory.j5 k x0 x4 x5 false)))) else (none)) else (spec_IsHistory.l1 k x0 (wrap64 (x4 + 1)))) else (none)) else (none)
def spec_IsHistory.j5 : Nat → List (S33) → Int → Int → Bool → Option (Bool)
 | 0, _, _, _, _ => none
 | k + 1, x0, x4, x5, x119 => if x119 = true then (some false) else (spec_IsHistory.l2 k x0 x4 (wrap64 (x5 + 1)))
end
def spec_IsHistory.f (k : Nat) (l0 : List (S33)) : Option (Bool) := spec_IsHistory.l0 k l0 0
theorem spec_IsHistory.mono_l : ∀ k, (∀ y0 y1, LeO (spec_IsHistory.l0 k y0 y1) (spec_IsHistory.l0 (k + 1) y0 y1)) ∧ (∀ y0 y1 y2, LeO (spec_IsHistory.j1 k y0 y1 y2) (spec_IsHistory.j1 (k + 1) y0 y1 y2)) ∧ (∀ y0 y1 y2, LeO (spec_IsHistory.j2 k y0 y1 y2) (spec_IsHistory.j2 (k + 1) y0 y1 y2)) ∧ (∀ y0 y1, LeO (spec_IsHistory.l1 k y0 y1) (spec_IsHistory.l1 (k + 1) y0 y1)) ∧ (∀ y0 y1 y2, LeO (spec_IsHistory.l2 k y0 y1 y2) (spec_IsHistory.l2 (k + 1) y0 y1 y2)) ∧ (∀ y0 y1 y2 y3, LeO (spec_IsHistory.j5 k y0 y1 y2 y3) (spec_IsHistory.j5 (k + 1) y0 y1 y2 y3))
 | 0 => ⟨fun _ _ r h => by simp [spec_IsHistory.l0] at h, fun _ _ _ r h => by simp [spec_IsHistory.j1] at h, fun _ _ _ r h => by simp [spec_IsHistory.j2] at h, fun _ _ r h => by simp [spec_IsHistory.l1] at h, fun _ _ _ r h => by simp [spec_IsHistory.l2] at h, fun _ _ _ _ r h => by simp [spec_IsHistory.j5] at h⟩
 | k + 1 => by
  obtain ⟨ih0, ih1, ih2, ih3, ih4, ih5⟩ := spec_IsHistory.mono_l k
  refine ⟨?_, ?_, ?_, ?_, ?_, ?_⟩
  ·intro y0 y1
   unfold spec_IsHistory.l0
   repeat' first
   | (with_reducible exact ih0 _ _)
   | (with_reducible exact ih1 _ _ _)
   | (with_reducible exact ih2 _ _ _)
   | (with_reducible exact ih3 _ _)
   | (with_reducible exact ih4 _ _ _)
   | (with_reducible exact ih5 _ _ _ _)
   | (with_reducible exact spec_FindEntry.mono _ _ _)
   | (with_reducible exact spec_IsValidTransaction.mono _ _ _ _ _ _ _ _ _ _)
   | (with_reducible exact spec_WriterOf.mono _ _ _ _)
   | (with_reducible first | exact LeO.refl _ | exact LeO.none _ | refine LeO.ite ?_ ?_ | refine LeO.bind ?_ (fun _ => ?_))
   | exact ih0 _ _
   | exact ih1 _ _ _
   | exact ih2 _ _ _
   | exact ih3 _ _
   | exact ih4 _ _ _
   | exact ih5 _ _ _ _
   | exact spec_FindEntry.mono _ _ _
   | exact spec_IsValidTransaction.mono _ _ _ _ _ _ _ _ _ _
   | exact spec_WriterOf.mono _ _ _ _
   | exact LeO.none _ | refine LeO.ite ?_ ?_ | refine LeO.bind ?_ (fun _ => ?_)
  ·intro y0 y1 y2
   unfold spec_IsHistory.j1
   repeat' first
   | (with_reducible exact ih0 _ _)
   | (with_reducible exact ih1 _ _ _)
   | (with_reducible exact ih2 _ _ _)
   | (with_reducible exact ih3 _ _)
   | (with_reducible exact ih4 _ _ _)
   | (with_reducible exact ih5 _ _ _ _)
   | (with_reducible exact spec_FindEntry.mono _ _ _)
   | (with_reducible exact spec_IsValidTransaction.mono _ _ _ _ _ _ _ _ _ _)
   | (with_reducible exact spec_WriterOf.mono _ _ _ _)
   | (with_reducible first | exact LeO.refl _ | exact LeO.none _ | refine LeO.ite ?_ ?_ | refine LeO.bind ?_ (fun _ => ?_))
   | exact ih0 _ _
   | exact ih1 _ _ _
   | exact ih2 _ _ _
   | exact ih3 _ _
   | exact ih4 _ _ _
   | exact ih5 _ _ _ _
   | exact spec_FindEntry.mono _ _ _
   | exact spec_IsValidTransaction.mono _ _ _ _ _ _ _ _ _ _
   | exact spec_WriterOf.mono _ _ _ _
   | exact LeO.none _ | refine LeO.ite ?_ ?_ | refine LeO.bind ?_ (fun _ => ?_)
  ·intro y0 y1 y2
   unfold spec_IsHistory.j2
   repeat' first
   | (with_reducible exact ih0 _ _)
   | (with_reducible exact ih1 _ _ _)
   | (with_reducible exact ih2 _ _ _)
   | (with_reducible exact ih3 _ _)
   | (with_reducible exact ih4 _ _ _)
   | (with_reducible exact ih5 _ _ _ _)
   | (with_reducible exact spec_FindEntry.mono _ _ _)
   | (with_reducible exact spec_IsValidTransaction.mono _ _ _ _ _ _ _ _ _ _)
   | (with_reducible exact spec_WriterOf.mono _ _ _ _)
   | (with_reducible first | exact LeO.refl _ | exact LeO.none _ | refine LeO.ite ?_ ?_ | refine LeO.bind ?_ (fun _ => ?_))
   | exact ih0 _ _
   | exact ih1 _ _ _
   | exact ih2 _ _ _
   | exact ih3 _ _
   | exact ih4 _ _ _
   | exact ih5 _ _ _ _
   | exact spec_FindEntry.mono _ _ _
   | exact spec_IsValidTransaction.mono _ _ _ _ _ _ _ _ _ _
   | exact spec_WriterOf.mono _ _ _ _
   | exact LeO.none _ | refine LeO.ite ?_ ?_ | refine LeO.bind ?_ (fun _ => ?_)
  ·intro y0 y1
   unfold spec_IsHistory.l1
   repeat' first
   | (with_reducible exact ih0 _ _)
   | (with_reducible exact ih1 _ _ _)
   | (with_reducible exact ih2 _ _ _)
   | (with_reducible exact ih3 _ _)
   | (with_reducible exact ih4 _ _ _)
   | (with_reducible exact ih5 _ _ _ _)
   | (with_reducible exact spec_FindEntry.mono _ _ _)
   | (with_reducible exact spec_IsValidTransaction.mono _ _ _ _ _ _ _ _ _ _)
   | (with_reducible exact spec_WriterOf.mono _ _ _ _)
   | (with_reducible first | exact LeO.refl _ | exact LeO.none _ | refine LeO.ite ?_ ?_ | refine LeO.bind ?_ (fun _ => ?_))
   | exact ih0 _ _
   | exact ih1 _ _ _
   | exact ih2 _ _ _
   | exact ih3 _ _
   | exact ih4 _ _ _
   | exact ih5 _ _ _ _
   | exact spec_FindEntry.mono _ _ _
   | exact spec_IsValidTransaction.mono _ _ _ _ _ _ _ _ _ _
   | exact spec_WriterOf.mono _ _ _ _
   | exact LeO.none _ | refine LeO.ite ?_ ?_ | refine LeO.bind ?_ (fun _ => ?_)
  ·intro y0 y1 y2
   unfold spec_IsHistory.l2
   repeat' first
   | (with_reducible exact ih0 _ _)
   | (with_reducible exact ih1 _ _ _)
   | (with_reducible exact ih2 _ _ _)
   | (with_reducible exact ih3 _ _)
   | (with_reducible exact ih4 _ _ _)
   | (with_reducible exact ih5 _ _ _ _)
   | (with_reducible exact spec_FindEntry.mono _ _ _)
   | (with_reducible exact spec_IsValidTransaction.mono _ _ _ _ _ _ _ _ _ _)
   | (with_reducible exact spec_WriterOf.mono _ _ _ _)
   | (with_reducible first | exact LeO.refl _ | exact LeO.none _ | refine LeO.ite ?_ ?_ | refine LeO.bind ?_ (fun _ => ?_))
   | exact ih0 _ _
   | exact ih1 _ _ _
   | exact ih2 _ _ _
   | exact ih3 _ _
   | exact ih4 _ _ _
   | exact ih5 _ _ _ _
   | exact spec_FindEntry.mono _ _ _
   | exact spec_IsValidTransaction.mono _ _ _ _ _ _ _ _ _ _
   | exact spec_WriterOf.mono _ _ _ _
   | exact LeO.none _ | refine LeO.ite ?_ ?_ | refine LeO.bind ?_ (fun _ => ?_)
  ·intro y0 y1 y2 y3
   unfold spec_IsHistory.j5
   repeat' first
   | (with_reducible exact ih0 _ _)
   | (with_reducible exact ih1 _ _ _)
   | (with_reducible exact ih2 _ _ _)
   | (with_reducible exact ih3 _ _)
   | (with_reducible exact ih4 _ _ _)
   | (with_reducible exact ih5 _ _ _ _)
   | (with_reducible exact spec_FindEntry.mono _ _ _)
   | (with_reducible exact spec_IsValidTransaction.mono _ _ _ _ _ _ _ _ _ _)
   | (with_reducible exact spec_WriterOf.mono _ _ _ _)
   | (with_reducible first | exact LeO.refl _ | exact LeO.none _ | refine LeO.ite ?_ ?_ | refine LeO.bind ?_ (fun _ => ?_))
   | exact ih0 _ _
   | exact ih1 _ _ _
   | exact ih2 _ _ _
   | exact ih3 _ _
   | exact ih4 _ _ _
   | exact ih5 _ _ _ _
   | exact spec_FindEntry.mono _ _ _
   | exact spec_IsValidTransaction.mono _ _ _ _ _ _ _ _ _ _
   | exact spec_WriterOf.mono _ _ _ _
   | exact LeO.none _ | refine LeO.ite ?_ ?_ | refine LeO.bind ?_ (fun _ => ?_)
theorem spec_IsHistory.mono : ∀ a0 k, LeO (spec_IsHistory.f k a0) (spec_IsHistory.f (k + 1) a0) := by
 intro a0 k
 obtain ⟨ih0, ih1, ih2, ih3, ih4, ih5⟩ := spec_IsHistory.mono_l k
 unfold spec_IsHistory.f
 repeat' first
   | (with_reducible exact ih0 _ _)
   | (with_reducible exact ih1 _ _ _)
   | (with_reducible exact ih2 _ _ _)
   | (with_reducible exact ih3 _ _)
   | (with_reducible exact ih4 _ _ _)
   | (with_reducible exact ih5 _ _ _ _)
   | (with_reducible exact spec_FindEntry.mono _ _ _)
   | (with_reducible exact spec_IsValidTransaction.mono _ _ _ _ _ _ _ _ _ _)
   | (with_reducible exact spec_WriterOf.mono _ _ _ _)
   | (with_reducible first | exact LeO.refl _ | exact LeO.none _ | refine LeO.ite ?_ ?_ | refine LeO.bind ?_ (fun _ => ?_))
   | exact ih0 _ _
   | exact ih1 _ _ _
   | exact ih2 _ _ _
   | exact ih3 _ _
   | exact ih4 _ _ _
   | exact ih5 _ _ _ _
   | exact spec_FindEntry.mono _ _ _
   | exact spec_IsValidTransaction.mono _ _ _ _ _ _ _ _ _ _
   | exact spec_WriterOf.mono _ _ _ _
   | exact LeO.none _ | refine LeO.ite ?_ ?_ | refine LeO.bind ?_ (fun _ => ?_)
def spec_IsHistory.T4 : Bool × List (List Nat × List Nat) := (true, [([], []), ([], []), ([0, 1], [0, 1]), ([2], [2]), ([3], [3]), ([4, 4], [4]), ([5], [5]), ([6, 5], [6]), ([7], [7]), ([7], [7]), ([8, 9, 7], [7, 8, 9]), ([7], [7]), ([7], [7]), ([11, 12, 7], [7, 11, 12]), ([13, 7], [7, 13]), ([14, 7], [7, 14]), ([10, 15, 7, 7], [7, 10, 15]), ([16, 7], [7, 16]), ([7, 17], [7, 17])])
def spec_IsHistory.B4 : List Nat := [0, 0, 3, 7, 15, 31, 63, 127, 255, 255, 1023, 255, 255, 6399, 14591, 30975, 65535, 131071, 262143]
theorem spec_IsHistory.tab4 : rtab .any (opsOf Tryz.f24 4) = spec_IsHistory.T4 := by kernel_rfl
theorem spec_IsHistory.bits4 : waitsOk spec_IsHistory.T4.2 spec_IsHistory.B4 = true := by kernel_rfl
def spec_IsHistory.T6 : Bool × List (List Nat × List Nat) := (true, [([], []), ([0], [0]), ([1], [1]), ([2], [2]), ([2], [2]), ([4, 2], [2, 4]), ([3, 5, 2], [2, 3, 5]), ([6, 2], [2, 6]), ([7, 2], [2, 7]), ([2], [2]), ([2], [2]), ([9, 10, 2], [2, 9, 10]), ([11, 2], [2, 11]), ([12, 2], [2, 12]), ([8, 13, 2], [2, 8, 13]), ([14, 2, 2], [2, 14]), ([15], [15]), ([15], [15]), ([17, 15], [15, 17]), ([16, 18, 15], [15, 16, 18]), ([19, 15], [15, 19]), ([20, 15], [15, 20]), ([15], [15]), ([15], [15]), ([22, 23, 15], [15, 22, 23]), ([24, 15], [15, 24]), ([25, 15], [15, 25]), ([21, 26, 15], [15, 21, 26]), ([27, 15, 15], [15, 27]), ([28], [28]), ([28], [28]), ([29, 30, 28], [28, 29, 30]), ([31, 28], [28, 31]), ([32, 28], [28, 32]), ([33, 28], [28, 33]), ([34, 28], [28, 34]), ([28, 35, 15], [15, 28, 35]), ([15, 36, 2], [2, 15, 36]), ([2, 37], [2, 37])])
def spec_IsHistory.B6 : List Nat := [0, 1, 3, 7, 7, 23, 63, 127, 255, 7, 7, 1543, 3591, 7687, 16383, 32767, 65535, 65535, 196607, 524287, 1048575, 2097151, 65535, 65535, 12648447, 29425663, 62980095, 134217727, 268435455, 536870911, 536870911, 2147483647, 4294967295, 8589934591, 17179869183, 34359738367, 68719476735, 137438953471, 274877906943]
theorem spec_IsHistory.tab6 : rtab .any (opsOf Tryz.f24 6) = spec_IsHistory.T6 := by kernel_rfl
theorem spec_IsHistory.bits6 : waitsOk spec_IsHistory.T6.2 spec_IsHistory.B6 = true := by kernel_rfl
theorem spec_IsHistory.calls (k : Nat) (A0 : Option Addr) (c0 : Nat) (l0 : List (S33)) (r : Bool) (w : World) (hr0 : Kd.C k33 w A0 l0.length l0) (hc0 : l0.length ≤ c0) (h : spec_IsHistory.f k l0 = some r) :
  Calls Tryz.prog 24 #[.slice A0 l0.length c0] w fun e w' => e = .returned (.bool r) ∧ Below w.heap.size w w' := by
 have hu33 := Tryz.underlying33
 have hu48 := Tryz.underlying48
 have HR0 := AM_ hr0
 have HC0 := AM_ hc0
 clear hr0 hc0
 have HB := AM_ (Below.refl w.heap.size w)
 have H : (spec_IsHistory.l0 k l0 0) = some r := h
 clear h
 have H' := AM_ H
 clear H
 go_enter Tryz.func24, Tryz.ntmps24
 go_wp2
 go_loopg [3] k (fun kq v3 w' => ∃ (x3_1 : Int), v3 = .int .i64 x3_1 ∧ Aside0 (spec_IsHistory.l0 kq l0 x3_1 = some r) ∧ Aside0 (kq ≤ k) ∧ Aside0 (Below w.heap.size w w'))
 case atStart => exact ⟨(0), (by first | rfl | (simp; done) | (simp [*]; done)), H', ⟨Nat.le_refl _⟩, ⟨BT HB.out⟩⟩
 case round =>
  clear H'
  obtain ⟨x3_1, rfl, HA, HK1, HB⟩ := hrel
  cases gk with
  | zero => exact absurd HA.out (by simp [spec_IsHistory.l0])
  | succ k1 =>
   have H := HA.out
   clear HA
   simp only [spec_IsHistory.l0] at H
   by_cases c2 : x3_1 < (l0.length : Int)
   rotate_left
   ·rw [if_neg c2] at H
    have c2b0 : decide (x3_1 < (l0.length : Int)) = false := decide_eq_false c2
    clear c2
    have H' := AM_ H
    clear H
    go_wp2
    go_loopg [4] k1 (fun kq v4 w' => ∃ (x4_2 : Int), v4 = .int .i64 x4_2 ∧ Aside0 (spec_IsHistory.l1 kq l0 x4_2 = some r) ∧ Aside0 (kq ≤ k1) ∧ Aside0 (Below w.heap.size w w'))
    case atStart => exact ⟨(0), (by first | rfl | (simp; done) | (simp [*]; done)), H', ⟨Nat.le_refl _⟩, ⟨BT HB.out⟩⟩
    case round =>
     clear H'
     try clear c2
     try clear c2b0
     try clear p2
     try clear q2
     try clear hx2
     try clear c3
     try clear p6
     try clear c20
     try clear c20b0
     try clear p20
     try clear q20
     try clear hx20
     try clear c22
     try clear c23
     try clear c24
     try clear c25
     try clear c28
     try clear c28b0
     try clear c28b1
     try clear c32
     try clear hx201_0
     try clear hx201_1
     try clear hx201_2
     try clear hx201_3
     try clear hx202_0
     try clear hx202_1
     try clear hx202_2
     try clear hx202_3
     try clear hx203_0
     try clear hx203_1
     try clear hx203_2
     try clear hx203_3
     try clear hx204_0
     try clear hx204_1
     try clear hx204_2
     try clear hx204_3
     try clear p201
     try clear p202
     try clear p203
     try clear p204
     try clear q201
     try clear q202
     try clear q203
     try clear q204
     obtain ⟨x4_2, rfl, HA, HK2, HB⟩ := hrel
     cases gk with
     | zero => exact absurd HA.out (by simp [spec_IsHistory.l1])
     | succ k2 =>
      have H := HA.out
      clear HA
      simp only [spec_IsHistory.l1] at H
      by_cases c33 : x4_2 < (l0.length : Int)
      rotate_left
      ·rw [if_neg c33] at H
       have c33b0 : decide (x4_2 < (l0.length : Int)) = false := decide_eq_false c33
       clear c33
       obtain rfl := Option.some.inj H
       go_wp2
       go_ret
       exact QT (BT HB.out)
      rw [if_pos c33] at H
      have c33b0 : decide (x4_2 < (l0.length : Int)) = true := decide_eq_true c33
      clear c33
      have H' := AM_ H
      clear H
      go_wp2
      go_loopg [5] k2 (fun kq v5 w' => ∃ (x5_3 : Int), v5 = .int .i64 x5_3 ∧ Aside0 (spec_IsHistory.l2 kq l0 x4_2 x5_3 = some r) ∧ Aside0 (kq ≤ k2) ∧ Aside0 (Below w.heap.size w w'))
      case atStart => exact ⟨(0), (by first | rfl | (simp; done) | (simp [*]; done)), H', ⟨Nat.le_refl _⟩, ⟨BT HB.out⟩⟩
      case round =>
       clear H'
       try clear c2
       try clear c2b0
       try clear p2
       try clear q2
       try clear hx2
       try clear c3
       try clear p6
       try clear c20
       try clear c20b0
       try clear p20
       try clear q20
       try clear hx20
       try clear c22
       try clear c23
       try clear c24
       try clear c25
       try clear c28
       try clear c28b0
       try clear c28b1
       try clear c32
       try clear c33
       try clear c33b0
       try clear hx201_0
       try clear hx201_1
       try clear hx201_2
       try clear hx201_3
       try clear hx202_0
       try clear hx202_1
       try clear hx202_2
       try clear hx202_3
       try clear hx203_0
       try clear hx203_1
       try clear hx203_2
       try clear hx203_3
       try clear hx204_0
       try clear hx204_1
       try clear hx204_2
       try clear hx204_3
       try clear p201
       try clear p202
       try clear p203
       try clear p204
       try clear q201
       try clear q202
       try clear q203
       try clear q204
       obtain ⟨x5_3, rfl, HA, HK3, HB⟩ := hrel
       cases gk with
       | zero => exact absurd HA.out (by simp [spec_IsHistory.l2])
       | succ k3 =>
        have H := HA.out
        clear HA
        simp only [spec_IsHistory.l2] at H
        replace H := HI H
        obtain ⟨c34, H⟩ := H
        have c34b0 : decide (0 ≤ x4_2) = true := decide_eq_true c34
        clear c34
        replace H := HI H
        obtain ⟨c35, H⟩ := H
        have c35b0 : decide (x4_2 < (l0.length : Int)) = true := decide_eq_true c35
        clear c35
        by_cases c36 : x5_3 < (((rd_T33 l0 x4_2).f2).length : Int)
        rotate_left
        ·rw [if_neg c36] at H
         have c36b0 : decide (x5_3 < (((rd_T33 l0 x4_2).f2).length : Int)) = false := decide_eq_false c36
         clear c36
         have H' := AM_ H
         clear H
         have p206 : 0 ≤ (x4_2 : Int) := DT
         have q206 : x4_2 < (l0.length : Int) := DT
         obtain ⟨ad206, A206_2, c206_2, A206_3, c206_3, e206, hx206_0, hx206_1, hx206_2, hx206_3, hl206_2, hi206_2, hl206_3, hi206_3⟩ := at_T33 HR0.out x4_2 p206 q206
         cases e206
         replace hx206_0 := BC HB.out hx206_0
         replace hx206_1 := BC HB.out hx206_1
         replace hx206_2 := BC HB.out hx206_2
         replace hx206_3 := BC HB.out hx206_3
         have HR206_2 := AM_ hi206_2
         have HC206_2 := AM_ hl206_2
         clear hi206_2 hl206_2
         have HR206_3 := AM_ hi206_3
         have HC206_3 := AM_ hl206_3
         clear hi206_3 hl206_3
         replace p206 := eq_true p206
         replace q206 := eq_true q206
         go_wp2
         go_roundg k3
         case measure => have := HK1.out; have := HK2.out; have := HK3.out; omega
         case rel => exact ⟨(wrap64 (x4_2 + 1)), (by first | rfl | (simp; done) | (simp [*]; done)), H', ⟨by have := HK1.out; have := HK2.out; have := HK3.out; omega⟩, ⟨BT HB.out⟩⟩
        rw [if_pos c36] at H
        have c36b0 : decide (x5_3 < (((rd_T33 l0 x4_2).f2).length : Int)) = true := decide_eq_true c36
        clear c36
        replace H := HI H
        obtain ⟨c37, H⟩ := H
        have c37b0 : decide (0 ≤ x5_3) = true := decide_eq_true c37
        clear c37
        replace H := Option.bind_eq_some_iff.mp H
        obtain ⟨t209, A380, H⟩ := H
        replace H : (if t209 = ((rd_T33 l0 x4_2).f0) then (spec_IsHistory.j5 k3 l0 x4_2 x5_3 true) else (if ((rd_T48 ((rd_T33 l0 x4_2).f2) x5_3).f1) > 0 then (spec_IsHistory.j5 k3 l0 x4_2 x5_3 (t209 == 0)) else (spec_IsHistory.j5 k3 l0 x4_2 x5_3 false))) = some r := H
        have A38 := AM_ A380
        clear A380
        have HC39 := AM_ H
        clear H
        have p206 : 0 ≤ (x4_2 : Int) := DT
        have q206 : x4_2 < (l0.length : Int) := DT
        obtain ⟨ad206, A206_2, c206_2, A206_3, c206_3, e206, hx206_0, hx206_1, hx206_2, hx206_3, hl206_2, hi206_2, hl206_3, hi206_3⟩ := at_T33 HR0.out x4_2 p206 q206
        cases e206
        replace hx206_0 := BC HB.out hx206_0
        replace hx206_1 := BC HB.out hx206_1
        replace hx206_2 := BC HB.out hx206_2
        replace hx206_3 := BC HB.out hx206_3
        have HR206_2 := AM_ hi206_2
        have HC206_2 := AM_ hl206_2
        clear hi206_2 hl206_2
        have HR206_3 := AM_ hi206_3
        have HC206_3 := AM_ hl206_3
        clear hi206_3 hl206_3
        replace p206 := eq_true p206
        replace q206 := eq_true q206
        have p207 : 0 ≤ (x4_2 : Int) := DT
        have q207 : x4_2 < (l0.length : Int) := DT
        obtain ⟨ad207, A207_2, c207_2, A207_3, c207_3, e207, hx207_0, hx207_1, hx207_2, hx207_3, hl207_2, hi207_2, hl207_3, hi207_3⟩ := at_T33 HR0.out x4_2 p207 q207
        obtain rfl : ad206 = ad207 := (by injection e207)
        replace hx207_0 := BC HB.out hx207_0
        replace hx207_1 := BC HB.out hx207_1
        replace hx207_2 := BC HB.out hx207_2
        replace hx207_3 := BC HB.out hx207_3
        have HR207_2 := AM_ hi207_2
        have HC207_2 := AM_ hl207_2
        clear hi207_2 hl207_2
        have HR207_3 := AM_ hi207_3
        have HC207_3 := AM_ hl207_3
        clear hi207_3 hl207_3
        replace p207 := eq_true p207
        replace q207 := eq_true q207
        have ea_ := Option.some.inj (hx206_2.symm.trans hx207_2)
        injection ea_ with ea_ en_ ec_
        subst ea_
        subst ec_
        clear en_
        have ea_ := Option.some.inj (hx206_3.symm.trans hx207_3)
        injection ea_ with ea_ en_ ec_
        subst ea_
        subst ec_
        clear en_
        have p208 : 0 ≤ (x5_3 : Int) := DT
        have q208 : x5_3 < (((rd_T33 l0 x4_2).f2).length : Int) := DT
        obtain ⟨ad208, e208, hx208_0, hx208_1⟩ := at_T48 HR207_2.out x5_3 p208 q208
        cases e208
        replace hx208_0 := BC HB.out hx208_0
        replace hx208_1 := BC HB.out hx208_1
        replace p208 := eq_true p208
        replace q208 := eq_true q208
        go_upto_region 15 with (first | ((with_reducible refine gate_callee (f := 42) rfl ?_); refine goesL_ (some 96) rfl rfl Tryz.func42 (by kernel_rfl) rfl #[.slice (some ad206) l0.length c0, .agg #[.int .i64 ((rd_T48 ((rd_T33 l0 x4_2).f2) x5_3).f0), .int .i64 ((rd_T48 ((rd_T33 l0 x4_2).f2) x5_3).f1)]] rfl (by (try simp only [List.map_toArray, List.map_cons, List.map_nil]); first | done | rfl | (simp only [List.length_drop, List.length_take]; rfl)) ?_; (with_reducible refine (spec_WriterOf.calls k3 _ _ l0 ((rd_T48 ((rd_T33 l0 x4_2).f2) x5_3).f0) ((rd_T48 ((rd_T33 l0 x4_2).f2) x5_3).f1) t209 _ ?side1 ?side2 A38.out).mono ?_); (case side1 => exact CB HR0.out HB.out); (case side2 => exact HC0.out); rintro e w40 ⟨rfl, hb⟩; refine ⟨_, rfl, ?_⟩; replace HB := AM_ (below_step (BT HB.out) hb); (try clear hb); (try clear hb2); (try clear hk); (try clear hi)))
        (try simp only [pA, pS, pZ, pK])
        go_cut [119] (fun v119 wc => ∃ (kq : Nat) (x119_38 : Bool), v119 = .bool x119_38 ∧ Aside0 (spec_IsHistory.j5 kq l0 x4_2 x5_3 x119_38 = some r) ∧ Aside0 (kq ≤ k3) ∧ Aside0 (Below w.heap.size w wc))
        case first =>
         have H := HC39.out
         clear HC39
         by_cases c41 : t209 = ((rd_T33 l0 x4_2).f0)
         ·rw [if_pos c41] at H
          have c41b0 : (t209 == ((rd_T33 l0 x4_2).f0)) = true := beq_iff_eq.mpr c41
          have c41b1 : (t209 != ((rd_T33 l0 x4_2).f0)) = false := bne_eq_false_iff_eq.mpr c41
          clear c41
          (first | rw [c41b0] | (simp only [i64_w, i32_w]; rw [c41b0]) | skip)
          have H' := AM_ H
          clear H
          have p210 : 0 ≤ (x4_2 : Int) := DT
          have q210 : x4_2 < (l0.length : Int) := DT
          obtain ⟨ad210, A210_2, c210_2, A210_3, c210_3, e210, hx210_0, hx210_1, hx210_2, hx210_3, hl210_2, hi210_2, hl210_3, hi210_3⟩ := at_T33 HR0.out x4_2 p210 q210
          obtain rfl : ad206 = ad210 := (by injection e210)
          replace hx210_0 := BC HB.out hx210_0
          replace hx210_1 := BC HB.out hx210_1
          replace hx210_2 := BC HB.out hx210_2
          replace hx210_3 := BC HB.out hx210_3
          have HR210_2 := AM_ hi210_2
          have HC210_2 := AM_ hl210_2
          clear hi210_2 hl210_2
          have HR210_3 := AM_ hi210_3
          have HC210_3 := AM_ hl210_3
          clear hi210_3 hl210_3
          replace p210 := eq_true p210
          replace q210 := eq_true q210
          go_wp2
          go_meet
          case rel => exact ⟨_, (true), (by first | rfl | (simp; done) | (simp [*]; done)), H', ⟨by have := HK1.out; have := HK2.out; have := HK3.out; first | omega | exact Nat.le_refl _⟩, ⟨BT HB.out⟩⟩
         rw [if_neg c41] at H
         have c41b0 : (t209 == ((rd_T33 l0 x4_2).f0)) = false := beq_eq_false_iff_ne.mpr c41
         have c41b1 : (t209 != ((rd_T33 l0 x4_2).f0)) = true := bne_iff_ne.mpr c41
         (first | rw [c41b0] | (simp only [i64_w, i32_w]; rw [c41b0]) | skip)
         by_cases c42 : ((rd_T48 ((rd_T33 l0 x4_2).f2) x5_3).f1) > 0
         rotate_left
         ·rw [if_neg c42] at H
          have c42b0 : decide (0 < ((rd_T48 ((rd_T33 l0 x4_2).f2) x5_3).f1)) = false := decide_eq_false c42
          clear c42
          have H' := AM_ H
          clear H
          have p210 : 0 ≤ (x4_2 : Int) := DT
          have q210 : x4_2 < (l0.length : Int) := DT
          obtain ⟨ad210, A210_2, c210_2, A210_3, c210_3, e210, hx210_0, hx210_1, hx210_2, hx210_3, hl210_2, hi210_2, hl210_3, hi210_3⟩ := at_T33 HR0.out x4_2 p210 q210
          obtain rfl : ad206 = ad210 := (by injection e210)
          replace hx210_0 := BC HB.out hx210_0
          replace hx210_1 := BC HB.out hx210_1
          replace hx210_2 := BC HB.out hx210_2
          replace hx210_3 := BC HB.out hx210_3
          have HR210_2 := AM_ hi210_2
          have HC210_2 := AM_ hl210_2
          clear hi210_2 hl210_2
          have HR210_3 := AM_ hi210_3
          have HC210_3 := AM_ hl210_3
          clear hi210_3 hl210_3
          replace p210 := eq_true p210
          replace q210 := eq_true q210
          have p211 : 0 ≤ (x4_2 : Int) := DT
          have q211 : x4_2 < (l0.length : Int) := DT
          obtain ⟨ad211, A211_2, c211_2, A211_3, c211_3, e211, hx211_0, hx211_1, hx211_2, hx211_3, hl211_2, hi211_2, hl211_3, hi211_3⟩ := at_T33 HR0.out x4_2 p211 q211
          obtain rfl : ad206 = ad211 := (by injection e211)
          replace hx211_0 := BC HB.out hx211_0
          replace hx211_1 := BC HB.out hx211_1
          replace hx211_2 := BC HB.out hx211_2
          replace hx211_3 := BC HB.out hx211_3
          have HR211_2 := AM_ hi211_2
          have HC211_2 := AM_ hl211_2
          clear hi211_2 hl211_2
          have HR211_3 := AM_ hi211_3
          have HC211_3 := AM_ hl211_3
          clear hi211_3 hl211_3
          replace p211 := eq_true p211
          replace q211 := eq_true q211
          have ea_ := Option.some.inj (hx210_2.symm.trans hx211_2)
          injection ea_ with ea_ en_ ec_
          subst ea_
          subst ec_
          clear en_
          have ea_ := Option.some.inj (hx210_3.symm.trans hx211_3)
          injection ea_ with ea_ en_ ec_
          subst ea_
          subst ec_
          clear en_
          have p212 : 0 ≤ (x5_3 : Int) := DT
          have q212 : x5_3 < (((rd_T33 l0 x4_2).f2).length : Int) := DT
          obtain ⟨ad212, e212, hx212_0, hx212_1⟩ := at_T48 HR211_2.out x5_3 p212 q212
          cases e212
          replace hx212_0 := BC HB.out hx212_0
          replace hx212_1 := BC HB.out hx212_1
          replace p212 := eq_true p212
          replace q212 := eq_true q212
          go_wp2
          go_meet
          case rel => exact ⟨_, (false), (by first | rfl | (simp; done) | (simp [*]; done)), H', ⟨by have := HK1.out; have := HK2.out; have := HK3.out; first | omega | exact Nat.le_refl _⟩, ⟨BT HB.out⟩⟩
         rw [if_pos c42] at H
         have c42b0 : decide (0 < ((rd_T48 ((rd_T33 l0 x4_2).f2) x5_3).f1)) = true := decide_eq_true c42
         clear c42
         have H' := AM_ H
         clear H
         have p210 : 0 ≤ (x4_2 : Int) := DT
         have q210 : x4_2 < (l0.length : Int) := DT
         obtain ⟨ad210, A210_2, c210_2, A210_3, c210_3, e210, hx210_0, hx210_1, hx210_2, hx210_3, hl210_2, hi210_2, hl210_3, hi210_3⟩ := at_T33 HR0.out x4_2 p210 q210
         obtain rfl : ad206 = ad210 := (by injection e210)
         replace hx210_0 := BC HB.out hx210_0
         replace hx210_1 := BC HB.out hx210_1
         replace hx210_2 := BC HB.out hx210_2
         replace hx210_3 := BC HB.out hx210_3
         have HR210_2 := AM_ hi210_2
         have HC210_2 := AM_ hl210_2
         clear hi210_2 hl210_2
         have HR210_3 := AM_ hi210_3
         have HC210_3 := AM_ hl210_3
         clear hi210_3 hl210_3
         replace p210 := eq_true p210
         replace q210 := eq_true q210
         have p211 : 0 ≤ (x4_2 : Int) := DT
         have q211 : x4_2 < (l0.length : Int) := DT
         obtain ⟨ad211, A211_2, c211_2, A211_3, c211_3, e211, hx211_0, hx211_1, hx211_2, hx211_3, hl211_2, hi211_2, hl211_3, hi211_3⟩ := at_T33 HR0.out x4_2 p211 q211
         obtain rfl : ad206 = ad211 := (by injection e211)
         replace hx211_0 := BC HB.out hx211_0
         replace hx211_1 := BC HB.out hx211_1
         replace hx211_2 := BC HB.out hx211_2
         replace hx211_3 := BC HB.out hx211_3
         have HR211_2 := AM_ hi211_2
         have HC211_2 := AM_ hl211_2
         clear hi211_2 hl211_2
         have HR211_3 := AM_ hi211_3
         have HC211_3 := AM_ hl211_3
         clear hi211_3 hl211_3
         replace p211 := eq_true p211
         replace q211 := eq_true q211
         have ea_ := Option.some.inj (hx210_2.symm.trans hx211_2)
         injection ea_ with ea_ en_ ec_
         subst ea_
         subst ec_
         clear en_
         have ea_ := Option.some.inj (hx210_3.symm.trans hx211_3)
         injection ea_ with ea_ en_ ec_
         subst ea_
         subst ec_
         clear en_
         have p212 : 0 ≤ (x5_3 : Int) := DT
         have q212 : x5_3 < (((rd_T33 l0 x4_2).f2).length : Int) := DT
         obtain ⟨ad212, e212, hx212_0, hx212_1⟩ := at_T48 HR211_2.out x5_3 p212 q212
         cases e212
         replace hx212_0 := BC HB.out hx212_0
         replace hx212_1 := BC HB.out hx212_1
         replace p212 := eq_true p212
         replace q212 := eq_true q212
         go_wp2
         go_meet
         case rel => exact ⟨_, ((t209 == 0)), (by first | rfl | (simp; done) | (simp [*]; done)), H', ⟨by have := HK1.out; have := HK2.out; have := HK3.out; first | omega | exact Nat.le_refl _⟩, ⟨BT HB.out⟩⟩
        case rest =>
         clear HC39
         try clear c2
         try clear c2b0
         try clear p2
         try clear q2
         try clear hx2
         try clear c3
         try clear c4
         try clear p6
         try clear c20
         try clear c20b0
         try clear p20
         try clear q20
         try clear hx20
         try clear c21
         try clear p21
         try clear q21
         try clear hx21
         try clear c22
         try clear c23
         try clear c24
         try clear c25
         try clear c28
         try clear c28b0
         try clear c28b1
         try clear c32
         try clear c33
         try clear c33b0
         try clear c34
         try clear c34b0
         try clear c35
         try clear c35b0
         try clear c36
         try clear c36b0
         try clear c37
         try clear c37b0
         try clear c41
         try clear c41b0
         try clear c41b1
         try clear c42
         try clear c42b0
         try clear hx201_0
         try clear hx201_1
         try clear hx201_2
         try clear hx201_3
         try clear hx202_0
         try clear hx202_1
         try clear hx202_2
         try clear hx202_3
         try clear hx203_0
         try clear hx203_1
         try clear hx203_2
         try clear hx203_3
         try clear hx204_0
         try clear hx204_1
         try clear hx204_2
         try clear hx204_3
         try clear hx206_0
         try clear hx206_1
         try clear hx206_2
         try clear hx206_3
         try clear hx207_0
         try clear hx207_1
         try clear hx207_2
         try clear hx207_3
         try clear hx208_0
         try clear hx208_1
         try clear hx210_0
         try clear hx210_1
         try clear hx210_2
         try clear hx210_3
         try clear hx211_0
         try clear hx211_1
         try clear hx211_2
         try clear hx211_3
         try clear hx212_0
         try clear hx212_1
         try clear p201
         try clear p202
         try clear p203
         try clear p204
         try clear p206
         try clear p207
         try clear p208
         try clear p210
         try clear p211
         try clear p212
         try clear q201
         try clear q202
         try clear q203
         try clear q204
         try clear q206
         try clear q207
         try clear q208
         try clear q210
         try clear q211
         try clear q212
         obtain ⟨kq, x119_38, rfl, HA, HJ38, HB⟩ := hcut
         cases kq with
         | zero => exact absurd HA.out (by simp [spec_IsHistory.j5])
         | succ kj38 =>
          have H := HA.out
          clear HA
          simp only [spec_IsHistory.j5] at H
          by_cases c43 : x119_38 = true
          ·subst c43
           have H1 : (some false) = some r := by rw [if_pos rfl] at H; exact H
           clear H
           have H := H1
           clear H1
           obtain rfl := Option.some.inj H
           go_wp2
           go_ret
           exact QT (BT HB.out)
          replace c43 := Bool.eq_false_iff.mpr c43
          subst c43
          have H1 : (spec_IsHistory.l2 kj38 l0 x4_2 (wrap64 (x5_3 + 1))) = some r := by rw [if_neg (show ¬ (false = true) by decide)] at H; exact H
          clear H
          have H := H1
          clear H1
          have H' := AM_ H
          clear H
          go_wp2
          go_roundg kj38
          case measure => have := HK1.out; have := HK2.out; have := HK3.out; have := HJ38.out; omega
          case rel => exact ⟨(wrap64 (x5_3 + 1)), (by first | rfl | (simp; done) | (simp [*]; done)), H', ⟨by have := HK1.out; have := HK2.out; have := HK3.out; have := HJ38.out; omega⟩, ⟨BT HB.out⟩⟩
   rw [if_pos c2] at H
   have c2b0 : decide (x3_1 < (l0.length : Int)) = true := decide_eq_true c2
   clear c2
   have HC3 := AM_ H
   clear H
   go_upto_region 4 with (fail)
   go_cut [31] (fun v31 wc => ∃ (kq : Nat) (x31_2 : Bool), v31 = .bool x31_2 ∧ Aside0 (spec_IsHistory.j1 kq l0 x3_1 x31_2 = some r) ∧ Aside0 (kq ≤ k1) ∧ Aside0 (Below w.heap.size w wc))
   case first =>
    have H := HC3.out
    clear HC3
    replace H := HI H
    obtain ⟨c4, H⟩ := H
    have c4b0 : decide (0 ≤ x3_1) = true := decide_eq_true c4
    clear c4
    (first | rw [c4b0] | (simp only [i64_w, i32_w]; rw [c4b0]) | skip)
    replace H := Option.bind_eq_some_iff.mp H
    obtain ⟨⟨t181, t182, t183, t184, t185, t186, t187⟩, A50, H⟩ := H
    replace H : ((spec_IsValidTransaction.f k1 t181 t182 t183 t184 t185 t186 t187 ((rd_T33 l0 x3_1).f2) ((rd_T33 l0 x3_1).f3)).bind fun t194 => (if t194 = true then (if x3_1 ≤ (l0.length : Int) then ((spec_FindEntry.f k1 (l0.take (x3_1 : Int).toNat) ((rd_T33 l0 x3_1).f0)).bind fun t200 => (spec_IsHistory.j1 k1 l0 x3_1 (decide (t200 ≥ 0)))) else (none)) else (spec_IsHistory.j1 k1 l0 x3_1 true))) = some r := H
    have A5 := AM_ A50
    clear A50
    replace H := Option.bind_eq_some_iff.mp H
    obtain ⟨t194, A60, H⟩ := H
    replace H : (if t194 = true then (if x3_1 ≤ (l0.length : Int) then ((spec_FindEntry.f k1 (l0.take (x3_1 : Int).toNat) ((rd_T33 l0 x3_1).f0)).bind fun t200 => (spec_IsHistory.j1 k1 l0 x3_1 (decide (t200 ≥ 0)))) else (none)) else (spec_IsHistory.j1 k1 l0 x3_1 true)) = some r := H
    have A6 := AM_ A60
    clear A60
    by_cases c7 : t194 = true
    rotate_left
    ·replace c7 := Bool.eq_false_iff.mpr c7
     subst c7
     have H1 : (spec_IsHistory.j1 k1 l0 x3_1 true) = some r := by rw [if_neg (show ¬ (false = true) by decide)] at H; exact H
     clear H
     have H := H1
     clear H1
     have H' := AM_ H
     clear H
     try go_wp2
     replace HB := AM_ (below_drew1 HB.out)
     have p180 : 0 ≤ (x3_1 : Int) := DT
     have q180 : x3_1 < (l0.length : Int) := DT
     obtain ⟨ad180, A180_2, c180_2, A180_3, c180_3, e180, hx180_0, hx180_1, hx180_2, hx180_3, hl180_2, hi180_2, hl180_3, hi180_3⟩ := at_T33 HR0.out x3_1 p180 q180
     have hw180_3 := hx180_3
     have hw180_2 := hx180_2
     have hw180_1 := hx180_1
     have hw180_0 := hx180_0
     cases e180
     replace hx180_0 := BC HB.out hx180_0
     replace hx180_1 := BC HB.out hx180_1
     replace hx180_2 := BC HB.out hx180_2
     replace hx180_3 := BC HB.out hx180_3
     have HR180_2 := AM_ hi180_2
     have HC180_2 := AM_ hl180_2
     clear hi180_2 hl180_2
     have HR180_3 := AM_ hi180_3
     have HC180_3 := AM_ hl180_3
     clear hi180_3 hl180_3
     replace p180 := eq_true p180
     replace q180 := eq_true q180
     refine start_ (n := 19) (S := fun w' => w'.cell? (ad180.add ((x3_1).toNat * 4)) = some (.int .i64 ((rd_T33 l0 x3_1).f0)) ∧ w'.cell? ⟨(ad180.add ((x3_1).toNat * 4)).block, (ad180.add ((x3_1).toNat * 4)).off + 1, none⟩ = some (.int .i64 ((rd_T33 l0 x3_1).f1)) ∧ w'.cell? ⟨(ad180.add ((x3_1).toNat * 4)).block, (ad180.add ((x3_1).toNat * 4)).off + 2, none⟩ = some (.slice A180_2 ((rd_T33 l0 x3_1).f2).length c180_2) ∧ w'.cell? ⟨(ad180.add ((x3_1).toNat * 4)).block, (ad180.add ((x3_1).toNat * 4)).off + 3, none⟩ = some (.slice A180_3 ((rd_T33 l0 x3_1).f3).length c180_3)) (ds := []) (bs 0 19) (by kernel_rfl) rfl rfl ⟨(BD HB.out hw180_0), (BD HB.out hw180_1), (BD HB.out hw180_2), (BD HB.out hw180_3)⟩ (fun hHeld => ?_); refine with_tabW spec_IsHistory.tab4 spec_IsHistory.bits4 (fun HT_ HW_ => ?_)
     generalize wr.drew = w15 at HB HR180_2 HR180_3 hx180_0 hx180_1 hx180_2 hx180_3 hHeld ⊢
     refine pu (i := 0) (N := some 13) (v := ?_) (a' := ?_) (bs 1 19) rfl rfl HT_ ?_ ?_ ?_
     rotate_left
     ·intro w'
      go_simp
      with_reducible rfl
     rotate_left
     ·simp only[pA,pS,pZ,pK,pV]
      rfl
     refine pu (i := 1) (N := some 14) (v := ?_) (a' := ?_) (bs 3 19) rfl rfl HT_ ?_ ?_ ?_
     rotate_left
     ·intro w'
      go_simp
      with_reducible rfl
     rotate_left
     ·simp only[pA,pS,pZ,pK,pV]
      rfl
     refine pu (i := 2) (N := some 15) (v := ?_) (a' := ?_) (bs 7 19) rfl rfl HT_ ?_ ?_ ?_
     rotate_left
     ·intro w'
      go_simp
      with_reducible rfl
     rotate_left
     ·simp only[pA,pS,pZ,pK,pV]
      rfl
     refine tk (i := 3) (N := some 16) (v := ?_) (a' := ?_) (bs 15 19) rfl rfl HT_ HW_ ?_ hHeld ?_ ?_
     rotate_left
     ·rintro w' ⟨s0, s1, s2, s3⟩
      go_simp
      with_reducible rfl
     rotate_left
     ·simp only[pA,pS,pZ,pK,pV]
      rfl
     refine one_ (i := 4) (N := some 17) (bs 31 19) rfl rfl (one_of HT_.out (by kernel_rfl)) (by decide) (fun K hK => ?_)
     refine goes_ Tryz.func40 (by kernel_rfl) rfl #[.agg #[.int .i64 ((rd_T33 l0 x3_1).f0), .int .i64 ((rd_T33 l0 x3_1).f1), .slice A180_2 ((rd_T33 l0 x3_1).f2).length c180_2, .slice A180_3 ((rd_T33 l0 x3_1).f3).length c180_3]] (by rfl) rfl rfl (by (try simp only [List.map_toArray, List.map_cons, List.map_nil]); first | done | rfl | (simp only [List.length_drop, List.length_take]; rfl)) ?_
     with_reducible refine (spec_l18Tx.calls ((rd_T33 l0 x3_1).f0) ((rd_T33 l0 x3_1).f1) _ _ ((rd_T33 l0 x3_1).f2) _ _ ((rd_T33 l0 x3_1).f3) t181 t182 t183 t184 t185 t186 t187 _ ?side1 ?side2 ?side3 ?side4 A5.out).mono ?_
     (case side1 => exact CB HR180_2.out HB.out)
     (case side2 => exact HC180_2.out)
     (case side3 => exact CB HR180_3.out HB.out)
     (case side4 => exact HC180_3.out)
     rintro e w16 ⟨rfl, hb⟩
     refine ⟨_, rfl, ?_⟩
     replace HB := AM_ (below_step (BT HB.out) hb)
     (try clear hb)
     (try clear hb2)
     (try clear hk)
     (try clear hi)
     refine hK.out _ _ ⟨(BD HB.out hw180_0), (BD HB.out hw180_1), (BD HB.out hw180_2), (BD HB.out hw180_3)⟩ (fun hHeld => ?_)
     clear hK K
     refine norm_ (a' := ?_) ?_ ?_
     rotate_left
     ·show Act.put _ (some 17) _ = _
      simp only[pA,pS,pZ,pK,pV]
      rfl
     refine one_ (i := 5) (N := some 18) (bs 63 19) rfl rfl (one_of HT_.out (by kernel_rfl)) (by decide) (fun K hK => ?_)
     refine goes_ Tryz.func39 (by kernel_rfl) rfl #[.agg #[.int .i64 t181, .int .i64 t182, .int .i64 t183, .int .i64 t184, .int .i64 t185, .int .i64 t186, .int .i64 t187, .slice A180_2 ((rd_T33 l0 x3_1).f2).length c180_2, .slice A180_3 ((rd_T33 l0 x3_1).f3).length c180_3]] (by rfl) rfl rfl (by (try simp only [List.map_toArray, List.map_cons, List.map_nil]); first | done | rfl | (simp only [List.length_drop, List.length_take]; rfl)) ?_
     with_reducible refine (spec_IsValidTransaction.calls k1 t181 t182 t183 t184 t185 t186 t187 _ _ ((rd_T33 l0 x3_1).f2) _ _ ((rd_T33 l0 x3_1).f3) false _ ?side1 ?side2 ?side3 ?side4 A6.out).mono ?_
     (case side1 => exact CB HR180_2.out HB.out)
     (case side2 => exact HC180_2.out)
     (case side3 => exact CB HR180_3.out HB.out)
     (case side4 => exact HC180_3.out)
     rintro e w17 ⟨rfl, hb⟩
     refine ⟨_, rfl, ?_⟩
     replace HB := AM_ (below_step (BT HB.out) hb)
     (try clear hb)
     (try clear hb2)
     (try clear hk)
     (try clear hi)
     refine hK.out _ _ ⟨(BD HB.out hw180_0), (BD HB.out hw180_1), (BD HB.out hw180_2), (BD HB.out hw180_3)⟩ (fun hHeld => ?_)
     clear hK K
     refine norm_ (a' := ?_) ?_ ?_
     rotate_left
     ·show Act.put _ (some 18) _ = _
      simp only[pA,pS,pZ,pK,pV]
      rfl
     refine pu (i := 6) (N := some 19) (v := ?_) (a' := ?_) (bs 127 19) rfl rfl HT_ ?_ ?_ ?_
     rotate_left
     ·intro w'
      go_simp
      with_reducible rfl
     rotate_left
     ·simp only[pA,pS,pZ,pK,pV]
      rfl
     refine pu (i := 7) (N := some 20) (v := ?_) (a' := ?_) (bs 255 19) rfl rfl HT_ ?_ ?_ ?_
     rotate_left
     ·intro w'
      go_simp
      with_reducible rfl
     rotate_left
     ·simp only[pA,pS,pZ,pK,pV]
      rfl
     refine pn (i := 8) (N := some 21) (v := undef) (a' := ?_) (bs 511 19) rfl rfl HT_ ?_ ?_
     rotate_left
     ·simp only[pA,pS,pZ,pK,pV]
      rfl
     refine pn (i := 9) (N := some 22) (v := undef) (a' := ?_) (bs 1023 19) rfl rfl HT_ ?_ ?_
     rotate_left
     ·simp only[pA,pS,pZ,pK,pV]
      rfl
     refine pn (i := 10) (N := some 23) (v := undef) (a' := ?_) (bs 2047 19) rfl rfl HT_ ?_ ?_
     rotate_left
     ·simp only[pA,pS,pZ,pK,pV]
      rfl
     refine pn (i := 11) (N := some 24) (v := undef) (a' := ?_) (bs 4095 19) rfl rfl HT_ ?_ ?_
     rotate_left
     ·simp only[pA,pS,pZ,pK,pV]
      rfl
     refine pn (i := 12) (N := some 25) (v := undef) (a' := ?_) (bs 8191 19) rfl rfl HT_ ?_ ?_
     rotate_left
     ·simp only[pA,pS,pZ,pK,pV]
      rfl
     refine pn (i := 13) (N := some 26) (v := undef) (a' := ?_) (bs 16383 19) rfl rfl HT_ ?_ ?_
     rotate_left
     ·simp only[pA,pS,pZ,pK,pV]
      rfl
     refine pn (i := 14) (N := some 27) (v := undef) (a' := ?_) (bs 32767 19) rfl rfl HT_ ?_ ?_
     rotate_left
     ·simp only[pA,pS,pZ,pK,pV]
      rfl
     refine pn (i := 15) (N := some 28) (v := undef) (a' := ?_) (bs 65535 19) rfl rfl HT_ ?_ ?_
     rotate_left
     ·simp only[pA,pS,pZ,pK,pV]
      rfl
     refine pn (i := 16) (N := some 29) (v := undef) (a' := ?_) (bs 131071 19) rfl rfl HT_ ?_ ?_
     rotate_left
     ·simp only[pA,pS,pZ,pK,pV]
      rfl
     refine pn (i := 17) (N := some 30) (v := undef) (a' := ?_) (bs 262143 19) rfl rfl HT_ ?_ ?_
     rotate_left
     ·simp only[pA,pS,pZ,pK,pV]
      rfl
     refine pu (i := 18) (N := some 31) (v := ?_) (a' := ?_) (bs 524287 19) rfl rfl HT_ ?_ ?_ ?_
     rotate_left
     ·intro w'
      go_simp
      with_reducible rfl
     rotate_left
     ·simp only[pA,pS,pZ,pK,pV]
      rfl
     refine done_ (done_of HT_.out (by kernel_rfl)) ?_
     try go_wp2
     go_meet
     case rel => exact ⟨_, (true), (by first | rfl | (simp; done) | (simp [*]; done)), H', ⟨by have := HK1.out; first | omega | exact Nat.le_refl _⟩, ⟨BT HB.out⟩⟩
    subst c7
    have H1 : (if x3_1 ≤ (l0.length : Int) then ((spec_FindEntry.f k1 (l0.take (x3_1 : Int).toNat) ((rd_T33 l0 x3_1).f0)).bind fun t200 => (spec_IsHistory.j1 k1 l0 x3_1 (decide (t200 ≥ 0)))) else (none)) = some r := by rw [if_pos rfl] at H; exact H
    clear H
    have H := H1
    clear H1
    have c8b0 := eq_true (DT : 0 ≤ x3_1)
    replace H := HI H
    obtain ⟨c9, H⟩ := H
    have c9b0 := eq_true c9
    have c9b1 : decide (x3_1 ≤ (l0.length : Int)) = true := decide_eq_true c9
    clear c9
    obtain ⟨y195, hy195⟩ : ∃ y_ : List (S33), y_ = (l0.take (x3_1 : Int).toNat) := ⟨_, rfl⟩
    replace H : ((spec_FindEntry.f k1 y195 ((rd_T33 l0 x3_1).f0)).bind fun t200 => (spec_IsHistory.j1 k1 l0 x3_1 (decide (t200 ≥ 0)))) = some r := by first | (rw [hy195]; with_reducible exact H) | (have H2_ := (Option.bind_some _ _).symm.trans H; rw [hy195]; with_reducible exact H2_) | (have H2_ := (Option.bind_some _ _).symm.trans H; with_reducible exact H2_) | with_reducible exact H | (rw [hy195]; exact H) | exact H
    have Ny195 := AM_ hy195
    clear hy195
    replace H := Option.bind_eq_some_iff.mp H
    obtain ⟨t200, A100, H⟩ := H
    replace H : (spec_IsHistory.j1 k1 l0 x3_1 (decide (t200 ≥ 0))) = some r := H
    have A10 := AM_ A100
    clear A100
    have H' := AM_ H
    clear H
    try go_wp2
    replace HB := AM_ (below_drew1 HB.out)
    have p180 : 0 ≤ (x3_1 : Int) := DT
    have q180 : x3_1 < (l0.length : Int) := DT
    obtain ⟨ad180, A180_2, c180_2, A180_3, c180_3, e180, hx180_0, hx180_1, hx180_2, hx180_3, hl180_2, hi180_2, hl180_3, hi180_3⟩ := at_T33 HR0.out x3_1 p180 q180
    have hw180_3 := hx180_3
    have hw180_2 := hx180_2
    have hw180_1 := hx180_1
    have hw180_0 := hx180_0
    cases e180
    replace hx180_0 := BC HB.out hx180_0
    replace hx180_1 := BC HB.out hx180_1
    replace hx180_2 := BC HB.out hx180_2
    replace hx180_3 := BC HB.out hx180_3
    have HR180_2 := AM_ hi180_2
    have HC180_2 := AM_ hl180_2
    clear hi180_2 hl180_2
    have HR180_3 := AM_ hi180_3
    have HC180_3 := AM_ hl180_3
    clear hi180_3 hl180_3
    replace p180 := eq_true p180
    replace q180 := eq_true q180
    have p199 : 0 ≤ (x3_1 : Int) := DT
    have q199 : x3_1 < (l0.length : Int) := DT
    obtain ⟨ad199, A199_2, c199_2, A199_3, c199_3, e199, hx199_0, hx199_1, hx199_2, hx199_3, hl199_2, hi199_2, hl199_3, hi199_3⟩ := at_T33 HR0.out x3_1 p199 q199
    have hw199_3 := hx199_3
    have hw199_2 := hx199_2
    have hw199_1 := hx199_1
    have hw199_0 := hx199_0
    obtain rfl : ad180 = ad199 := (by injection e199)
    replace hx199_0 := BC HB.out hx199_0
    replace hx199_1 := BC HB.out hx199_1
    replace hx199_2 := BC HB.out hx199_2
    replace hx199_3 := BC HB.out hx199_3
    have HR199_2 := AM_ hi199_2
    have HC199_2 := AM_ hl199_2
    clear hi199_2 hl199_2
    have HR199_3 := AM_ hi199_3
    have HC199_3 := AM_ hl199_3
    clear hi199_3 hl199_3
    replace p199 := eq_true p199
    replace q199 := eq_true q199
    refine start_ (n := 19) (S := fun w' => w'.cell? (ad180.add ((x3_1).toNat * 4)) = some (.int .i64 ((rd_T33 l0 x3_1).f0)) ∧ w'.cell? ⟨(ad180.add ((x3_1).toNat * 4)).block, (ad180.add ((x3_1).toNat * 4)).off + 1, none⟩ = some (.int .i64 ((rd_T33 l0 x3_1).f1)) ∧ w'.cell? ⟨(ad180.add ((x3_1).toNat * 4)).block, (ad180.add ((x3_1).toNat * 4)).off + 2, none⟩ = some (.slice A180_2 ((rd_T33 l0 x3_1).f2).length c180_2) ∧ w'.cell? ⟨(ad180.add ((x3_1).toNat * 4)).block, (ad180.add ((x3_1).toNat * 4)).off + 3, none⟩ = some (.slice A180_3 ((rd_T33 l0 x3_1).f3).length c180_3) ∧ w'.cell? (ad180.add ((x3_1).toNat * 4)) = some (.int .i64 ((rd_T33 l0 x3_1).f0)) ∧ w'.cell? ⟨(ad180.add ((x3_1).toNat * 4)).block, (ad180.add ((x3_1).toNat * 4)).off + 1, none⟩ = some (.int .i64 ((rd_T33 l0 x3_1).f1)) ∧ w'.cell? ⟨(ad180.add ((x3_1).toNat * 4)).block, (ad180.add ((x3_1).toNat * 4)).off + 2, none⟩ = some (.slice A199_2 ((rd_T33 l0 x3_1).f2).length c199_2) ∧ w'.cell? ⟨(ad180.add ((x3_1).toNat * 4)).block, (ad180.add ((x3_1).toNat * 4)).off + 3, none⟩ = some (.slice A199_3 ((rd_T33 l0 x3_1).f3).length c199_3)) (ds := []) (bs 0 19) (by kernel_rfl) rfl rfl ⟨(BD HB.out hw180_0), (BD HB.out hw180_1), (BD HB.out hw180_2), (BD HB.out hw180_3), (BD HB.out hw199_0), (BD HB.out hw199_1), (BD HB.out hw199_2), (BD HB.out hw199_3)⟩ (fun hHeld => ?_); refine with_tabW spec_IsHistory.tab4 spec_IsHistory.bits4 (fun HT_ HW_ => ?_)
    generalize wr.drew = w11 at HB HR180_2 HR180_3 HR199_2 HR199_3 hx180_0 hx180_1 hx180_2 hx180_3 hx199_0 hx199_1 hx199_2 hx199_3 hHeld ⊢
    refine pu (i := 0) (N := some 13) (v := ?_) (a' := ?_) (bs 1 19) rfl rfl HT_ ?_ ?_ ?_
    rotate_left
    ·intro w'
     go_simp
     with_reducible rfl
    rotate_left
    ·simp only[pA,pS,pZ,pK,pV]
     rfl
    refine pu (i := 1) (N := some 14) (v := ?_) (a' := ?_) (bs 3 19) rfl rfl HT_ ?_ ?_ ?_
    rotate_left
    ·intro w'
     go_simp
     with_reducible rfl
    rotate_left
    ·simp only[pA,pS,pZ,pK,pV]
     rfl
    refine pu (i := 2) (N := some 15) (v := ?_) (a' := ?_) (bs 7 19) rfl rfl HT_ ?_ ?_ ?_
    rotate_left
    ·intro w'
     go_simp
     with_reducible rfl
    rotate_left
    ·simp only[pA,pS,pZ,pK,pV]
     rfl
    refine tk (i := 3) (N := some 16) (v := ?_) (a' := ?_) (bs 15 19) rfl rfl HT_ HW_ ?_ hHeld ?_ ?_
    rotate_left
    ·rintro w' ⟨s0, s1, s2, s3, s4, s5, s6, s7⟩
     go_simp
     with_reducible rfl
    rotate_left
    ·simp only[pA,pS,pZ,pK,pV]
     rfl
    refine one_ (i := 4) (N := some 17) (bs 31 19) rfl rfl (one_of HT_.out (by kernel_rfl)) (by decide) (fun K hK => ?_)
    refine goes_ Tryz.func40 (by kernel_rfl) rfl #[.agg #[.int .i64 ((rd_T33 l0 x3_1).f0), .int .i64 ((rd_T33 l0 x3_1).f1), .slice A180_2 ((rd_T33 l0 x3_1).f2).length c180_2, .slice A180_3 ((rd_T33 l0 x3_1).f3).length c180_3]] (by rfl) rfl rfl (by (try simp only [List.map_toArray, List.map_cons, List.map_nil]); first | done | rfl | (simp only [List.length_drop, List.length_take]; rfl)) ?_
    with_reducible refine (spec_l18Tx.calls ((rd_T33 l0 x3_1).f0) ((rd_T33 l0 x3_1).f1) _ _ ((rd_T33 l0 x3_1).f2) _ _ ((rd_T33 l0 x3_1).f3) t181 t182 t183 t184 t185 t186 t187 _ ?side1 ?side2 ?side3 ?side4 A5.out).mono ?_
    (case side1 => exact CB HR180_2.out HB.out)
    (case side2 => exact HC180_2.out)
    (case side3 => exact CB HR180_3.out HB.out)
    (case side4 => exact HC180_3.out)
    rintro e w12 ⟨rfl, hb⟩
    refine ⟨_, rfl, ?_⟩
    replace HB := AM_ (below_step (BT HB.out) hb)
    (try clear hb)
    (try clear hb2)
    (try clear hk)
    (try clear hi)
    refine hK.out _ _ ⟨(BD HB.out hw180_0), (BD HB.out hw180_1), (BD HB.out hw180_2), (BD HB.out hw180_3), (BD HB.out hw199_0), (BD HB.out hw199_1), (BD HB.out hw199_2), (BD HB.out hw199_3)⟩ (fun hHeld => ?_)
    clear hK K
    refine norm_ (a' := ?_) ?_ ?_
    rotate_left
    ·show Act.put _ (some 17) _ = _
     simp only[pA,pS,pZ,pK,pV]
     rfl
    refine one_ (i := 5) (N := some 18) (bs 63 19) rfl rfl (one_of HT_.out (by kernel_rfl)) (by decide) (fun K hK => ?_)
    refine goes_ Tryz.func39 (by kernel_rfl) rfl #[.agg #[.int .i64 t181, .int .i64 t182, .int .i64 t183, .int .i64 t184, .int .i64 t185, .int .i64 t186, .int .i64 t187, .slice A180_2 ((rd_T33 l0 x3_1).f2).length c180_2, .slice A180_3 ((rd_T33 l0 x3_1).f3).length c180_3]] (by rfl) rfl rfl (by (try simp only [List.map_toArray, List.map_cons, List.map_nil]); first | done | rfl | (simp only [List.length_drop, List.length_take]; rfl)) ?_
    with_reducible refine (spec_IsValidTransaction.calls k1 t181 t182 t183 t184 t185 t186 t187 _ _ ((rd_T33 l0 x3_1).f2) _ _ ((rd_T33 l0 x3_1).f3) true _ ?side1 ?side2 ?side3 ?side4 A6.out).mono ?_
    (case side1 => exact CB HR180_2.out HB.out)
    (case side2 => exact HC180_2.out)
    (case side3 => exact CB HR180_3.out HB.out)
    (case side4 => exact HC180_3.out)
    rintro e w13 ⟨rfl, hb⟩
    refine ⟨_, rfl, ?_⟩
    replace HB := AM_ (below_step (BT HB.out) hb)
    (try clear hb)
    (try clear hb2)
    (try clear hk)
    (try clear hi)
    have q14 : (x3_1 : Int) ≤ ((l0.length : Int) : Int) := DT
    obtain ⟨i014, hi014, _, hsz14, _⟩ := info_parts info33
    have hroom14 : l0.length ≤ c0 := HC0.out
    have hC14 : Kd.C k33 _ (some ad180) l0.length l0 := HR0.out
    have hcut14 := cut_to (P := Tryz.prog) 22 33 .i64 Tryz.underlying22 hi014 (some ad180) l0.length c0 x3_1 (DT) q14 hroom14
    have hr14 := Kd.C_take (m := (x3_1 : Int).toNat) hC14 (by omega)
    have hy14 : y195.length = (x3_1 : Int).toNat := (by rw [Ny195.out, List.length_take]; omega)
    rw [← Ny195.out] at hr14
    rw [← hy14] at hcut14
    have HR198 := AM_ hr14
    have HC198 := AM_ (show y195.length ≤ c0 from by omega)
    clear hr14 hC14 hroom14 hi014 hsz14
    have KY14 := AM_ hy14
    clear hy14
    replace q14 := eq_true q14
    refine hK.out _ _ ⟨(BD HB.out hw180_0), (BD HB.out hw180_1), (BD HB.out hw180_2), (BD HB.out hw180_3), (BD HB.out hw199_0), (BD HB.out hw199_1), (BD HB.out hw199_2), (BD HB.out hw199_3)⟩ (fun hHeld => ?_)
    clear hK K
    refine norm_ (a' := ?_) ?_ ?_
    rotate_left
    ·show Act.put _ (some 18) _ = _
     simp only[pA,pS,pZ,pK,pV]
     rfl
    refine pu (i := 6) (N := some 19) (v := ?_) (a' := ?_) (bs 127 19) rfl rfl HT_ ?_ ?_ ?_
    rotate_left
    ·intro w'
     go_simp
     with_reducible rfl
    rotate_left
    ·simp only[pA,pS,pZ,pK,pV]
     rfl
    refine pu (i := 7) (N := some 20) (v := ?_) (a' := ?_) (bs 255 19) rfl rfl HT_ ?_ ?_ ?_
    rotate_left
    ·intro w'
     go_simp
     with_reducible rfl
    rotate_left
    ·simp only[pA,pS,pZ,pK,pV]
     rfl
    refine pu (i := 8) (N := some 21) (v := ?_) (a' := ?_) (bs 511 19) rfl rfl HT_ ?_ ?_ ?_
    rotate_left
    ·intro w'
     go_simp
     with_reducible rfl
    rotate_left
    ·simp only[pA,pS,pZ,pK,pV]
     rfl
    refine pu (i := 9) (N := some 22) (v := ?_) (a' := ?_) (bs 1023 19) rfl rfl HT_ ?_ ?_ ?_
    rotate_left
    ·intro w'
     go_simp
     with_reducible rfl
    rotate_left
    ·simp only[pA,pS,pZ,pK,pV]
     rfl
    refine pu (i := 10) (N := some 23) (v := ?_) (a' := ?_) (bs 2047 19) rfl rfl HT_ ?_ ?_ ?_
    rotate_left
    ·intro w'
     go_simp
     with_reducible rfl
    rotate_left
    ·simp only[pA,pS,pZ,pK,pV]
     rfl
    refine pu (i := 11) (N := some 24) (v := ?_) (a' := ?_) (bs 4095 19) rfl rfl HT_ ?_ ?_ ?_
    rotate_left
    ·intro w'
     go_simp
     with_reducible rfl
    rotate_left
    ·simp only[pA,pS,pZ,pK,pV]
     rfl
    refine pu (i := 12) (N := some 25) (v := ?_) (a' := ?_) (bs 8191 19) rfl rfl HT_ ?_ ?_ ?_
    rotate_left
    ·intro w'
     go_simp
     with_reducible rfl
    rotate_left
    ·simp only[pA,pS,pZ,pK,pV]
     rfl
    refine pu (i := 13) (N := some 26) (v := ?_) (a' := ?_) (bs 16383 19) rfl rfl HT_ ?_ ?_ ?_
    rotate_left
    ·intro w'
     go_simp
     with_reducible rfl
    rotate_left
    ·simp only[pA,pS,pZ,pK,pV]
     rfl
    refine pu (i := 14) (N := some 27) (v := ?_) (a' := ?_) (bs 32767 19) rfl rfl HT_ ?_ ?_ ?_
    rotate_left
    ·intro w'
     go_simp
     with_reducible rfl
    rotate_left
    ·simp only[pA,pS,pZ,pK,pV]
     rfl
    refine tk (i := 15) (N := some 28) (v := ?_) (a' := ?_) (bs 65535 19) rfl rfl HT_ HW_ ?_ hHeld ?_ ?_
    rotate_left
    ·rintro w' ⟨s0, s1, s2, s3, s4, s5, s6, s7⟩
     go_simp
     with_reducible rfl
    rotate_left
    ·simp only[pA,pS,pZ,pK,pV]
     rfl
    refine one_ (i := 16) (N := some 29) (bs 131071 19) rfl rfl (one_of HT_.out (by kernel_rfl)) (by decide) (fun K hK => ?_)
    refine goes_ Tryz.func41 (by kernel_rfl) rfl #[.slice (some ad180) y195.length c0, .int .i64 ((rd_T33 l0 x3_1).f0)] (by rfl) rfl rfl (by (try simp only [List.map_toArray, List.map_cons, List.map_nil]); first | done | rfl | (simp only [List.length_drop, List.length_take]; rfl)) ?_
    with_reducible refine (spec_FindEntry.calls k1 _ _ y195 ((rd_T33 l0 x3_1).f0) t200 _ ?side1 ?side2 A10.out).mono ?_
    (case side1 => exact CB HR198.out HB.out)
    (case side2 => exact HC198.out)
    rintro e w' ⟨rfl, ⟨nd, rfl⟩⟩
    refine ⟨_, rfl, ?_⟩
    refine hK.out _ _ ⟨(BD HB.out hw180_0), (BD HB.out hw180_1), (BD HB.out hw180_2), (BD HB.out hw180_3), (BD HB.out hw199_0), (BD HB.out hw199_1), (BD HB.out hw199_2), (BD HB.out hw199_3)⟩ (fun hHeld => ?_)
    clear hK K
    refine norm_ (a' := ?_) ?_ ?_
    rotate_left
    ·show Act.put _ (some 29) _ = _
     simp only[pA,pS,pZ,pK,pV]
     rfl
    refine pu (i := 17) (N := some 30) (v := ?_) (a' := ?_) (bs 262143 19) rfl rfl HT_ ?_ ?_ ?_
    rotate_left
    ·intro w'
     go_simp
     with_reducible rfl
    rotate_left
    ·simp only[pA,pS,pZ,pK,pV]
     rfl
    refine pu (i := 18) (N := some 31) (v := ?_) (a' := ?_) (bs 524287 19) rfl rfl HT_ ?_ ?_ ?_
    rotate_left
    ·intro w'
     go_simp
     with_reducible rfl
    rotate_left
    ·simp only[pA,pS,pZ,pK,pV]
     rfl
    refine done_ (done_of HT_.out (by kernel_rfl)) ?_
    try go_wp2
    go_meet
    case rel => exact ⟨_, (decide (t200 ≥ 0)), (by first | rfl | (simp; done) | (simp [*]; done)), H', ⟨by have := HK1.out; first | omega | exact Nat.le_refl _⟩, ⟨BT HB.out⟩⟩
   case rest =>
    clear HC3
    try clear c1
    try clear p1
    try clear q1
    try clear hx1
    try clear c2
    try clear c2b0
    try clear p2
    try clear c3
    try clear c4
    try clear c4b0
    try clear c7
    try clear c8
    try clear c8b0
    try clear c9
    try clear c9b0
    try clear c9b1
    try clear q14
    try clear hx180_0
    try clear hx180_1
    try clear hx180_2
    try clear hx180_3
    try clear hx199_0
    try clear hx199_1
    try clear hx199_2
    try clear hx199_3
    try clear p180
    try clear p199
    try clear q180
    try clear q199
    obtain ⟨kq, x31_2, rfl, HA, HJ2, HB⟩ := hcut
    cases kq with
    | zero => exact absurd HA.out (by simp [spec_IsHistory.j1])
    | succ kj2 =>
     have H := HA.out
     clear HA
     simp only [spec_IsHistory.j1] at H
     by_cases c18 : x31_2 = true
     ·subst c18
      have H1 : (some false) = some r := by rw [if_pos rfl] at H; exact H
      clear H
      have H := H1
      clear H1
      obtain rfl := Option.some.inj H
      go_wp2
      go_ret
      exact QT (BT HB.out)
     replace c18 := Bool.eq_false_iff.mpr c18
     subst c18
     have H1 : (if x3_1 > 0 then (if 0 ≤ (wrap64 (x3_1 - 1)) then (if (wrap64 (x3_1 - 1)) < (l0.length : Int) then (if 0 ≤ x3_1 then (if x3_1 < (l0.length : Int) then (if ((rd_T33 l0 (wrap64 (x3_1 - 1))).f1) > ((rd_T33 l0 x3_1).f1) then (spec_IsHistory.j2 kj2 l0 x3_1 true) else (if ((rd_T33 l0 (wrap64 (x3_1 - 1))).f1) = ((rd_T33 l0 x3_1).f1) then (spec_IsHistory.j2 kj2 l0 x3_1 (decide ((((rd_T33 l0 x3_1).f3).length : Int) > 0))) else (spec_IsHistory.j2 kj2 l0 x3_1 false))) else (none)) else (none)) else (none)) else (none)) else (spec_IsHistory.j2 kj2 l0 x3_1 false)) = some r := by rw [if_neg (show ¬ (false = true) by decide)] at H; exact H
     clear H
     have H := H1
     clear H1
     have HC19 := AM_ H
     clear H
     go_upto_region 6 with (fail)
     go_cut [70] (fun v70 wc => ∃ (kq : Nat) (x70_18 : Bool), v70 = .bool x70_18 ∧ Aside0 (spec_IsHistory.j2 kq l0 x3_1 x70_18 = some r) ∧ Aside0 (kq ≤ kj2) ∧ Aside0 (Below w.heap.size w wc))
     case first =>
      have H := HC19.out
      clear HC19
      by_cases c20 : x3_1 > 0
      rotate_left
      ·rw [if_neg c20] at H
       have c20b0 : decide (0 < x3_1) = false := decide_eq_false c20
       clear c20
       (first | rw [c20b0] | (simp only [i64_w, i32_w]; rw [c20b0]) | skip)
       have H' := AM_ H
       clear H
       try go_wp2
       replace HB := AM_ (below_drew1 HB.out)
       refine start_ (n := 39) (S := fun w' => True) (ds := []) (bs 0 39) (by kernel_rfl) rfl rfl trivial (fun hHeld => ?_); refine with_tabW spec_IsHistory.tab6 spec_IsHistory.bits6 (fun HT_ HW_ => ?_)
       generalize wc.drew = w31 at HB hHeld ⊢
       refine pu (i := 0) (N := some 32) (v := ?_) (a' := ?_) (bs 1 39) rfl rfl HT_ ?_ ?_ ?_
       rotate_left
       ·intro w'
        go_simp
        with_reducible rfl
       rotate_left
       ·simp only[pA,pS,pZ,pK,pV]
        rfl
       refine pu (i := 1) (N := some 33) (v := ?_) (a' := ?_) (bs 3 39) rfl rfl HT_ ?_ ?_ ?_
       rotate_left
       ·intro w'
        go_simp
        with_reducible rfl
       rotate_left
       ·simp only[pA,pS,pZ,pK,pV]
        rfl
       refine pu (i := 2) (N := some 34) (v := ?_) (a' := ?_) (bs 7 39) rfl rfl HT_ ?_ ?_ ?_
       rotate_left
       ·intro w'
        go_simp
        with_reducible rfl
       rotate_left
       ·simp only[pA,pS,pZ,pK,pV]
        rfl
       refine pn (i := 3) (N := some 35) (v := undef) (a' := ?_) (bs 15 39) rfl rfl HT_ ?_ ?_
       rotate_left
       ·simp only[pA,pS,pZ,pK,pV]
        rfl
       refine pn (i := 4) (N := some 36) (v := undef) (a' := ?_) (bs 31 39) rfl rfl HT_ ?_ ?_
       rotate_left
       ·simp only[pA,pS,pZ,pK,pV]
        rfl
       refine pn (i := 5) (N := some 37) (v := undef) (a' := ?_) (bs 63 39) rfl rfl HT_ ?_ ?_
       rotate_left
       ·simp only[pA,pS,pZ,pK,pV]
        rfl
       refine pn (i := 6) (N := some 38) (v := undef) (a' := ?_) (bs 127 39) rfl rfl HT_ ?_ ?_
       rotate_left
       ·simp only[pA,pS,pZ,pK,pV]
        rfl
       refine pn (i := 7) (N := some 39) (v := undef) (a' := ?_) (bs 255 39) rfl rfl HT_ ?_ ?_
       rotate_left
       ·simp only[pA,pS,pZ,pK,pV]
        rfl
       refine pn (i := 8) (N := some 40) (v := undef) (a' := ?_) (bs 511 39) rfl rfl HT_ ?_ ?_
       rotate_left
       ·simp only[pA,pS,pZ,pK,pV]
        rfl
       refine pn (i := 9) (N := some 41) (v := undef) (a' := ?_) (bs 1023 39) rfl rfl HT_ ?_ ?_
       rotate_left
       ·simp only[pA,pS,pZ,pK,pV]
        rfl
       refine pn (i := 10) (N := some 42) (v := undef) (a' := ?_) (bs 2047 39) rfl rfl HT_ ?_ ?_
       rotate_left
       ·simp only[pA,pS,pZ,pK,pV]
        rfl
       refine pn (i := 11) (N := some 43) (v := undef) (a' := ?_) (bs 4095 39) rfl rfl HT_ ?_ ?_
       rotate_left
       ·simp only[pA,pS,pZ,pK,pV]
        rfl
       refine pn (i := 12) (N := some 44) (v := undef) (a' := ?_) (bs 8191 39) rfl rfl HT_ ?_ ?_
       rotate_left
       ·simp only[pA,pS,pZ,pK,pV]
        rfl
       refine pn (i := 13) (N := some 45) (v := undef) (a' := ?_) (bs 16383 39) rfl rfl HT_ ?_ ?_
       rotate_left
       ·simp only[pA,pS,pZ,pK,pV]
        rfl
       refine pn (i := 14) (N := some 46) (v := undef) (a' := ?_) (bs 32767 39) rfl rfl HT_ ?_ ?_
       rotate_left
       ·simp only[pA,pS,pZ,pK,pV]
        rfl
       refine pn (i := 15) (N := some 47) (v := undef) (a' := ?_) (bs 65535 39) rfl rfl HT_ ?_ ?_
       rotate_left
       ·simp only[pA,pS,pZ,pK,pV]
        rfl
       refine pn (i := 16) (N := some 48) (v := undef) (a' := ?_) (bs 131071 39) rfl rfl HT_ ?_ ?_
       rotate_left
       ·simp only[pA,pS,pZ,pK,pV]
        rfl
       refine pn (i := 17) (N := some 49) (v := undef) (a' := ?_) (bs 262143 39) rfl rfl HT_ ?_ ?_
       rotate_left
       ·simp only[pA,pS,pZ,pK,pV]
        rfl
       refine pn (i := 18) (N := some 50) (v := undef) (a' := ?_) (bs 524287 39) rfl rfl HT_ ?_ ?_
       rotate_left
       ·simp only[pA,pS,pZ,pK,pV]
        rfl
       refine pn (i := 19) (N := some 51) (v := undef) (a' := ?_) (bs 1048575 39) rfl rfl HT_ ?_ ?_
       rotate_left
       ·simp only[pA,pS,pZ,pK,pV]
        rfl
       refine pn (i := 20) (N := some 52) (v := undef) (a' := ?_) (bs 2097151 39) rfl rfl HT_ ?_ ?_
       rotate_left
       ·simp only[pA,pS,pZ,pK,pV]
        rfl
       refine pn (i := 21) (N := some 53) (v := undef) (a' := ?_) (bs 4194303 39) rfl rfl HT_ ?_ ?_
       rotate_left
       ·simp only[pA,pS,pZ,pK,pV]
        rfl
       refine pn (i := 22) (N := some 54) (v := undef) (a' := ?_) (bs 8388607 39) rfl rfl HT_ ?_ ?_
       rotate_left
       ·simp only[pA,pS,pZ,pK,pV]
        rfl
       refine pn (i := 23) (N := some 55) (v := undef) (a' := ?_) (bs 16777215 39) rfl rfl HT_ ?_ ?_
       rotate_left
       ·simp only[pA,pS,pZ,pK,pV]
        rfl
       refine pn (i := 24) (N := some 56) (v := undef) (a' := ?_) (bs 33554431 39) rfl rfl HT_ ?_ ?_
       rotate_left
       ·simp only[pA,pS,pZ,pK,pV]
        rfl
       refine pn (i := 25) (N := some 57) (v := undef) (a' := ?_) (bs 67108863 39) rfl rfl HT_ ?_ ?_
       rotate_left
       ·simp only[pA,pS,pZ,pK,pV]
        rfl
       refine pn (i := 26) (N := some 58) (v := undef) (a' := ?_) (bs 134217727 39) rfl rfl HT_ ?_ ?_
       rotate_left
       ·simp only[pA,pS,pZ,pK,pV]
        rfl
       refine pn (i := 27) (N := some 59) (v := undef) (a' := ?_) (bs 268435455 39) rfl rfl HT_ ?_ ?_
       rotate_left
       ·simp only[pA,pS,pZ,pK,pV]
        rfl
       refine pn (i := 28) (N := some 60) (v := undef) (a' := ?_) (bs 536870911 39) rfl rfl HT_ ?_ ?_
       rotate_left
       ·simp only[pA,pS,pZ,pK,pV]
        rfl
       refine pn (i := 29) (N := some 61) (v := undef) (a' := ?_) (bs 1073741823 39) rfl rfl HT_ ?_ ?_
       rotate_left
       ·simp only[pA,pS,pZ,pK,pV]
        rfl
       refine pn (i := 30) (N := some 62) (v := undef) (a' := ?_) (bs 2147483647 39) rfl rfl HT_ ?_ ?_
       rotate_left
       ·simp only[pA,pS,pZ,pK,pV]
        rfl
       refine pn (i := 31) (N := some 63) (v := undef) (a' := ?_) (bs 4294967295 39) rfl rfl HT_ ?_ ?_
       rotate_left
       ·simp only[pA,pS,pZ,pK,pV]
        rfl
       refine pn (i := 32) (N := some 64) (v := undef) (a' := ?_) (bs 8589934591 39) rfl rfl HT_ ?_ ?_
       rotate_left
       ·simp only[pA,pS,pZ,pK,pV]
        rfl
       refine pn (i := 33) (N := some 65) (v := undef) (a' := ?_) (bs 17179869183 39) rfl rfl HT_ ?_ ?_
       rotate_left
       ·simp only[pA,pS,pZ,pK,pV]
        rfl
       refine pn (i := 34) (N := some 66) (v := undef) (a' := ?_) (bs 34359738367 39) rfl rfl HT_ ?_ ?_
       rotate_left
       ·simp only[pA,pS,pZ,pK,pV]
        rfl
       refine pn (i := 35) (N := some 67) (v := undef) (a' := ?_) (bs 68719476735 39) rfl rfl HT_ ?_ ?_
       rotate_left
       ·simp only[pA,pS,pZ,pK,pV]
        rfl
       refine pn (i := 36) (N := some 68) (v := undef) (a' := ?_) (bs 137438953471 39) rfl rfl HT_ ?_ ?_
       rotate_left
       ·simp only[pA,pS,pZ,pK,pV]
        rfl
       refine pn (i := 37) (N := some 69) (v := undef) (a' := ?_) (bs 274877906943 39) rfl rfl HT_ ?_ ?_
       rotate_left
       ·simp only[pA,pS,pZ,pK,pV]
        rfl
       refine pu (i := 38) (N := some 70) (v := ?_) (a' := ?_) (bs 549755813887 39) rfl rfl HT_ ?_ ?_ ?_
       rotate_left
       ·intro w'
        go_simp
        with_reducible rfl
       rotate_left
       ·simp only[pA,pS,pZ,pK,pV]
        rfl
       refine done_ (done_of HT_.out (by kernel_rfl)) ?_
       try go_wp2
       go_meet
       case rel => exact ⟨_, (false), (by first | rfl | (simp; done) | (simp [*]; done)), H', ⟨by have := HK1.out; have := HJ2.out; first | omega | exact Nat.le_refl _⟩, ⟨BT HB.out⟩⟩
      rw [if_pos c20] at H
      have c20b0 : decide (0 < x3_1) = true := decide_eq_true c20
      clear c20
      (first | rw [c20b0] | (simp only [i64_w, i32_w]; rw [c20b0]) | skip)
      obtain ⟨ji21, hji21⟩ : ∃ j_ : Int, (wrap64 (x3_1 - 1)) = j_ := ⟨_, rfl⟩
      replace H : (if 0 ≤ (ji21) then (if (ji21) < (l0.length : Int) then (if 0 ≤ x3_1 then (if x3_1 < (l0.length : Int) then (if ((rd_T33 l0 (ji21)).f1) > ((rd_T33 l0 x3_1).f1) then (spec_IsHistory.j2 kj2 l0 x3_1 true) else (if ((rd_T33 l0 (ji21)).f1) = ((rd_T33 l0 x3_1).f1) then (spec_IsHistory.j2 kj2 l0 x3_1 (decide ((((rd_T33 l0 x3_1).f3).length : Int) > 0))) else (spec_IsHistory.j2 kj2 l0 x3_1 false))) else (none)) else (none)) else (none)) else (none)) = some r := by first | (rw [hji21] at H; exact H) | (simp only [hji21] at H ⊢; exact H)
      have hji21w : (IntKind.i64.wrap (x3_1 - 1)) = ji21 := (i64_w _).trans hji21
      replace H := HI H
      obtain ⟨c22, H⟩ := H
      have c22b0 : decide (0 ≤ (ji21)) = true := decide_eq_true c22
      clear c22
      replace H := HI H
      obtain ⟨c23, H⟩ := H
      have c23b0 : decide ((ji21) < (l0.length : Int)) = true := decide_eq_true c23
      clear c23
      replace H := HI H
      obtain ⟨c24, H⟩ := H
      have c24b0 : decide (0 ≤ x3_1) = true := decide_eq_true c24
      clear c24
      replace H := HI H
      obtain ⟨c25, H⟩ := H
      have c25b0 : decide (x3_1 < (l0.length : Int)) = true := decide_eq_true c25
      clear c25
      by_cases c26 : ((rd_T33 l0 (ji21)).f1) > ((rd_T33 l0 x3_1).f1)
      ·rw [if_pos c26] at H
       have c26b0 : decide (((rd_T33 l0 x3_1).f1) < ((rd_T33 l0 (ji21)).f1)) = true := decide_eq_true c26
       clear c26
       have H' := AM_ H
       clear H
       try go_wp2
       replace HB := AM_ (below_drew1 HB.out)
       have p201 : 0 ≤ ((ji21) : Int) := DT
       have q201 : (ji21) < (l0.length : Int) := DT
       obtain ⟨ad201, A201_2, c201_2, A201_3, c201_3, e201, hx201_0, hx201_1, hx201_2, hx201_3, hl201_2, hi201_2, hl201_3, hi201_3⟩ := at_T33 HR0.out (ji21) p201 q201
       have hw201_3 := hx201_3
       have hw201_2 := hx201_2
       have hw201_1 := hx201_1
       have hw201_0 := hx201_0
       cases e201
       replace hx201_0 := BC HB.out hx201_0
       replace hx201_1 := BC HB.out hx201_1
       replace hx201_2 := BC HB.out hx201_2
       replace hx201_3 := BC HB.out hx201_3
       have HR201_2 := AM_ hi201_2
       have HC201_2 := AM_ hl201_2
       clear hi201_2 hl201_2
       have HR201_3 := AM_ hi201_3
       have HC201_3 := AM_ hl201_3
       clear hi201_3 hl201_3
       replace p201 := eq_true p201
       replace q201 := eq_true q201
       have p202 : 0 ≤ (x3_1 : Int) := DT
       have q202 : x3_1 < (l0.length : Int) := DT
       obtain ⟨ad202, A202_2, c202_2, A202_3, c202_3, e202, hx202_0, hx202_1, hx202_2, hx202_3, hl202_2, hi202_2, hl202_3, hi202_3⟩ := at_T33 HR0.out x3_1 p202 q202
       have hw202_3 := hx202_3
       have hw202_2 := hx202_2
       have hw202_1 := hx202_1
       have hw202_0 := hx202_0
       obtain rfl : ad201 = ad202 := (by injection e202)
       replace hx202_0 := BC HB.out hx202_0
       replace hx202_1 := BC HB.out hx202_1
       replace hx202_2 := BC HB.out hx202_2
       replace hx202_3 := BC HB.out hx202_3
       have HR202_2 := AM_ hi202_2
       have HC202_2 := AM_ hl202_2
       clear hi202_2 hl202_2
       have HR202_3 := AM_ hi202_3
       have HC202_3 := AM_ hl202_3
       clear hi202_3 hl202_3
       replace p202 := eq_true p202
       replace q202 := eq_true q202
       refine start_ (n := 39) (S := fun w' => w'.cell? (ad201.add (((ji21)).toNat * 4)) = some (.int .i64 ((rd_T33 l0 (ji21)).f0)) ∧ w'.cell? ⟨(ad201.add (((ji21)).toNat * 4)).block, (ad201.add (((ji21)).toNat * 4)).off + 1, none⟩ = some (.int .i64 ((rd_T33 l0 (ji21)).f1)) ∧ w'.cell? ⟨(ad201.add (((ji21)).toNat * 4)).block, (ad201.add (((ji21)).toNat * 4)).off + 2, none⟩ = some (.slice A201_2 ((rd_T33 l0 (ji21)).f2).length c201_2) ∧ w'.cell? ⟨(ad201.add (((ji21)).toNat * 4)).block, (ad201.add (((ji21)).toNat * 4)).off + 3, none⟩ = some (.slice A201_3 ((rd_T33 l0 (ji21)).f3).length c201_3) ∧ w'.cell? (ad201.add ((x3_1).toNat * 4)) = some (.int .i64 ((rd_T33 l0 x3_1).f0)) ∧ w'.cell? ⟨(ad201.add ((x3_1).toNat * 4)).block, (ad201.add ((x3_1).toNat * 4)).off + 1, none⟩ = some (.int .i64 ((rd_T33 l0 x3_1).f1)) ∧ w'.cell? ⟨(ad201.add ((x3_1).toNat * 4)).block, (ad201.add ((x3_1).toNat * 4)).off + 2, none⟩ = some (.slice A202_2 ((rd_T33 l0 x3_1).f2).length c202_2) ∧ w'.cell? ⟨(ad201.add ((x3_1).toNat * 4)).block, (ad201.add ((x3_1).toNat * 4)).off + 3, none⟩ = some (.slice A202_3 ((rd_T33 l0 x3_1).f3).length c202_3)) (ds := []) (bs 0 39) (by kernel_rfl) rfl rfl ⟨(BD HB.out hw201_0), (BD HB.out hw201_1), (BD HB.out hw201_2), (BD HB.out hw201_3), (BD HB.out hw202_0), (BD HB.out hw202_1), (BD HB.out hw202_2), (BD HB.out hw202_3)⟩ (fun hHeld => ?_); refine with_tabW spec_IsHistory.tab6 spec_IsHistory.bits6 (fun HT_ HW_ => ?_)
       generalize wc.drew = w27 at HB HR201_2 HR201_3 HR202_2 HR202_3 hx201_0 hx201_1 hx201_2 hx201_3 hx202_0 hx202_1 hx202_2 hx202_3 hHeld ⊢
       refine pu (i := 0) (N := some 32) (v := ?_) (a' := ?_) (bs 1 39) rfl rfl HT_ ?_ ?_ ?_
       rotate_left
       ·intro w'
        go_simp
        with_reducible rfl
       rotate_left
       ·simp only[pA,pS,pZ,pK,pV]
        rfl
       refine pu (i := 1) (N := some 33) (v := ?_) (a' := ?_) (bs 3 39) rfl rfl HT_ ?_ ?_ ?_
       rotate_left
       ·intro w'
        go_simp
        with_reducible rfl
       rotate_left
       ·simp only[pA,pS,pZ,pK,pV]
        rfl
       refine pu (i := 2) (N := some 34) (v := ?_) (a' := ?_) (bs 7 39) rfl rfl HT_ ?_ ?_ ?_
       rotate_left
       ·intro w'
        go_simp
        with_reducible rfl
       rotate_left
       ·simp only[pA,pS,pZ,pK,pV]
        rfl
       refine pu (i := 3) (N := some 35) (v := ?_) (a' := ?_) (bs 15 39) rfl rfl HT_ ?_ ?_ ?_
       rotate_left
       ·intro w'
        go_simp
        with_reducible rfl
       rotate_left
       ·simp only[pA,pS,pZ,pK,pV]
        rfl
       refine pu (i := 4) (N := some 36) (v := ?_) (a' := ?_) (bs 31 39) rfl rfl HT_ ?_ ?_ ?_
       rotate_left
       ·intro w'
        go_simp
        with_reducible rfl
       rotate_left
       ·simp only[pA,pS,pZ,pK,pV]
        rfl
       refine pu (i := 5) (N := some 37) (v := ?_) (a' := ?_) (bs 63 39) rfl rfl HT_ ?_ ?_ ?_
       rotate_left
       ·intro w'
        go_simp
        with_reducible rfl
       rotate_left
       ·simp only[pA,pS,pZ,pK,pV]
        rfl
       refine pu (i := 6) (N := some 38) (v := ?_) (a' := ?_) (bs 127 39) rfl rfl HT_ ?_ ?_ ?_
       rotate_left
       ·intro w'
        go_simp
        with_reducible rfl
       rotate_left
       ·simp only[pA,pS,pZ,pK,pV]
        rfl
       refine pu (i := 7) (N := some 39) (v := ?_) (a' := ?_) (bs 255 39) rfl rfl HT_ ?_ ?_ ?_
       rotate_left
       ·intro w'
        go_simp
        with_reducible rfl
       rotate_left
       ·simp only[pA,pS,pZ,pK,pV]
        rfl
       refine pu (i := 9) (N := some 41) (v := ?_) (a' := ?_) (bs 767 39) rfl rfl HT_ ?_ ?_ ?_
       rotate_left
       ·intro w'
        go_simp
        with_reducible rfl
       rotate_left
       ·simp only[pA,pS,pZ,pK,pV]
        rfl
       refine pu (i := 10) (N := some 42) (v := ?_) (a' := ?_) (bs 1791 39) rfl rfl HT_ ?_ ?_ ?_
       rotate_left
       ·intro w'
        go_simp
        with_reducible rfl
       rotate_left
       ·simp only[pA,pS,pZ,pK,pV]
        rfl
       refine pu (i := 11) (N := some 43) (v := ?_) (a' := ?_) (bs 3839 39) rfl rfl HT_ ?_ ?_ ?_
       rotate_left
       ·intro w'
        go_simp
        with_reducible rfl
       rotate_left
       ·simp only[pA,pS,pZ,pK,pV]
        rfl
       refine pu (i := 12) (N := some 44) (v := ?_) (a' := ?_) (bs 7935 39) rfl rfl HT_ ?_ ?_ ?_
       rotate_left
       ·intro w'
        go_simp
        with_reducible rfl
       rotate_left
       ·simp only[pA,pS,pZ,pK,pV]
        rfl
       refine tk (i := 8) (N := some 40) (v := ?_) (a' := ?_) (bs 8191 39) rfl rfl HT_ HW_ ?_ hHeld ?_ ?_
       rotate_left
       ·rintro w' ⟨s0, s1, s2, s3, s4, s5, s6, s7⟩
        go_simp
        with_reducible rfl
       rotate_left
       ·simp only[pA,pS,pZ,pK,pV]
        rfl
       refine tk (i := 13) (N := some 45) (v := ?_) (a' := ?_) (bs 16383 39) rfl rfl HT_ HW_ ?_ hHeld ?_ ?_
       rotate_left
       ·rintro w' ⟨s0, s1, s2, s3, s4, s5, s6, s7⟩
        go_simp
        with_reducible rfl
       rotate_left
       ·simp only[pA,pS,pZ,pK,pV]
        rfl
       refine pu (i := 14) (N := some 46) (v := ?_) (a' := ?_) (bs 32767 39) rfl rfl HT_ ?_ ?_ ?_
       rotate_left
       ·intro w'
        go_simp
        with_reducible rfl
       rotate_left
       ·simp only[pA,pS,pZ,pK,pV]
        rfl
       refine pu (i := 15) (N := some 47) (v := ?_) (a' := ?_) (bs 65535 39) rfl rfl HT_ ?_ ?_ ?_
       rotate_left
       ·intro w'
        go_simp
        with_reducible rfl
       rotate_left
       ·simp only[pA,pS,pZ,pK,pV]
        rfl
       refine pn (i := 16) (N := some 48) (v := undef) (a' := ?_) (bs 131071 39) rfl rfl HT_ ?_ ?_
       rotate_left
       ·simp only[pA,pS,pZ,pK,pV]
        rfl
       refine pn (i := 17) (N := some 49) (v := undef) (a' := ?_) (bs 262143 39) rfl rfl HT_ ?_ ?_
       rotate_left
       ·simp only[pA,pS,pZ,pK,pV]
        rfl
       refine pn (i := 18) (N := some 50) (v := undef) (a' := ?_) (bs 524287 39) rfl rfl HT_ ?_ ?_
       rotate_left
       ·simp only[pA,pS,pZ,pK,pV]
        rfl
       refine pn (i := 19) (N := some 51) (v := undef) (a' := ?_) (bs 1048575 39) rfl rfl HT_ ?_ ?_
       rotate_left
       ·simp only[pA,pS,pZ,pK,pV]
        rfl
       refine pn (i := 20) (N := some 52) (v := undef) (a' := ?_) (bs 2097151 39) rfl rfl HT_ ?_ ?_
       rotate_left
       ·simp only[pA,pS,pZ,pK,pV]
        rfl
       refine pn (i := 21) (N := some 53) (v := undef) (a' := ?_) (bs 4194303 39) rfl rfl HT_ ?_ ?_
       rotate_left
       ·simp only[pA,pS,pZ,pK,pV]
        rfl
       refine pn (i := 22) (N := some 54) (v := undef) (a' := ?_) (bs 8388607 39) rfl rfl HT_ ?_ ?_
       rotate_left
       ·simp only[pA,pS,pZ,pK,pV]
        rfl
       refine pn (i := 23) (N := some 55) (v := undef) (a' := ?_) (bs 16777215 39) rfl rfl HT_ ?_ ?_
       rotate_left
       ·simp only[pA,pS,pZ,pK,pV]
        rfl
       refine pn (i := 24) (N := some 56) (v := undef) (a' := ?_) (bs 33554431 39) rfl rfl HT_ ?_ ?_
       rotate_left
       ·simp only[pA,pS,pZ,pK,pV]
        rfl
       refine pn (i := 25) (N := some 57) (v := undef) (a' := ?_) (bs 67108863 39) rfl rfl HT_ ?_ ?_
       rotate_left
       ·simp only[pA,pS,pZ,pK,pV]
        rfl
       refine pn (i := 26) (N := some 58) (v := undef) (a' := ?_) (bs 134217727 39) rfl rfl HT_ ?_ ?_
       rotate_left
       ·simp only[pA,pS,pZ,pK,pV]
        rfl
       refine pn (i := 27) (N := some 59) (v := undef) (a' := ?_) (bs 268435455 39) rfl rfl HT_ ?_ ?_
       rotate_left
       ·simp only[pA,pS,pZ,pK,pV]
        rfl
       refine pn (i := 28) (N := some 60) (v := undef) (a' := ?_) (bs 536870911 39) rfl rfl HT_ ?_ ?_
       rotate_left
       ·simp only[pA,pS,pZ,pK,pV]
        rfl
       refine pn (i := 29) (N := some 61) (v := undef) (a' := ?_) (bs 1073741823 39) rfl rfl HT_ ?_ ?_
       rotate_left
       ·simp only[pA,pS,pZ,pK,pV]
        rfl
       refine pn (i := 30) (N := some 62) (v := undef) (a' := ?_) (bs 2147483647 39) rfl rfl HT_ ?_ ?_
       rotate_left
       ·simp only[pA,pS,pZ,pK,pV]
        rfl
       refine pn (i := 31) (N := some 63) (v := undef) (a' := ?_) (bs 4294967295 39) rfl rfl HT_ ?_ ?_
       rotate_left
       ·simp only[pA,pS,pZ,pK,pV]
        rfl
       refine pn (i := 32) (N := some 64) (v := undef) (a' := ?_) (bs 8589934591 39) rfl rfl HT_ ?_ ?_
       rotate_left
       ·simp only[pA,pS,pZ,pK,pV]
        rfl
       refine pn (i := 33) (N := some 65) (v := undef) (a' := ?_) (bs 17179869183 39) rfl rfl HT_ ?_ ?_
       rotate_left
       ·simp only[pA,pS,pZ,pK,pV]
        rfl
       refine pn (i := 34) (N := some 66) (v := undef) (a' := ?_) (bs 34359738367 39) rfl rfl HT_ ?_ ?_
       rotate_left
       ·simp only[pA,pS,pZ,pK,pV]
        rfl
       refine pn (i := 35) (N := some 67) (v := undef) (a' := ?_) (bs 68719476735 39) rfl rfl HT_ ?_ ?_
       rotate_left
       ·simp only[pA,pS,pZ,pK,pV]
        rfl
       refine pn (i := 36) (N := some 68) (v := undef) (a' := ?_) (bs 137438953471 39) rfl rfl HT_ ?_ ?_
       rotate_left
       ·simp only[pA,pS,pZ,pK,pV]
        rfl
       refine pu (i := 37) (N := some 69) (v := ?_) (a' := ?_) (bs 274877906943 39) rfl rfl HT_ ?_ ?_ ?_
       rotate_left
       ·intro w'
        go_simp
        with_reducible rfl
       rotate_left
       ·simp only[pA,pS,pZ,pK,pV]
        rfl
       refine pu (i := 38) (N := some 70) (v := ?_) (a' := ?_) (bs 549755813887 39) rfl rfl HT_ ?_ ?_ ?_
       rotate_left
       ·intro w'
        go_simp
        with_reducible rfl
       rotate_left
       ·simp only[pA,pS,pZ,pK,pV]
        rfl
       refine done_ (done_of HT_.out (by kernel_rfl)) ?_
       try go_wp2
       go_meet
       case rel => exact ⟨_, (true), (by first | rfl | (simp; done) | (simp [*]; done)), H', ⟨by have := HK1.out; have := HJ2.out; first | omega | exact Nat.le_refl _⟩, ⟨BT HB.out⟩⟩
      rw [if_neg c26] at H
      have c26b0 : decide (((rd_T33 l0 x3_1).f1) < ((rd_T33 l0 (ji21)).f1)) = false := decide_eq_false c26
      clear c26
      by_cases c28 : ((rd_T33 l0 (ji21)).f1) = ((rd_T33 l0 x3_1).f1)
      rotate_left
      ·rw [if_neg c28] at H
       have c28b0 : (((rd_T33 l0 (ji21)).f1) == ((rd_T33 l0 x3_1).f1)) = false := beq_eq_false_iff_ne.mpr c28
       have c28b1 : (((rd_T33 l0 (ji21)).f1) != ((rd_T33 l0 x3_1).f1)) = true := bne_iff_ne.mpr c28
       have H' := AM_ H
       clear H
       try go_wp2
       replace HB := AM_ (below_drew1 HB.out)
       have p201 : 0 ≤ ((ji21) : Int) := DT
       have q201 : (ji21) < (l0.length : Int) := DT
       obtain ⟨ad201, A201_2, c201_2, A201_3, c201_3, e201, hx201_0, hx201_1, hx201_2, hx201_3, hl201_2, hi201_2, hl201_3, hi201_3⟩ := at_T33 HR0.out (ji21) p201 q201
       have hw201_3 := hx201_3
       have hw201_2 := hx201_2
       have hw201_1 := hx201_1
       have hw201_0 := hx201_0
       cases e201
       replace hx201_0 := BC HB.out hx201_0
       replace hx201_1 := BC HB.out hx201_1
       replace hx201_2 := BC HB.out hx201_2
       replace hx201_3 := BC HB.out hx201_3
       have HR201_2 := AM_ hi201_2
       have HC201_2 := AM_ hl201_2
       clear hi201_2 hl201_2
       have HR201_3 := AM_ hi201_3
       have HC201_3 := AM_ hl201_3
       clear hi201_3 hl201_3
       replace p201 := eq_true p201
       replace q201 := eq_true q201
       have p202 : 0 ≤ (x3_1 : Int) := DT
       have q202 : x3_1 < (l0.length : Int) := DT
       obtain ⟨ad202, A202_2, c202_2, A202_3, c202_3, e202, hx202_0, hx202_1, hx202_2, hx202_3, hl202_2, hi202_2, hl202_3, hi202_3⟩ := at_T33 HR0.out x3_1 p202 q202
       have hw202_3 := hx202_3
       have hw202_2 := hx202_2
       have hw202_1 := hx202_1
       have hw202_0 := hx202_0
       obtain rfl : ad201 = ad202 := (by injection e202)
       replace hx202_0 := BC HB.out hx202_0
       replace hx202_1 := BC HB.out hx202_1
       replace hx202_2 := BC HB.out hx202_2
       replace hx202_3 := BC HB.out hx202_3
       have HR202_2 := AM_ hi202_2
       have HC202_2 := AM_ hl202_2
       clear hi202_2 hl202_2
       have HR202_3 := AM_ hi202_3
       have HC202_3 := AM_ hl202_3
       clear hi202_3 hl202_3
       replace p202 := eq_true p202
       replace q202 := eq_true q202
       have p203 : 0 ≤ ((ji21) : Int) := DT
       have q203 : (ji21) < (l0.length : Int) := DT
       obtain ⟨ad203, A203_2, c203_2, A203_3, c203_3, e203, hx203_0, hx203_1, hx203_2, hx203_3, hl203_2, hi203_2, hl203_3, hi203_3⟩ := at_T33 HR0.out (ji21) p203 q203
       have hw203_3 := hx203_3
       have hw203_2 := hx203_2
       have hw203_1 := hx203_1
       have hw203_0 := hx203_0
       obtain rfl : ad201 = ad203 := (by injection e203)
       replace hx203_0 := BC HB.out hx203_0
       replace hx203_1 := BC HB.out hx203_1
       replace hx203_2 := BC HB.out hx203_2
       replace hx203_3 := BC HB.out hx203_3
       have HR203_2 := AM_ hi203_2
       have HC203_2 := AM_ hl203_2
       clear hi203_2 hl203_2
       have HR203_3 := AM_ hi203_3
       have HC203_3 := AM_ hl203_3
       clear hi203_3 hl203_3
       replace p203 := eq_true p203
       replace q203 := eq_true q203
       have ea_ := Option.some.inj (hx201_2.symm.trans hx203_2)
       injection ea_ with ea_ en_ ec_
       subst ea_
       subst ec_
       clear en_
       have ea_ := Option.some.inj (hx201_3.symm.trans hx203_3)
       injection ea_ with ea_ en_ ec_
       subst ea_
       subst ec_
       clear en_
       have p204 : 0 ≤ (x3_1 : Int) := DT
       have q204 : x3_1 < (l0.length : Int) := DT
       obtain ⟨ad204, A204_2, c204_2, A204_3, c204_3, e204, hx204_0, hx204_1, hx204_2, hx204_3, hl204_2, hi204_2, hl204_3, hi204_3⟩ := at_T33 HR0.out x3_1 p204 q204
       have hw204_3 := hx204_3
       have hw204_2 := hx204_2
       have hw204_1 := hx204_1
       have hw204_0 := hx204_0
       obtain rfl : ad201 = ad204 := (by injection e204)
       replace hx204_0 := BC HB.out hx204_0
       replace hx204_1 := BC HB.out hx204_1
       replace hx204_2 := BC HB.out hx204_2
       replace hx204_3 := BC HB.out hx204_3
       have HR204_2 := AM_ hi204_2
       have HC204_2 := AM_ hl204_2
       clear hi204_2 hl204_2
       have HR204_3 := AM_ hi204_3
       have HC204_3 := AM_ hl204_3
       clear hi204_3 hl204_3
       replace p204 := eq_true p204
       replace q204 := eq_true q204
       have ea_ := Option.some.inj (hx202_2.symm.trans hx204_2)
       injection ea_ with ea_ en_ ec_
       subst ea_
       subst ec_
       clear en_
       have ea_ := Option.some.inj (hx202_3.symm.trans hx204_3)
       injection ea_ with ea_ en_ ec_
       subst ea_
       subst ec_
       clear en_
       refine start_ (n := 39) (S := fun w' => w'.cell? (ad201.add (((ji21)).toNat * 4)) = some (.int .i64 ((rd_T33 l0 (ji21)).f0)) ∧ w'.cell? ⟨(ad201.add (((ji21)).toNat * 4)).block, (ad201.add (((ji21)).toNat * 4)).off + 1, none⟩ = some (.int .i64 ((rd_T33 l0 (ji21)).f1)) ∧ w'.cell? ⟨(ad201.add (((ji21)).toNat * 4)).block, (ad201.add (((ji21)).toNat * 4)).off + 2, none⟩ = some (.slice A201_2 ((rd_T33 l0 (ji21)).f2).length c201_2) ∧ w'.cell? ⟨(ad201.add (((ji21)).toNat * 4)).block, (ad201.add (((ji21)).toNat * 4)).off + 3, none⟩ = some (.slice A201_3 ((rd_T33 l0 (ji21)).f3).length c201_3) ∧ w'.cell? (ad201.add ((x3_1).toNat * 4)) = some (.int .i64 ((rd_T33 l0 x3_1).f0)) ∧ w'.cell? ⟨(ad201.add ((x3_1).toNat * 4)).block, (ad201.add ((x3_1).toNat * 4)).off + 1, none⟩ = some (.int .i64 ((rd_T33 l0 x3_1).f1)) ∧ w'.cell? ⟨(ad201.add ((x3_1).toNat * 4)).block, (ad201.add ((x3_1).toNat * 4)).off + 2, none⟩ = some (.slice A202_2 ((rd_T33 l0 x3_1).f2).length c202_2) ∧ w'.cell? ⟨(ad201.add ((x3_1).toNat * 4)).block, (ad201.add ((x3_1).toNat * 4)).off + 3, none⟩ = some (.slice A202_3 ((rd_T33 l0 x3_1).f3).length c202_3) ∧ w'.cell? (ad201.add (((ji21)).toNat * 4)) = some (.int .i64 ((rd_T33 l0 (ji21)).f0)) ∧ w'.cell? ⟨(ad201.add (((ji21)).toNat * 4)).block, (ad201.add (((ji21)).toNat * 4)).off + 1, none⟩ = some (.int .i64 ((rd_T33 l0 (ji21)).f1)) ∧ w'.cell? ⟨(ad201.add (((ji21)).toNat * 4)).block, (ad201.add (((ji21)).toNat * 4)).off + 2, none⟩ = some (.slice A201_2 ((rd_T33 l0 (ji21)).f2).length c201_2) ∧ w'.cell? ⟨(ad201.add (((ji21)).toNat * 4)).block, (ad201.add (((ji21)).toNat * 4)).off + 3, none⟩ = some (.slice A201_3 ((rd_T33 l0 (ji21)).f3).length c201_3) ∧ w'.cell? (ad201.add ((x3_1).toNat * 4)) = some (.int .i64 ((rd_T33 l0 x3_1).f0)) ∧ w'.cell? ⟨(ad201.add ((x3_1).toNat * 4)).block, (ad201.add ((x3_1).toNat * 4)).off + 1, none⟩ = some (.int .i64 ((rd_T33 l0 x3_1).f1)) ∧ w'.cell? ⟨(ad201.add ((x3_1).toNat * 4)).block, (ad201.add ((x3_1).toNat * 4)).off + 2, none⟩ = some (.slice A202_2 ((rd_T33 l0 x3_1).f2).length c202_2) ∧ w'.cell? ⟨(ad201.add ((x3_1).toNat * 4)).block, (ad201.add ((x3_1).toNat * 4)).off + 3, none⟩ = some (.slice A202_3 ((rd_T33 l0 x3_1).f3).length c202_3)) (ds := []) (bs 0 39) (by kernel_rfl) rfl rfl ⟨(BD HB.out hw201_0), (BD HB.out hw201_1), (BD HB.out hw201_2), (BD HB.out hw201_3), (BD HB.out hw202_0), (BD HB.out hw202_1), (BD HB.out hw202_2), (BD HB.out hw202_3), (BD HB.out hw203_0), (BD HB.out hw203_1), (BD HB.out hw203_2), (BD HB.out hw203_3), (BD HB.out hw204_0), (BD HB.out hw204_1), (BD HB.out hw204_2), (BD HB.out hw204_3)⟩ (fun hHeld => ?_); refine with_tabW spec_IsHistory.tab6 spec_IsHistory.bits6 (fun HT_ HW_ => ?_)
       generalize wc.drew = w30 at HB HR201_2 HR201_3 HR202_2 HR202_3 HR203_2 HR203_3 HR204_2 HR204_3 hx201_0 hx201_1 hx201_2 hx201_3 hx202_0 hx202_1 hx202_2 hx202_3 hx203_0 hx203_1 hx203_2 hx203_3 hx204_0 hx204_1 hx204_2 hx204_3 hHeld ⊢
       refine pu (i := 0) (N := some 32) (v := ?_) (a' := ?_) (bs 1 39) rfl rfl HT_ ?_ ?_ ?_
       rotate_left
       ·intro w'
        go_simp
        with_reducible rfl
       rotate_left
       ·simp only[pA,pS,pZ,pK,pV]
        rfl
       refine pu (i := 1) (N := some 33) (v := ?_) (a' := ?_) (bs 3 39) rfl rfl HT_ ?_ ?_ ?_
       rotate_left
       ·intro w'
        go_simp
        with_reducible rfl
       rotate_left
       ·simp only[pA,pS,pZ,pK,pV]
        rfl
       refine pu (i := 2) (N := some 34) (v := ?_) (a' := ?_) (bs 7 39) rfl rfl HT_ ?_ ?_ ?_
       rotate_left
       ·intro w'
        go_simp
        with_reducible rfl
       rotate_left
       ·simp only[pA,pS,pZ,pK,pV]
        rfl
       refine pu (i := 3) (N := some 35) (v := ?_) (a' := ?_) (bs 15 39) rfl rfl HT_ ?_ ?_ ?_
       rotate_left
       ·intro w'
        go_simp
        with_reducible rfl
       rotate_left
       ·simp only[pA,pS,pZ,pK,pV]
        rfl
       refine pu (i := 4) (N := some 36) (v := ?_) (a' := ?_) (bs 31 39) rfl rfl HT_ ?_ ?_ ?_
       rotate_left
       ·intro w'
        go_simp
        with_reducible rfl
       rotate_left
       ·simp only[pA,pS,pZ,pK,pV]
        rfl
       refine pu (i := 5) (N := some 37) (v := ?_) (a' := ?_) (bs 63 39) rfl rfl HT_ ?_ ?_ ?_
       rotate_left
       ·intro w'
        go_simp
        with_reducible rfl
       rotate_left
       ·simp only[pA,pS,pZ,pK,pV]
        rfl
       refine pu (i := 6) (N := some 38) (v := ?_) (a' := ?_) (bs 127 39) rfl rfl HT_ ?_ ?_ ?_
       rotate_left
       ·intro w'
        go_simp
        with_reducible rfl
       rotate_left
       ·simp only[pA,pS,pZ,pK,pV]
        rfl
       refine pu (i := 7) (N := some 39) (v := ?_) (a' := ?_) (bs 255 39) rfl rfl HT_ ?_ ?_ ?_
       rotate_left
       ·intro w'
        go_simp
        with_reducible rfl
       rotate_left
       ·simp only[pA,pS,pZ,pK,pV]
        rfl
       refine pu (i := 9) (N := some 41) (v := ?_) (a' := ?_) (bs 767 39) rfl rfl HT_ ?_ ?_ ?_
       rotate_left
       ·intro w'
        go_simp
        with_reducible rfl
       rotate_left
       ·simp only[pA,pS,pZ,pK,pV]
        rfl
       refine pu (i := 10) (N := some 42) (v := ?_) (a' := ?_) (bs 1791 39) rfl rfl HT_ ?_ ?_ ?_
       rotate_left
       ·intro w'
        go_simp
        with_reducible rfl
       rotate_left
       ·simp only[pA,pS,pZ,pK,pV]
        rfl
       refine pu (i := 11) (N := some 43) (v := ?_) (a' := ?_) (bs 3839 39) rfl rfl HT_ ?_ ?_ ?_
       rotate_left
       ·intro w'
        go_simp
        with_reducible rfl
       rotate_left
       ·simp only[pA,pS,pZ,pK,pV]
        rfl
       refine pu (i := 12) (N := some 44) (v := ?_) (a' := ?_) (bs 7935 39) rfl rfl HT_ ?_ ?_ ?_
       rotate_left
       ·intro w'
        go_simp
        with_reducible rfl
       rotate_left
       ·simp only[pA,pS,pZ,pK,pV]
        rfl
       refine tk (i := 8) (N := some 40) (v := ?_) (a' := ?_) (bs 8191 39) rfl rfl HT_ HW_ ?_ hHeld ?_ ?_
       rotate_left
       ·rintro w' ⟨s0, s1, s2, s3, s4, s5, s6, s7, s8, s9, s10, s11, s12, s13, s14, s15⟩
        go_simp
        with_reducible rfl
       rotate_left
       ·simp only[pA,pS,pZ,pK,pV]
        rfl
       refine tk (i := 13) (N := some 45) (v := ?_) (a' := ?_) (bs 16383 39) rfl rfl HT_ HW_ ?_ hHeld ?_ ?_
       rotate_left
       ·rintro w' ⟨s0, s1, s2, s3, s4, s5, s6, s7, s8, s9, s10, s11, s12, s13, s14, s15⟩
        go_simp
        with_reducible rfl
       rotate_left
       ·simp only[pA,pS,pZ,pK,pV]
        rfl
       refine pu (i := 14) (N := some 46) (v := ?_) (a' := ?_) (bs 32767 39) rfl rfl HT_ ?_ ?_ ?_
       rotate_left
       ·intro w'
        go_simp
        with_reducible rfl
       rotate_left
       ·simp only[pA,pS,pZ,pK,pV]
        rfl
       refine pu (i := 15) (N := some 47) (v := ?_) (a' := ?_) (bs 65535 39) rfl rfl HT_ ?_ ?_ ?_
       rotate_left
       ·intro w'
        go_simp
        with_reducible rfl
       rotate_left
       ·simp only[pA,pS,pZ,pK,pV]
        rfl
       refine pu (i := 16) (N := some 48) (v := ?_) (a' := ?_) (bs 131071 39) rfl rfl HT_ ?_ ?_ ?_
       rotate_left
       ·intro w'
        go_simp
        with_reducible rfl
       rotate_left
       ·simp only[pA,pS,pZ,pK,pV]
        rfl
       refine pu (i := 17) (N := some 49) (v := ?_) (a' := ?_) (bs 262143 39) rfl rfl HT_ ?_ ?_ ?_
       rotate_left
       ·intro w'
        go_simp
        with_reducible rfl
       rotate_left
       ·simp only[pA,pS,pZ,pK,pV]
        rfl
       refine pu (i := 18) (N := some 50) (v := ?_) (a' := ?_) (bs 524287 39) rfl rfl HT_ ?_ ?_ ?_
       rotate_left
       ·intro w'
        go_simp
        with_reducible rfl
       rotate_left
       ·simp only[pA,pS,pZ,pK,pV]
        rfl
       refine pu (i := 19) (N := some 51) (v := ?_) (a' := ?_) (bs 1048575 39) rfl rfl HT_ ?_ ?_ ?_
       rotate_left
       ·intro w'
        go_simp
        with_reducible rfl
       rotate_left
       ·simp only[pA,pS,pZ,pK,pV]
        rfl
       refine pu (i := 20) (N := some 52) (v := ?_) (a' := ?_) (bs 2097151 39) rfl rfl HT_ ?_ ?_ ?_
       rotate_left
       ·intro w'
        go_simp
        with_reducible rfl
       rotate_left
       ·simp only[pA,pS,pZ,pK,pV]
        rfl
       refine pu (i := 22) (N := some 54) (v := ?_) (a' := ?_) (bs 6291455 39) rfl rfl HT_ ?_ ?_ ?_
       rotate_left
       ·intro w'
        go_simp
        with_reducible rfl
       rotate_left
       ·simp only[pA,pS,pZ,pK,pV]
        rfl
       refine pu (i := 23) (N := some 55) (v := ?_) (a' := ?_) (bs 14680063 39) rfl rfl HT_ ?_ ?_ ?_
       rotate_left
       ·intro w'
        go_simp
        with_reducible rfl
       rotate_left
       ·simp only[pA,pS,pZ,pK,pV]
        rfl
       refine pu (i := 24) (N := some 56) (v := ?_) (a' := ?_) (bs 31457279 39) rfl rfl HT_ ?_ ?_ ?_
       rotate_left
       ·intro w'
        go_simp
        with_reducible rfl
       rotate_left
       ·simp only[pA,pS,pZ,pK,pV]
        rfl
       refine pu (i := 25) (N := some 57) (v := ?_) (a' := ?_) (bs 65011711 39) rfl rfl HT_ ?_ ?_ ?_
       rotate_left
       ·intro w'
        go_simp
        with_reducible rfl
       rotate_left
       ·simp only[pA,pS,pZ,pK,pV]
        rfl
       refine tk (i := 21) (N := some 53) (v := ?_) (a' := ?_) (bs 67108863 39) rfl rfl HT_ HW_ ?_ hHeld ?_ ?_
       rotate_left
       ·rintro w' ⟨s0, s1, s2, s3, s4, s5, s6, s7, s8, s9, s10, s11, s12, s13, s14, s15⟩
        go_simp
        with_reducible rfl
       rotate_left
       ·simp only[pA,pS,pZ,pK,pV]
        rfl
       refine tk (i := 26) (N := some 58) (v := ?_) (a' := ?_) (bs 134217727 39) rfl rfl HT_ HW_ ?_ hHeld ?_ ?_
       rotate_left
       ·rintro w' ⟨s0, s1, s2, s3, s4, s5, s6, s7, s8, s9, s10, s11, s12, s13, s14, s15⟩
        go_simp
        with_reducible rfl
       rotate_left
       ·simp only[pA,pS,pZ,pK,pV]
        rfl
       refine pu (i := 27) (N := some 59) (v := ?_) (a' := ?_) (bs 268435455 39) rfl rfl HT_ ?_ ?_ ?_
       rotate_left
       ·intro w'
        go_simp
        with_reducible rfl
       rotate_left
       ·simp only[pA,pS,pZ,pK,pV]
        rfl
       refine pu (i := 28) (N := some 60) (v := ?_) (a' := ?_) (bs 536870911 39) rfl rfl HT_ ?_ ?_ ?_
       rotate_left
       ·intro w'
        go_simp
        with_reducible rfl
       rotate_left
       ·simp only[pA,pS,pZ,pK,pV]
        rfl
       refine pn (i := 29) (N := some 61) (v := undef) (a' := ?_) (bs 1073741823 39) rfl rfl HT_ ?_ ?_
       rotate_left
       ·simp only[pA,pS,pZ,pK,pV]
        rfl
       refine pn (i := 30) (N := some 62) (v := undef) (a' := ?_) (bs 2147483647 39) rfl rfl HT_ ?_ ?_
       rotate_left
       ·simp only[pA,pS,pZ,pK,pV]
        rfl
       refine pn (i := 31) (N := some 63) (v := undef) (a' := ?_) (bs 4294967295 39) rfl rfl HT_ ?_ ?_
       rotate_left
       ·simp only[pA,pS,pZ,pK,pV]
        rfl
       refine pn (i := 32) (N := some 64) (v := undef) (a' := ?_) (bs 8589934591 39) rfl rfl HT_ ?_ ?_
       rotate_left
       ·simp only[pA,pS,pZ,pK,pV]
        rfl
       refine pn (i := 33) (N := some 65) (v := undef) (a' := ?_) (bs 17179869183 39) rfl rfl HT_ ?_ ?_
       rotate_left
       ·simp only[pA,pS,pZ,pK,pV]
        rfl
       refine pn (i := 34) (N := some 66) (v := undef) (a' := ?_) (bs 34359738367 39) rfl rfl HT_ ?_ ?_
       rotate_left
       ·simp only[pA,pS,pZ,pK,pV]
        rfl
       refine pn (i := 35) (N := some 67) (v := undef) (a' := ?_) (bs 68719476735 39) rfl rfl HT_ ?_ ?_
       rotate_left
       ·simp only[pA,pS,pZ,pK,pV]
        rfl
       refine pu (i := 36) (N := some 68) (v := ?_) (a' := ?_) (bs 137438953471 39) rfl rfl HT_ ?_ ?_ ?_
       rotate_left
       ·intro w'
        go_simp
        with_reducible rfl
       rotate_left
       ·simp only[pA,pS,pZ,pK,pV]
        rfl
       refine pu (i := 37) (N := some 69) (v := ?_) (a' := ?_) (bs 274877906943 39) rfl rfl HT_ ?_ ?_ ?_
       rotate_left
       ·intro w'
        go_simp
        with_reducible rfl
       rotate_left
       ·simp only[pA,pS,pZ,pK,pV]
        rfl
       refine pu (i := 38) (N := some 70) (v := ?_) (a' := ?_) (bs 549755813887 39) rfl rfl HT_ ?_ ?_ ?_
       rotate_left
       ·intro w'
        go_simp
        with_reducible rfl
       rotate_left
       ·simp only[pA,pS,pZ,pK,pV]
        rfl
       refine done_ (done_of HT_.out (by kernel_rfl)) ?_
       try go_wp2
       go_meet
       case rel => exact ⟨_, (false), (by first | rfl | (simp; done) | (simp [*]; done)), H', ⟨by have := HK1.out; have := HJ2.out; first | omega | exact Nat.le_refl _⟩, ⟨BT HB.out⟩⟩
      rw [if_pos c28] at H
      have c28b0 : (((rd_T33 l0 (ji21)).f1) == ((rd_T33 l0 x3_1).f1)) = true := beq_iff_eq.mpr c28
      have c28b1 : (((rd_T33 l0 (ji21)).f1) != ((rd_T33 l0 x3_1).f1)) = false := bne_eq_false_iff_eq.mpr c28
      clear c28
      have H' := AM_ H
      clear H
      try go_wp2
      replace HB := AM_ (below_drew1 HB.out)
      have p201 : 0 ≤ ((ji21) : Int) := DT
      have q201 : (ji21) < (l0.length : Int) := DT
      obtain ⟨ad201, A201_2, c201_2, A201_3, c201_3, e201, hx201_0, hx201_1, hx201_2, hx201_3, hl201_2, hi201_2, hl201_3, hi201_3⟩ := at_T33 HR0.out (ji21) p201 q201
      have hw201_3 := hx201_3
      have hw201_2 := hx201_2
      have hw201_1 := hx201_1
      have hw201_0 := hx201_0
      cases e201
      replace hx201_0 := BC HB.out hx201_0
      replace hx201_1 := BC HB.out hx201_1
      replace hx201_2 := BC HB.out hx201_2
      replace hx201_3 := BC HB.out hx201_3
      have HR201_2 := AM_ hi201_2
      have HC201_2 := AM_ hl201_2
      clear hi201_2 hl201_2
      have HR201_3 := AM_ hi201_3
      have HC201_3 := AM_ hl201_3
      clear hi201_3 hl201_3
      replace p201 := eq_true p201
      replace q201 := eq_true q201
      have p202 : 0 ≤ (x3_1 : Int) := DT
      have q202 : x3_1 < (l0.length : Int) := DT
      obtain ⟨ad202, A202_2, c202_2, A202_3, c202_3, e202, hx202_0, hx202_1, hx202_2, hx202_3, hl202_2, hi202_2, hl202_3, hi202_3⟩ := at_T33 HR0.out x3_1 p202 q202
      have hw202_3 := hx202_3
      have hw202_2 := hx202_2
      have hw202_1 := hx202_1
      have hw202_0 := hx202_0
      obtain rfl : ad201 = ad202 := (by injection e202)
      replace hx202_0 := BC HB.out hx202_0
      replace hx202_1 := BC HB.out hx202_1
      replace hx202_2 := BC HB.out hx202_2
      replace hx202_3 := BC HB.out hx202_3
      have HR202_2 := AM_ hi202_2
      have HC202_2 := AM_ hl202_2
      clear hi202_2 hl202_2
      have HR202_3 := AM_ hi202_3
      have HC202_3 := AM_ hl202_3
      clear hi202_3 hl202_3
      replace p202 := eq_true p202
      replace q202 := eq_true q202
      have p203 : 0 ≤ ((ji21) : Int) := DT
      have q203 : (ji21) < (l0.length : Int) := DT
      obtain ⟨ad203, A203_2, c203_2, A203_3, c203_3, e203, hx203_0, hx203_1, hx203_2, hx203_3, hl203_2, hi203_2, hl203_3, hi203_3⟩ := at_T33 HR0.out (ji21) p203 q203
      have hw203_3 := hx203_3
      have hw203_2 := hx203_2
      have hw203_1 := hx203_1
      have hw203_0 := hx203_0
      obtain rfl : ad201 = ad203 := (by injection e203)
      replace hx203_0 := BC HB.out hx203_0
      replace hx203_1 := BC HB.out hx203_1
      replace hx203_2 := BC HB.out hx203_2
      replace hx203_3 := BC HB.out hx203_3
      have HR203_2 := AM_ hi203_2
      have HC203_2 := AM_ hl203_2
      clear hi203_2 hl203_2
      have HR203_3 := AM_ hi203_3
      have HC203_3 := AM_ hl203_3
      clear hi203_3 hl203_3
      replace p203 := eq_true p203
      replace q203 := eq_true q203
      have ea_ := Option.some.inj (hx201_2.symm.trans hx203_2)
      injection ea_ with ea_ en_ ec_
      subst ea_
      subst ec_
      clear en_
      have ea_ := Option.some.inj (hx201_3.symm.trans hx203_3)
      injection ea_ with ea_ en_ ec_
      subst ea_
      subst ec_
      clear en_
      have p204 : 0 ≤ (x3_1 : Int) := DT
      have q204 : x3_1 < (l0.length : Int) := DT
      obtain ⟨ad204, A204_2, c204_2, A204_3, c204_3, e204, hx204_0, hx204_1, hx204_2, hx204_3, hl204_2, hi204_2, hl204_3, hi204_3⟩ := at_T33 HR0.out x3_1 p204 q204
      have hw204_3 := hx204_3
      have hw204_2 := hx204_2
      have hw204_1 := hx204_1
      have hw204_0 := hx204_0
      obtain rfl : ad201 = ad204 := (by injection e204)
      replace hx204_0 := BC HB.out hx204_0
      replace hx204_1 := BC HB.out hx204_1
      replace hx204_2 := BC HB.out hx204_2
      replace hx204_3 := BC HB.out hx204_3
      have HR204_2 := AM_ hi204_2
      have HC204_2 := AM_ hl204_2
      clear hi204_2 hl204_2
      have HR204_3 := AM_ hi204_3
      have HC204_3 := AM_ hl204_3
      clear hi204_3 hl204_3
      replace p204 := eq_true p204
      replace q204 := eq_true q204
      have ea_ := Option.some.inj (hx202_2.symm.trans hx204_2)
      injection ea_ with ea_ en_ ec_
      subst ea_
      subst ec_
      clear en_
      have ea_ := Option.some.inj (hx202_3.symm.trans hx204_3)
      injection ea_ with ea_ en_ ec_
      subst ea_
      subst ec_
      clear en_
      have p205 : 0 ≤ (x3_1 : Int) := DT
      have q205 : x3_1 < (l0.length : Int) := DT
      obtain ⟨ad205, A205_2, c205_2, A205_3, c205_3, e205, hx205_0, hx205_1, hx205_2, hx205_3, hl205_2, hi205_2, hl205_3, hi205_3⟩ := at_T33 HR0.out x3_1 p205 q205
      have hw205_3 := hx205_3
      have hw205_2 := hx205_2
      have hw205_1 := hx205_1
      have hw205_0 := hx205_0
      obtain rfl : ad201 = ad205 := (by injection e205)
      replace hx205_0 := BC HB.out hx205_0
      replace hx205_1 := BC HB.out hx205_1
      replace hx205_2 := BC HB.out hx205_2
      replace hx205_3 := BC HB.out hx205_3
      have HR205_2 := AM_ hi205_2
      have HC205_2 := AM_ hl205_2
      clear hi205_2 hl205_2
      have HR205_3 := AM_ hi205_3
      have HC205_3 := AM_ hl205_3
      clear hi205_3 hl205_3
      replace p205 := eq_true p205
      replace q205 := eq_true q205
      have ea_ := Option.some.inj (hx202_2.symm.trans hx205_2)
      injection ea_ with ea_ en_ ec_
      subst ea_
      subst ec_
      clear en_
      have ea_ := Option.some.inj (hx202_3.symm.trans hx205_3)
      injection ea_ with ea_ en_ ec_
      subst ea_
      subst ec_
      clear en_
      refine start_ (n := 39) (S := fun w' => w'.cell? (ad201.add (((ji21)).toNat * 4)) = some (.int .i64 ((rd_T33 l0 (ji21)).f0)) ∧ w'.cell? ⟨(ad201.add (((ji21)).toNat * 4)).block, (ad201.add (((ji21)).toNat * 4)).off + 1, none⟩ = some (.int .i64 ((rd_T33 l0 (ji21)).f1)) ∧ w'.cell? ⟨(ad201.add (((ji21)).toNat * 4)).block, (ad201.add (((ji21)).toNat * 4)).off + 2, none⟩ = some (.slice A201_2 ((rd_T33 l0 (ji21)).f2).length c201_2) ∧ w'.cell? ⟨(ad201.add (((ji21)).toNat * 4)).block, (ad201.add (((ji21)).toNat * 4)).off + 3, none⟩ = some (.slice A201_3 ((rd_T33 l0 (ji21)).f3).length c201_3) ∧ w'.cell? (ad201.add ((x3_1).toNat * 4)) = some (.int .i64 ((rd_T33 l0 x3_1).f0)) ∧ w'.cell? ⟨(ad201.add ((x3_1).toNat * 4)).block, (ad201.add ((x3_1).toNat * 4)).off + 1, none⟩ = some (.int .i64 ((rd_T33 l0 x3_1).f1)) ∧ w'.cell? ⟨(ad201.add ((x3_1).toNat * 4)).block, (ad201.add ((x3_1).toNat * 4)).off + 2, none⟩ = some (.slice A202_2 ((rd_T33 l0 x3_1).f2).length c202_2) ∧ w'.cell? ⟨(ad201.add ((x3_1).toNat * 4)).block, (ad201.add ((x3_1).toNat * 4)).off + 3, none⟩ = some (.slice A202_3 ((rd_T33 l0 x3_1).f3).length c202_3) ∧ w'.cell? (ad201.add (((ji21)).toNat * 4)) = some (.int .i64 ((rd_T33 l0 (ji21)).f0)) ∧ w'.cell? ⟨(ad201.add (((ji21)).toNat * 4)).block, (ad201.add (((ji21)).toNat * 4)).off + 1, none⟩ = some (.int .i64 ((rd_T33 l0 (ji21)).f1)) ∧ w'.cell? ⟨(ad201.add (((ji21)).toNat * 4)).block, (ad201.add (((ji21)).toNat * 4)).off + 2, none⟩ = some (.slice A201_2 ((rd_T33 l0 (ji21)).f2).length c201_2) ∧ w'.cell? ⟨(ad201.add (((ji21)).toNat * 4)).block, (ad201.add (((ji21)).toNat * 4)).off + 3, none⟩ = some (.slice A201_3 ((rd_T33 l0 (ji21)).f3).length c201_3) ∧ w'.cell? (ad201.add ((x3_1).toNat * 4)) = some (.int .i64 ((rd_T33 l0 x3_1).f0)) ∧ w'.cell? ⟨(ad201.add ((x3_1).toNat * 4)).block, (ad201.add ((x3_1).toNat * 4)).off + 1, none⟩ = some (.int .i64 ((rd_T33 l0 x3_1).f1)) ∧ w'.cell? ⟨(ad201.add ((x3_1).toNat * 4)).block, (ad201.add ((x3_1).toNat * 4)).off + 2, none⟩ = some (.slice A202_2 ((rd_T33 l0 x3_1).f2).length c202_2) ∧ w'.cell? ⟨(ad201.add ((x3_1).toNat * 4)).block, (ad201.add ((x3_1).toNat * 4)).off + 3, none⟩ = some (.slice A202_3 ((rd_T33 l0 x3_1).f3).length c202_3) ∧ w'.cell? (ad201.add ((x3_1).toNat * 4)) = some (.int .i64 ((rd_T33 l0 x3_1).f0)) ∧ w'.cell? ⟨(ad201.add ((x3_1).toNat * 4)).block, (ad201.add ((x3_1).toNat * 4)).off + 1, none⟩ = some (.int .i64 ((rd_T33 l0 x3_1).f1)) ∧ w'.cell? ⟨(ad201.add ((x3_1).toNat * 4)).block, (ad201.add ((x3_1).toNat * 4)).off + 2, none⟩ = some (.slice A202_2 ((rd_T33 l0 x3_1).f2).length c202_2) ∧ w'.cell? ⟨(ad201.add ((x3_1).toNat * 4)).block, (ad201.add ((x3_1).toNat * 4)).off + 3, none⟩ = some (.slice A202_3 ((rd_T33 l0 x3_1).f3).length c202_3)) (ds := []) (bs 0 39) (by kernel_rfl) rfl rfl ⟨(BD HB.out hw201_0), (BD HB.out hw201_1), (BD HB.out hw201_2), (BD HB.out hw201_3), (BD HB.out hw202_0), (BD HB.out hw202_1), (BD HB.out hw202_2), (BD HB.out hw202_3), (BD HB.out hw203_0), (BD HB.out hw203_1), (BD HB.out hw203_2), (BD HB.out hw203_3), (BD HB.out hw204_0), (BD HB.out hw204_1), (BD HB.out hw204_2), (BD HB.out hw204_3), (BD HB.out hw205_0), (BD HB.out hw205_1), (BD HB.out hw205_2), (BD HB.out hw205_3)⟩ (fun hHeld => ?_); refine with_tabW spec_IsHistory.tab6 spec_IsHistory.bits6 (fun HT_ HW_ => ?_)
      generalize wc.drew = w29 at HB HR201_2 HR201_3 HR202_2 HR202_3 HR203_2 HR203_3 HR204_2 HR204_3 HR205_2 HR205_3 hx201_0 hx201_1 hx201_2 hx201_3 hx202_0 hx202_1 hx202_2 hx202_3 hx203_0 hx203_1 hx203_2 hx203_3 hx204_0 hx204_1 hx204_2 hx204_3 hx205_0 hx205_1 hx205_2 hx205_3 hHeld ⊢
      refine pu (i := 0) (N := some 32) (v := ?_) (a' := ?_) (bs 1 39) rfl rfl HT_ ?_ ?_ ?_
      rotate_left
      ·intro w'
       go_simp
       with_reducible rfl
      rotate_left
      ·simp only[pA,pS,pZ,pK,pV]
       rfl
      refine pu (i := 1) (N := some 33) (v := ?_) (a' := ?_) (bs 3 39) rfl rfl HT_ ?_ ?_ ?_
      rotate_left
      ·intro w'
       go_simp
       with_reducible rfl
      rotate_left
      ·simp only[pA,pS,pZ,pK,pV]
       rfl
      refine pu (i := 2) (N := some 34) (v := ?_) (a' := ?_) (bs 7 39) rfl rfl HT_ ?_ ?_ ?_
      rotate_left
      ·intro w'
       go_simp
       with_reducible rfl
      rotate_left
      ·simp only[pA,pS,pZ,pK,pV]
       rfl
      refine pu (i := 3) (N := some 35) (v := ?_) (a' := ?_) (bs 15 39) rfl rfl HT_ ?_ ?_ ?_
      rotate_left
      ·intro w'
       go_simp
       with_reducible rfl
      rotate_left
      ·simp only[pA,pS,pZ,pK,pV]
       rfl
      refine pu (i := 4) (N := some 36) (v := ?_) (a' := ?_) (bs 31 39) rfl rfl HT_ ?_ ?_ ?_
      rotate_left
      ·intro w'
       go_simp
       with_reducible rfl
      rotate_left
      ·simp only[pA,pS,pZ,pK,pV]
       rfl
      refine pu (i := 5) (N := some 37) (v := ?_) (a' := ?_) (bs 63 39) rfl rfl HT_ ?_ ?_ ?_
      rotate_left
      ·intro w'
       go_simp
       with_reducible rfl
      rotate_left
      ·simp only[pA,pS,pZ,pK,pV]
       rfl
      refine pu (i := 6) (N := some 38) (v := ?_) (a' := ?_) (bs 127 39) rfl rfl HT_ ?_ ?_ ?_
      rotate_left
      ·intro w'
       go_simp
       with_reducible rfl
      rotate_left
      ·simp only[pA,pS,pZ,pK,pV]
       rfl
      refine pu (i := 7) (N := some 39) (v := ?_) (a' := ?_) (bs 255 39) rfl rfl HT_ ?_ ?_ ?_
      rotate_left
      ·intro w'
       go_simp
       with_reducible rfl
      rotate_left
      ·simp only[pA,pS,pZ,pK,pV]
       rfl
      refine pu (i := 9) (N := some 41) (v := ?_) (a' := ?_) (bs 767 39) rfl rfl HT_ ?_ ?_ ?_
      rotate_left
      ·intro w'
       go_simp
       with_reducible rfl
      rotate_left
      ·simp only[pA,pS,pZ,pK,pV]
       rfl
      refine pu (i := 10) (N := some 42) (v := ?_) (a' := ?_) (bs 1791 39) rfl rfl HT_ ?_ ?_ ?_
      rotate_left
      ·intro w'
       go_simp
       with_reducible rfl
      rotate_left
      ·simp only[pA,pS,pZ,pK,pV]
       rfl
      refine pu (i := 11) (N := some 43) (v := ?_) (a' := ?_) (bs 3839 39) rfl rfl HT_ ?_ ?_ ?_
      rotate_left
      ·intro w'
       go_simp
       with_reducible rfl
      rotate_left
      ·simp only[pA,pS,pZ,pK,pV]
       rfl
      refine pu (i := 12) (N := some 44) (v := ?_) (a' := ?_) (bs 7935 39) rfl rfl HT_ ?_ ?_ ?_
      rotate_left
      ·intro w'
       go_simp
       with_reducible rfl
      rotate_left
      ·simp only[pA,pS,pZ,pK,pV]
       rfl
      refine tk (i := 8) (N := some 40) (v := ?_) (a' := ?_) (bs 8191 39) rfl rfl HT_ HW_ ?_ hHeld ?_ ?_
      rotate_left
      ·rintro w' ⟨s0, s1, s2, s3, s4, s5, s6, s7, s8, s9, s10, s11, s12, s13, s14, s15, s16, s17, s18, s19⟩
       go_simp
       with_reducible rfl
      rotate_left
      ·simp only[pA,pS,pZ,pK,pV]
       rfl
      refine tk (i := 13) (N := some 45) (v := ?_) (a' := ?_) (bs 16383 39) rfl rfl HT_ HW_ ?_ hHeld ?_ ?_
      rotate_left
      ·rintro w' ⟨s0, s1, s2, s3, s4, s5, s6, s7, s8, s9, s10, s11, s12, s13, s14, s15, s16, s17, s18, s19⟩
       go_simp
       with_reducible rfl
      rotate_left
      ·simp only[pA,pS,pZ,pK,pV]
       rfl
      refine pu (i := 14) (N := some 46) (v := ?_) (a' := ?_) (bs 32767 39) rfl rfl HT_ ?_ ?_ ?_
      rotate_left
      ·intro w'
       go_simp
       with_reducible rfl
      rotate_left
      ·simp only[pA,pS,pZ,pK,pV]
       rfl
      refine pu (i := 15) (N := some 47) (v := ?_) (a' := ?_) (bs 65535 39) rfl rfl HT_ ?_ ?_ ?_
      rotate_left
      ·intro w'
       go_simp
       with_reducible rfl
      rotate_left
      ·simp only[pA,pS,pZ,pK,pV]
       rfl
      refine pu (i := 16) (N := some 48) (v := ?_) (a' := ?_) (bs 131071 39) rfl rfl HT_ ?_ ?_ ?_
      rotate_left
      ·intro w'
       go_simp
       with_reducible rfl
      rotate_left
      ·simp only[pA,pS,pZ,pK,pV]
       rfl
      refine pu (i := 17) (N := some 49) (v := ?_) (a' := ?_) (bs 262143 39) rfl rfl HT_ ?_ ?_ ?_
      rotate_left
      ·intro w'
       go_simp
       with_reducible rfl
      rotate_left
      ·simp only[pA,pS,pZ,pK,pV]
       rfl
      refine pu (i := 18) (N := some 50) (v := ?_) (a' := ?_) (bs 524287 39) rfl rfl HT_ ?_ ?_ ?_
      rotate_left
      ·intro w'
       go_simp
       with_reducible rfl
      rotate_left
      ·simp only[pA,pS,pZ,pK,pV]
       rfl
      refine pu (i := 19) (N := some 51) (v := ?_) (a' := ?_) (bs 1048575 39) rfl rfl HT_ ?_ ?_ ?_
      rotate_left
      ·intro w'
       go_simp
       with_reducible rfl
      rotate_left
      ·simp only[pA,pS,pZ,pK,pV]
       rfl
      refine pu (i := 20) (N := some 52) (v := ?_) (a' := ?_) (bs 2097151 39) rfl rfl HT_ ?_ ?_ ?_
      rotate_left
      ·intro w'
       go_simp
       with_reducible rfl
      rotate_left
      ·simp only[pA,pS,pZ,pK,pV]
       rfl
      refine pu (i := 22) (N := some 54) (v := ?_) (a' := ?_) (bs 6291455 39) rfl rfl HT_ ?_ ?_ ?_
      rotate_left
      ·intro w'
       go_simp
       with_reducible rfl
      rotate_left
      ·simp only[pA,pS,pZ,pK,pV]
       rfl
      refine pu (i := 23) (N := some 55) (v := ?_) (a' := ?_) (bs 14680063 39) rfl rfl HT_ ?_ ?_ ?_
      rotate_left
      ·intro w'
       go_simp
       with_reducible rfl
      rotate_left
      ·simp only[pA,pS,pZ,pK,pV]
       rfl
      refine pu (i := 24) (N := some 56) (v := ?_) (a' := ?_) (bs 31457279 39) rfl rfl HT_ ?_ ?_ ?_
      rotate_left
      ·intro w'
       go_simp
       with_reducible rfl
      rotate_left
      ·simp only[pA,pS,pZ,pK,pV]
       rfl
      refine pu (i := 25) (N := some 57) (v := ?_) (a' := ?_) (bs 65011711 39) rfl rfl HT_ ?_ ?_ ?_
      rotate_left
      ·intro w'
       go_simp
       with_reducible rfl
      rotate_left
      ·simp only[pA,pS,pZ,pK,pV]
       rfl
      refine tk (i := 21) (N := some 53) (v := ?_) (a' := ?_) (bs 67108863 39) rfl rfl HT_ HW_ ?_ hHeld ?_ ?_
      rotate_left
      ·rintro w' ⟨s0, s1, s2, s3, s4, s5, s6, s7, s8, s9, s10, s11, s12, s13, s14, s15, s16, s17, s18, s19⟩
       go_simp
       with_reducible rfl
      rotate_left
      ·simp only[pA,pS,pZ,pK,pV]
       rfl
      refine tk (i := 26) (N := some 58) (v := ?_) (a' := ?_) (bs 134217727 39) rfl rfl HT_ HW_ ?_ hHeld ?_ ?_
      rotate_left
      ·rintro w' ⟨s0, s1, s2, s3, s4, s5, s6, s7, s8, s9, s10, s11, s12, s13, s14, s15, s16, s17, s18, s19⟩
       go_simp
       with_reducible rfl
      rotate_left
      ·simp only[pA,pS,pZ,pK,pV]
       rfl
      refine pu (i := 27) (N := some 59) (v := ?_) (a' := ?_) (bs 268435455 39) rfl rfl HT_ ?_ ?_ ?_
      rotate_left
      ·intro w'
       go_simp
       with_reducible rfl
      rotate_left
      ·simp only[pA,pS,pZ,pK,pV]
       rfl
      refine pu (i := 28) (N := some 60) (v := ?_) (a' := ?_) (bs 536870911 39) rfl rfl HT_ ?_ ?_ ?_
      rotate_left
      ·intro w'
       go_simp
       with_reducible rfl
      rotate_left
      ·simp only[pA,pS,pZ,pK,pV]
       rfl
      refine pu (i := 29) (N := some 61) (v := ?_) (a' := ?_) (bs 1073741823 39) rfl rfl HT_ ?_ ?_ ?_
      rotate_left
      ·intro w'
       go_simp
       with_reducible rfl
      rotate_left
      ·simp only[pA,pS,pZ,pK,pV]
       rfl
      refine pu (i := 30) (N := some 62) (v := ?_) (a' := ?_) (bs 2147483647 39) rfl rfl HT_ ?_ ?_ ?_
      rotate_left
      ·intro w'
       go_simp
       with_reducible rfl
      rotate_left
      ·simp only[pA,pS,pZ,pK,pV]
       rfl
      refine pu (i := 31) (N := some 63) (v := ?_) (a' := ?_) (bs 4294967295 39) rfl rfl HT_ ?_ ?_ ?_
      rotate_left
      ·intro w'
       go_simp
       with_reducible rfl
      rotate_left
      ·simp only[pA,pS,pZ,pK,pV]
       rfl
      refine pu (i := 32) (N := some 64) (v := ?_) (a' := ?_) (bs 8589934591 39) rfl rfl HT_ ?_ ?_ ?_
      rotate_left
      ·intro w'
       go_simp
       with_reducible rfl
      rotate_left
      ·simp only[pA,pS,pZ,pK,pV]
       rfl
      refine tk (i := 33) (N := some 65) (v := ?_) (a' := ?_) (bs 17179869183 39) rfl rfl HT_ HW_ ?_ hHeld ?_ ?_
      rotate_left
      ·rintro w' ⟨s0, s1, s2, s3, s4, s5, s6, s7, s8, s9, s10, s11, s12, s13, s14, s15, s16, s17, s18, s19⟩
       go_simp
       with_reducible rfl
      rotate_left
      ·simp only[pA,pS,pZ,pK,pV]
       rfl
      refine pu (i := 34) (N := some 66) (v := ?_) (a' := ?_) (bs 34359738367 39) rfl rfl HT_ ?_ ?_ ?_
      rotate_left
      ·intro w'
       go_simp
       with_reducible rfl
      rotate_left
      ·simp only[pA,pS,pZ,pK,pV]
       rfl
      refine pu (i := 35) (N := some 67) (v := ?_) (a' := ?_) (bs 68719476735 39) rfl rfl HT_ ?_ ?_ ?_
      rotate_left
      ·intro w'
       go_simp
       with_reducible rfl
      rotate_left
      ·simp only[pA,pS,pZ,pK,pV]
       rfl
      refine pu (i := 36) (N := some 68) (v := ?_) (a' := ?_) (bs 137438953471 39) rfl rfl HT_ ?_ ?_ ?_
      rotate_left
      ·intro w'
       go_simp
       with_reducible rfl
      rotate_left
      ·simp only[pA,pS,pZ,pK,pV]
       rfl
      refine pu (i := 37) (N := some 69) (v := ?_) (a' := ?_) (bs 274877906943 39) rfl rfl HT_ ?_ ?_ ?_
      rotate_left
      ·intro w'
       go_simp
       with_reducible rfl
      rotate_left
      ·simp only[pA,pS,pZ,pK,pV]
       rfl
      refine pu (i := 38) (N := some 70) (v := ?_) (a' := ?_) (bs 549755813887 39) rfl rfl HT_ ?_ ?_ ?_
      rotate_left
      ·intro w'
       go_simp
       with_reducible rfl
      rotate_left
      ·simp only[pA,pS,pZ,pK,pV]
       rfl
      refine done_ (done_of HT_.out (by kernel_rfl)) ?_
      try go_wp2
      go_meet
      case rel => exact ⟨_, (decide ((((rd_T33 l0 x3_1).f3).length : Int) > 0)), (by first | rfl | (simp; done) | (simp [*]; done)), H', ⟨by have := HK1.out; have := HJ2.out; first | omega | exact Nat.le_refl _⟩, ⟨BT HB.out⟩⟩
     case rest =>
      clear HC19
      try clear c2
      try clear p2
      try clear q2
      try clear hx2
      try clear c20
      try clear c20b0
      try clear p20
      try clear q20
      try clear hx20
      try clear c22
      try clear c23
      try clear c24
      try clear c25
      try clear c28
      try clear c28b0
      try clear c28b1
      try clear hx201_0
      try clear hx201_1
      try clear hx201_2
      try clear hx201_3
      try clear hx202_0
      try clear hx202_1
      try clear hx202_2
      try clear hx202_3
      try clear hx203_0
      try clear hx203_1
      try clear hx203_2
      try clear hx203_3
      try clear hx204_0
      try clear hx204_1
      try clear hx204_2
      try clear hx204_3
      try clear p201
      try clear p202
      try clear p203
      try clear p204
      try clear q201
      try clear q202
      try clear q203
      try clear q204
      obtain ⟨kq, x70_18, rfl, HA, HJ18, HB⟩ := hcut
      cases kq with
      | zero => exact absurd HA.out (by simp [spec_IsHistory.j2])
      | succ kj18 =>
       have H := HA.out
       clear HA
       simp only [spec_IsHistory.j2] at H
       by_cases c32 : x70_18 = true
       ·subst c32
        have H1 : (some false) = some r := by rw [if_pos rfl] at H; exact H
        clear H
        have H := H1
        clear H1
        obtain rfl := Option.some.inj H
        go_wp2
        go_ret
        exact QT (BT HB.out)
       replace c32 := Bool.eq_false_iff.mpr c32
       subst c32
       have H1 : (spec_IsHistory.l0 kj18 l0 (wrap64 (x3_1 + 1))) = some r := by rw [if_neg (show ¬ (false = true) by decide)] at H; exact H
       clear H
       have H := H1
       clear H1
       have H' := AM_ H
       clear H
       go_wp2
       go_roundg kj18
       case measure => have := HK1.out; have := HJ2.out; have := HJ18.out; omega
       case rel => exact ⟨(wrap64 (x3_1 + 1)), (by first | rfl | (simp; done) | (simp [*]; done)), H', ⟨by have := HK1.out; have := HJ2.out; have := HJ18.out; omega⟩, ⟨BT HB.out⟩⟩

end Go.Proofs.YtdfbmaiboadodaaGreatDoor.PFnExactParseHistory
