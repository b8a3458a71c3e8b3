-- Printed by a program of mine (wip/myprint.py), which runs the printer of the kit with contracts of mine beside it.
import Derived.Test.YtakpkmlbklahhaaPFnExactWriteCodex0
namespace Go.Proofs.Ytakpkmlbklahhaa.PFnExactWriteCode
open Go.RowKit Go.Proofs.YtakpkmlbklahhaaW.PrintWords Go.Proofs.YtakpkmlbklahhaaW.PrintLast Go.Proofs.YtakpkmlbklahhaaW.PrintMore
attribute [local go_sem] max2_int min2_int max_two min_two max_three min_three max_four min_four   -- for this text's walks alone
set_option linter.unusedVariables false
set_option linter.unusedSimpArgs false

/-! ### spec_LockOwner: function 135 -/
def spec_LockOwner.l0 : Nat → List (S150) → Int → Int → Option (Int)
 | 0, _, _, _ => none
 | k + 1, x0, x1, x5 => if x5 < (x0.length : Int) then (if 0 ≤ x5 then (if ((rd_T150 x0 x5).f0) = x1 then (some ((rd_T150 x0 x5).f1)) else (spec_LockOwner.l0 k x0 x1 (wrap64 (x5 + 1)))) else (none)) else (some 0)
def spec_LockOwner.f (k : Nat) (l0 : List (S150)) (a1 : Int) : Option (Int) := spec_LockOwner.l0 k l0 a1 0
theorem spec_LockOwner.mono_l : ∀ k, (∀ y0 y1 y2, LeO (spec_LockOwner.l0 k y0 y1 y2) (spec_LockOwner.l0 (k + 1) y0 y1 y2))
 | 0 => fun _ _ _ r h => by simp [spec_LockOwner.l0] at h
 | k + 1 => by
  have ih0 := spec_LockOwner.mono_l k
  ·intro y0 y1 y2
   unfold spec_LockOwner.l0
   repeat' first
   | (with_reducible exact ih0 _ _ _)
   | (with_reducible exact LeO.refl _)
   | (with_reducible exact LeO.none _)
   | (with_reducible refine LeO.ite ?_ ?_)
   | (with_reducible refine LeO.bind ?_ (fun _ => ?_))
   | exact ih0 _ _ _
   | exact LeO.none _
   | refine LeO.ite ?_ ?_
   | refine LeO.bind ?_ (fun _ => ?_)
theorem spec_LockOwner.mono : ∀ a0 a1 k, LeO (spec_LockOwner.f k a0 a1) (spec_LockOwner.f (k + 1) a0 a1) := by
 intro a0 a1 k
 have ih0 := spec_LockOwner.mono_l k
 unfold spec_LockOwner.f
 repeat' first
   | (with_reducible exact ih0 _ _ _)
   | (with_reducible exact LeO.refl _)
   | (with_reducible exact LeO.none _)
   | (with_reducible refine LeO.ite ?_ ?_)
   | (with_reducible refine LeO.bind ?_ (fun _ => ?_))
   | exact ih0 _ _ _
   | exact LeO.none _
   | refine LeO.ite ?_ ?_
   | refine LeO.bind ?_ (fun _ => ?_)
set_option maxHeartbeats 8000000 in
set_option maxRecDepth 100000 in
theorem spec_LockOwner.calls (k : Nat) (A0 : Option Addr) (c0 : Nat) (l0 : List (S150)) (a1 : Int) (r : Int) (w : World) (hr0 : Kd.C k150 w A0 l0.length l0) (hc0 : l0.length ≤ c0) (h : spec_LockOwner.f k l0 a1 = some r) :
  Calls Try.prog 135 #[.slice A0 l0.length c0, .int .i64 a1] w fun e w' => e = .returned (.int .i64 r) ∧ Drawn0 w w' := by
 have HR0 := AM_ hr0
 have HC0 := AM_ hc0
 clear hr0 hc0
 have H : (spec_LockOwner.l0 k l0 a1 0) = some r := h
 clear h
 have H' := AM_ H
 clear H
 go_enter Try.func135, Try.ntmps135
 go_wp2
 go_loopg [5] k (fun kq v5 w' => ∃ (x5_1 : Int), v5 = .int .i64 x5_1 ∧ Aside0 (spec_LockOwner.l0 kq l0 a1 x5_1 = some r) ∧ Aside0 (kq ≤ k) ∧ Drawn0 w w')
 case atStart => exact ⟨(0), (by first | rfl | (simp; done) | (simp [*]; done)), H', ⟨Nat.le_refl _⟩, by repeat (first | exact Drawn0.refl _ | apply Drawn0.step)⟩
 case round =>
  clear H'
  try clear c1
  try clear p2
  obtain ⟨x5_1, rfl, HA, HK1, ⟨m1, rfl⟩⟩ := hrel
  cases gk with
  | zero => exact absurd HA.out (by simp [spec_LockOwner.l0])
  | succ k1 =>
   have H := HA.out
   clear HA
   simp only [spec_LockOwner.l0] at H
   by_cases c3 : x5_1 < (l0.length : Int)
   rotate_left
   ·rw [if_neg c3] at H
    have c3b0 : decide (x5_1 < (l0.length : Int)) = false := decide_eq_false c3
    clear c3
    obtain rfl := Option.some.inj H
    go_wp2
    go_ret
    exact ⟨by first | rfl | (simp; done) | (simp [*]; done), by repeat (first | exact Drawn0.refl _ | apply Drawn0.step)⟩
   rw [if_pos c3] at H
   have c3b0 : decide (x5_1 < (l0.length : Int)) = true := decide_eq_true c3
   clear c3
   by_cases c4 : 0 ≤ x5_1
   rotate_left
   ·rw [if_neg c4] at H
    exact absurd H (by simp)
   rw [if_pos c4] at H
   have c4b0 : decide (0 ≤ x5_1) = true := decide_eq_true c4
   clear c4
   by_cases c5 : ((rd_T150 l0 x5_1).f0) = a1
   rotate_left
   ·rw [if_neg c5] at H
    have c5b0 : (((rd_T150 l0 x5_1).f0) == a1) = false := beq_eq_false_iff_ne.mpr c5
    have c5b1 : (((rd_T150 l0 x5_1).f0) != a1) = true := bne_iff_ne.mpr c5
    have H' := AM_ H
    clear H
    have p320 : 0 ≤ (x5_1 : Int) := DT
    have q320 : x5_1 < (l0.length : Int) := DT
    obtain ⟨ad320, e320, hx320_0, hx320_1⟩ := at_T150 HR0.out x5_1 p320 q320
    cases e320
    replace p320 := eq_true p320
    replace q320 := eq_true q320
    go_wp2
    go_roundg k1
    case measure => have := HK1.out; omega
    case rel => exact ⟨(wrap64 (x5_1 + 1)), (by first | rfl | (simp; done) | (simp [*]; done)), H', ⟨by have := HK1.out; omega⟩, by repeat (first | exact Drawn0.refl _ | apply Drawn0.step)⟩
   rw [if_pos c5] at H
   have c5b0 : (((rd_T150 l0 x5_1).f0) == a1) = true := beq_iff_eq.mpr c5
   have c5b1 : (((rd_T150 l0 x5_1).f0) != a1) = false := bne_eq_false_iff_eq.mpr c5
   clear c5
   obtain rfl := Option.some.inj H
   have p320 : 0 ≤ (x5_1 : Int) := DT
   have q320 : x5_1 < (l0.length : Int) := DT
   obtain ⟨ad320, e320, hx320_0, hx320_1⟩ := at_T150 HR0.out x5_1 p320 q320
   cases e320
   replace p320 := eq_true p320
   replace q320 := eq_true q320
   have p321 : 0 ≤ (x5_1 : Int) := DT
   have q321 : x5_1 < (l0.length : Int) := DT
   obtain ⟨ad321, e321, hx321_0, hx321_1⟩ := at_T150 HR0.out x5_1 p321 q321
   obtain rfl : ad320 = ad321 := (by injection e321)
   replace p321 := eq_true p321
   replace q321 := eq_true q321
   go_wp2
   go_ret
   exact ⟨by first | rfl | (simp; done) | (simp [*]; done), by repeat (first | exact Drawn0.refl _ | apply Drawn0.step)⟩

end Go.Proofs.Ytakpkmlbklahhaa.PFnExactWriteCode
