-- Printed by a program of mine (wip/myprint.py), which runs the printer of the kit with contracts of mine beside it.
import Derived.Test.YtgpmfkmdchcagaaDoorPFnExactParseOpsx0
import Derived.Test.YtgpmfkmdchcagaaDoorPFnExactParseOpsx7
import Derived.Test.YtgpmfkmdchcagaaDoorPFnExactParseOpsx11
namespace Go.Proofs.YtgpmfkmdchcagaaDoor.PFnExactParseOps
open Go.RowKit Go.Proofs.YtgpmfkmdchcagaaDoorW.PrintWords Go.Proofs.YtgpmfkmdchcagaaDoorW.PrintLast Go.Proofs.YtgpmfkmdchcagaaDoorW.PrintMore
attribute [local go_sem] max2_int min2_int max_two min_two max_three min_three max_four min_four   -- for this text's walks alone
set_option linter.unusedVariables false
set_option linter.unusedSimpArgs false

/-! ### laws_heldOpS: function 10 -/
def laws_heldOpS.l0 : Nat → List (S36) → Int → Int → Option (Int)
 | 0, _, _, _ => none
 | k + 1, x0, x1, x5 => if x5 < (x0.length : Int) then (if 0 ≤ x5 then (if ((rd_T36 x0 x5).f0) = x1 then (if ((rd_T36 x0 x5).f1) = (wrap64 (x1 + 1)) then (if ((rd_T36 x0 x5).f2) = (wrap64 ((wrap64 (x1 + 1)) + 1)) then (if ((rd_T36 x0 x5).f3) = (wrap64 ((wrap64 ((wrap64 (x1 + 1)) + 1)) + 1)) then (if ((rd_T36 x0 x5).f4) = (wrap64 ((wrap64 ((wrap64 ((wrap64 (x1 + 1)) + 1)) + 1)) + 1)) then (if ((rd_T36 x0 x5).f5) = (wrap64 ((wrap64 ((wrap64 ((wrap64 ((wrap64 (x1 + 1)) + 1)) + 1)) + 1)) + 1)) then (laws_heldOpS.l0 k x0 (wrap64 ((wrap64 ((wrap64 ((wrap64 ((wrap64 ((wrap64 (x1 + 1)) + 1)) + 1)) + 1)) + 1)) + 1)) (wrap64 (x5 + 1))) else (some (-1))) else (some (-1))) else (some (-1))) else (some (-1))) else (some (-1))) else (some (-1))) else (none)) else (some x1)
def laws_heldOpS.f (k : Nat) (l0 : List (S36)) (a1 : Int) : Option (Int) := laws_heldOpS.l0 k l0 a1 0
theorem laws_heldOpS.mono_l : ∀ k, (∀ y0 y1 y2, LeO (laws_heldOpS.l0 k y0 y1 y2) (laws_heldOpS.l0 (k + 1) y0 y1 y2))
 | 0 => fun _ _ _ r h => by simp [laws_heldOpS.l0] at h
 | k + 1 => by
  have ih0 := laws_heldOpS.mono_l k
  ·intro y0 y1 y2
   unfold laws_heldOpS.l0
   repeat' first
   | (with_reducible exact ih0 _ _ _)
   | (with_reducible exact LeO.refl _)
   | (with_reducible exact LeO.none _)
   | (with_reducible refine LeO.ite ?_ ?_)
   | (with_reducible refine LeO.bind ?_ (fun _ => ?_))
   | exact ih0 _ _ _
   | exact LeO.none _
   | refine LeO.ite ?_ ?_
   | refine LeO.bind ?_ (fun _ => ?_)
theorem laws_heldOpS.mono : ∀ a0 a1 k, LeO (laws_heldOpS.f k a0 a1) (laws_heldOpS.f (k + 1) a0 a1) := by
 intro a0 a1 k
 have ih0 := laws_heldOpS.mono_l k
 unfold laws_heldOpS.f
 repeat' first
   | (with_reducible exact ih0 _ _ _)
   | (with_reducible exact LeO.refl _)
   | (with_reducible exact LeO.none _)
   | (with_reducible refine LeO.ite ?_ ?_)
   | (with_reducible refine LeO.bind ?_ (fun _ => ?_))
   | exact ih0 _ _ _
   | exact LeO.none _
   | refine LeO.ite ?_ ?_
   | refine LeO.bind ?_ (fun _ => ?_)
set_option maxHeartbeats 8000000 in
set_option maxRecDepth 100000 in
theorem laws_heldOpS.calls (k : Nat) (A0 : Option Addr) (c0 : Nat) (l0 : List (S36)) (a1 : Int) (r : Int) (w : World) (hr0 : Kd.C k36 w A0 l0.length l0) (hc0 : l0.length ≤ c0) (h : laws_heldOpS.f k l0 a1 = some r) :
  Calls Tryd.prog 10 #[.slice A0 l0.length c0, .int .i64 a1] w fun e w' => e = .returned (.int .i64 r) ∧ Drawn0 w w' := by
 have HR0 := AM_ hr0
 have HC0 := AM_ hc0
 clear hr0 hc0
 have H : (laws_heldOpS.l0 k l0 a1 0) = some r := h
 clear h
 have H' := AM_ H
 clear H
 go_enter Tryd.func10, Tryd.ntmps10
 go_wp2
 go_loopg [1, 5] k (fun kq v1 v5 w' => ∃ (x1_1 : Int) (x5_1 : Int), v1 = .int .i64 x1_1 ∧ v5 = .int .i64 x5_1 ∧ Aside0 (laws_heldOpS.l0 kq l0 x1_1 x5_1 = some r) ∧ Aside0 (kq ≤ k) ∧ Drawn0 w w')
 case atStart => exact ⟨(a1), (0), (by first | rfl | (simp; done) | (simp [*]; done)), (by first | rfl | (simp; done) | (simp [*]; done)), H', ⟨Nat.le_refl _⟩, by repeat (first | exact Drawn0.refl _ | apply Drawn0.step)⟩
 case round =>
  clear H'
  try clear c1
  try clear p2
  obtain ⟨x1_1, x5_1, rfl, rfl, HA, HK1, ⟨m1, rfl⟩⟩ := hrel
  cases gk with
  | zero => exact absurd HA.out (by simp [laws_heldOpS.l0])
  | succ k1 =>
   have H := HA.out
   clear HA
   simp only [laws_heldOpS.l0] at H
   by_cases c3 : x5_1 < (l0.length : Int)
   rotate_left
   ·rw [if_neg c3] at H
    have c3b0 : decide (x5_1 < (l0.length : Int)) = false := decide_eq_false c3
    clear c3
    obtain rfl := Option.some.inj H
    go_wp2
    go_ret
    exact ⟨by first | rfl | (simp; done) | (simp [*]; done), by repeat (first | exact Drawn0.refl _ | apply Drawn0.step)⟩
   rw [if_pos c3] at H
   have c3b0 : decide (x5_1 < (l0.length : Int)) = true := decide_eq_true c3
   clear c3
   by_cases c4 : 0 ≤ x5_1
   rotate_left
   ·rw [if_neg c4] at H
    exact absurd H (by simp)
   rw [if_pos c4] at H
   have c4b0 : decide (0 ≤ x5_1) = true := decide_eq_true c4
   clear c4
   by_cases c5 : ((rd_T36 l0 x5_1).f0) = x1_1
   rotate_left
   ·rw [if_neg c5] at H
    have c5b0 : (((rd_T36 l0 x5_1).f0) == x1_1) = false := beq_eq_false_iff_ne.mpr c5
    have c5b1 : (((rd_T36 l0 x5_1).f0) != x1_1) = true := bne_iff_ne.mpr c5
    obtain rfl := Option.some.inj H
    have p294 : 0 ≤ (x5_1 : Int) := DT
    have q294 : x5_1 < (l0.length : Int) := DT
    obtain ⟨ad294, e294, hx294_0, hx294_1, hx294_2, hx294_3, hx294_4, hx294_5⟩ := at_T36 HR0.out x5_1 p294 q294
    cases e294
    replace p294 := eq_true p294
    replace q294 := eq_true q294
    go_wp2
    go_ret
    exact ⟨by first | rfl | (simp; done) | (simp [*]; done), by repeat (first | exact Drawn0.refl _ | apply Drawn0.step)⟩
   rw [if_pos c5] at H
   have c5b0 : (((rd_T36 l0 x5_1).f0) == x1_1) = true := beq_iff_eq.mpr c5
   have c5b1 : (((rd_T36 l0 x5_1).f0) != x1_1) = false := bne_eq_false_iff_eq.mpr c5
   clear c5
   by_cases c6 : ((rd_T36 l0 x5_1).f1) = (wrap64 (x1_1 + 1))
   rotate_left
   ·rw [if_neg c6] at H
    have c6b0 : (((rd_T36 l0 x5_1).f1) == (wrap64 (x1_1 + 1))) = false := beq_eq_false_iff_ne.mpr c6
    have c6b1 : (((rd_T36 l0 x5_1).f1) != (wrap64 (x1_1 + 1))) = true := bne_iff_ne.mpr c6
    obtain rfl := Option.some.inj H
    have p294 : 0 ≤ (x5_1 : Int) := DT
    have q294 : x5_1 < (l0.length : Int) := DT
    obtain ⟨ad294, e294, hx294_0, hx294_1, hx294_2, hx294_3, hx294_4, hx294_5⟩ := at_T36 HR0.out x5_1 p294 q294
    cases e294
    replace p294 := eq_true p294
    replace q294 := eq_true q294
    have p295 : 0 ≤ (x5_1 : Int) := DT
    have q295 : x5_1 < (l0.length : Int) := DT
    obtain ⟨ad295, e295, hx295_0, hx295_1, hx295_2, hx295_3, hx295_4, hx295_5⟩ := at_T36 HR0.out x5_1 p295 q295
    obtain rfl : ad294 = ad295 := (by injection e295)
    replace p295 := eq_true p295
    replace q295 := eq_true q295
    go_wp2
    go_ret
    exact ⟨by first | rfl | (simp; done) | (simp [*]; done), by repeat (first | exact Drawn0.refl _ | apply Drawn0.step)⟩
   rw [if_pos c6] at H
   have c6b0 : (((rd_T36 l0 x5_1).f1) == (wrap64 (x1_1 + 1))) = true := beq_iff_eq.mpr c6
   have c6b1 : (((rd_T36 l0 x5_1).f1) != (wrap64 (x1_1 + 1))) = false := bne_eq_false_iff_eq.mpr c6
   clear c6
   by_cases c7 : ((rd_T36 l0 x5_1).f2) = (wrap64 ((wrap64 (x1_1 + 1)) + 1))
   rotate_left
   ·rw [if_neg c7] at H
    have c7b0 : (((rd_T36 l0 x5_1).f2) == (wrap64 ((wrap64 (x1_1 + 1)) + 1))) = false := beq_eq_false_iff_ne.mpr c7
    have c7b1 : (((rd_T36 l0 x5_1).f2) != (wrap64 ((wrap64 (x1_1 + 1)) + 1))) = true := bne_iff_ne.mpr c7
    obtain rfl := Option.some.inj H
    have p294 : 0 ≤ (x5_1 : Int) := DT
    have q294 : x5_1 < (l0.length : Int) := DT
    obtain ⟨ad294, e294, hx294_0, hx294_1, hx294_2, hx294_3, hx294_4, hx294_5⟩ := at_T36 HR0.out x5_1 p294 q294
    cases e294
    replace p294 := eq_true p294
    replace q294 := eq_true q294
    have p295 : 0 ≤ (x5_1 : Int) := DT
    have q295 : x5_1 < (l0.length : Int) := DT
    obtain ⟨ad295, e295, hx295_0, hx295_1, hx295_2, hx295_3, hx295_4, hx295_5⟩ := at_T36 HR0.out x5_1 p295 q295
    obtain rfl : ad294 = ad295 := (by injection e295)
    replace p295 := eq_true p295
    replace q295 := eq_true q295
    have p296 : 0 ≤ (x5_1 : Int) := DT
    have q296 : x5_1 < (l0.length : Int) := DT
    obtain ⟨ad296, e296, hx296_0, hx296_1, hx296_2, hx296_3, hx296_4, hx296_5⟩ := at_T36 HR0.out x5_1 p296 q296
    obtain rfl : ad294 = ad296 := (by injection e296)
    replace p296 := eq_true p296
    replace q296 := eq_true q296
    go_wp2
    go_ret
    exact ⟨by first | rfl | (simp; done) | (simp [*]; done), by repeat (first | exact Drawn0.refl _ | apply Drawn0.step)⟩
   rw [if_pos c7] at H
   have c7b0 : (((rd_T36 l0 x5_1).f2) == (wrap64 ((wrap64 (x1_1 + 1)) + 1))) = true := beq_iff_eq.mpr c7
   have c7b1 : (((rd_T36 l0 x5_1).f2) != (wrap64 ((wrap64 (x1_1 + 1)) + 1))) = false := bne_eq_false_iff_eq.mpr c7
   clear c7
   by_cases c8 : ((rd_T36 l0 x5_1).f3) = (wrap64 ((wrap64 ((wrap64 (x1_1 + 1)) + 1)) + 1))
   rotate_left
   ·rw [if_neg c8] at H
    have c8b0 : (((rd_T36 l0 x5_1).f3) == (wrap64 ((wrap64 ((wrap64 (x1_1 + 1)) + 1)) + 1))) = false := beq_eq_false_iff_ne.mpr c8
    have c8b1 : (((rd_T36 l0 x5_1).f3) != (wrap64 ((wrap64 ((wrap64 (x1_1 + 1)) + 1)) + 1))) = true := bne_iff_ne.mpr c8
    obtain rfl := Option.some.inj H
    have p294 : 0 ≤ (x5_1 : Int) := DT
    have q294 : x5_1 < (l0.length : Int) := DT
    obtain ⟨ad294, e294, hx294_0, hx294_1, hx294_2, hx294_3, hx294_4, hx294_5⟩ := at_T36 HR0.out x5_1 p294 q294
    cases e294
    replace p294 := eq_true p294
    replace q294 := eq_true q294
    have p295 : 0 ≤ (x5_1 : Int) := DT
    have q295 : x5_1 < (l0.length : Int) := DT
    obtain ⟨ad295, e295, hx295_0, hx295_1, hx295_2, hx295_3, hx295_4, hx295_5⟩ := at_T36 HR0.out x5_1 p295 q295
    obtain rfl : ad294 = ad295 := (by injection e295)
    replace p295 := eq_true p295
    replace q295 := eq_true q295
    have p296 : 0 ≤ (x5_1 : Int) := DT
    have q296 : x5_1 < (l0.length : Int) := DT
    obtain ⟨ad296, e296, hx296_0, hx296_1, hx296_2, hx296_3, hx296_4, hx296_5⟩ := at_T36 HR0.out x5_1 p296 q296
    obtain rfl : ad294 = ad296 := (by injection e296)
    replace p296 := eq_true p296
    replace q296 := eq_true q296
    have p297 : 0 ≤ (x5_1 : Int) := DT
    have q297 : x5_1 < (l0.length : Int) := DT
    obtain ⟨ad297, e297, hx297_0, hx297_1, hx297_2, hx297_3, hx297_4, hx297_5⟩ := at_T36 HR0.out x5_1 p297 q297
    obtain rfl : ad294 = ad297 := (by injection e297)
    replace p297 := eq_true p297
    replace q297 := eq_true q297
    go_wp2
    go_ret
    exact ⟨by first | rfl | (simp; done) | (simp [*]; done), by repeat (first | exact Drawn0.refl _ | apply Drawn0.step)⟩
   rw [if_pos c8] at H
   have c8b0 : (((rd_T36 l0 x5_1).f3) == (wrap64 ((wrap64 ((wrap64 (x1_1 + 1)) + 1)) + 1))) = true := beq_iff_eq.mpr c8
   have c8b1 : (((rd_T36 l0 x5_1).f3) != (wrap64 ((wrap64 ((wrap64 (x1_1 + 1)) + 1)) + 1))) = false := bne_eq_false_iff_eq.mpr c8
   clear c8
   by_cases c9 : ((rd_T36 l0 x5_1).f4) = (wrap64 ((wrap64 ((wrap64 ((wrap64 (x1_1 + 1)) + 1)) + 1)) + 1))
   rotate_left
   ·rw [if_neg c9] at H
    have c9b0 : (((rd_T36 l0 x5_1).f4) == (wrap64 ((wrap64 ((wrap64 ((wrap64 (x1_1 + 1)) + 1)) + 1)) + 1))) = false := beq_eq_false_iff_ne.mpr c9
    have c9b1 : (((rd_T36 l0 x5_1).f4) != (wrap64 ((wrap64 ((wrap64 ((wrap64 (x1_1 + 1)) + 1)) + 1)) + 1))) = true := bne_iff_ne.mpr c9
    obtain rfl := Option.some.inj H
    have p294 : 0 ≤ (x5_1 : Int) := DT
    have q294 : x5_1 < (l0.length : Int) := DT
    obtain ⟨ad294, e294, hx294_0, hx294_1, hx294_2, hx294_3, hx294_4, hx294_5⟩ := at_T36 HR0.out x5_1 p294 q294
    cases e294
    replace p294 := eq_true p294
    replace q294 := eq_true q294
    have p295 : 0 ≤ (x5_1 : Int) := DT
    have q295 : x5_1 < (l0.length : Int) := DT
    obtain ⟨ad295, e295, hx295_0, hx295_1, hx295_2, hx295_3, hx295_4, hx295_5⟩ := at_T36 HR0.out x5_1 p295 q295
    obtain rfl : ad294 = ad295 := (by injection e295)
    replace p295 := eq_true p295
    replace q295 := eq_true q295
    have p296 : 0 ≤ (x5_1 : Int) := DT
    have q296 : x5_1 < (l0.length : Int) := DT
    obtain ⟨ad296, e296, hx296_0, hx296_1, hx296_2, hx296_3, hx296_4, hx296_5⟩ := at_T36 HR0.out x5_1 p296 q296
    obtain rfl : ad294 = ad296 := (by injection e296)
    replace p296 := eq_true p296
    replace q296 := eq_true q296
    have p297 : 0 ≤ (x5_1 : Int) := DT
    have q297 : x5_1 < (l0.length : Int) := DT
    obtain ⟨ad297, e297, hx297_0, hx297_1, hx297_2, hx297_3, hx297_4, hx297_5⟩ := at_T36 HR0.out x5_1 p297 q297
    obtain rfl : ad294 = ad297 := (by injection e297)
    replace p297 := eq_true p297
    replace q297 := eq_true q297
    have p298 : 0 ≤ (x5_1 : Int) := DT
    have q298 : x5_1 < (l0.length : Int) := DT
    obtain ⟨ad298, e298, hx298_0, hx298_1, hx298_2, hx298_3, hx298_4, hx298_5⟩ := at_T36 HR0.out x5_1 p298 q298
    obtain rfl : ad294 = ad298 := (by injection e298)
    replace p298 := eq_true p298
    replace q298 := eq_true q298
    go_wp2
    go_ret
    exact ⟨by first | rfl | (simp; done) | (simp [*]; done), by repeat (first | exact Drawn0.refl _ | apply Drawn0.step)⟩
   rw [if_pos c9] at H
   have c9b0 : (((rd_T36 l0 x5_1).f4) == (wrap64 ((wrap64 ((wrap64 ((wrap64 (x1_1 + 1)) + 1)) + 1)) + 1))) = true := beq_iff_eq.mpr c9
   have c9b1 : (((rd_T36 l0 x5_1).f4) != (wrap64 ((wrap64 ((wrap64 ((wrap64 (x1_1 + 1)) + 1)) + 1)) + 1))) = false := bne_eq_false_iff_eq.mpr c9
   clear c9
   by_cases c10 : ((rd_T36 l0 x5_1).f5) = (wrap64 ((wrap64 ((wrap64 ((wrap64 ((wrap64 (x1_1 + 1)) + 1)) + 1)) + 1)) + 1))
   rotate_left
   ·rw [if_neg c10] at H
    have c10b0 : (((rd_T36 l0 x5_1).f5) == (wrap64 ((wrap64 ((wrap64 ((wrap64 ((wrap64 (x1_1 + 1)) + 1)) + 1)) + 1)) + 1))) = false := beq_eq_false_iff_ne.mpr c10
    have c10b1 : (((rd_T36 l0 x5_1).f5) != (wrap64 ((wrap64 ((wrap64 ((wrap64 ((wrap64 (x1_1 + 1)) + 1)) + 1)) + 1)) + 1))) = true := bne_iff_ne.mpr c10
    obtain rfl := Option.some.inj H
    have p294 : 0 ≤ (x5_1 : Int) := DT
    have q294 : x5_1 < (l0.length : Int) := DT
    obtain ⟨ad294, e294, hx294_0, hx294_1, hx294_2, hx294_3, hx294_4, hx294_5⟩ := at_T36 HR0.out x5_1 p294 q294
    cases e294
    replace p294 := eq_true p294
    replace q294 := eq_true q294
    have p295 : 0 ≤ (x5_1 : Int) := DT
    have q295 : x5_1 < (l0.length : Int) := DT
    obtain ⟨ad295, e295, hx295_0, hx295_1, hx295_2, hx295_3, hx295_4, hx295_5⟩ := at_T36 HR0.out x5_1 p295 q295
    obtain rfl : ad294 = ad295 := (by injection e295)
    replace p295 := eq_true p295
    replace q295 := eq_true q295
    have p296 : 0 ≤ (x5_1 : Int) := DT
    have q296 : x5_1 < (l0.length : Int) := DT
    obtain ⟨ad296, e296, hx296_0, hx296_1, hx296_2, hx296_3, hx296_4, hx296_5⟩ := at_T36 HR0.out x5_1 p296 q296
    obtain rfl : ad294 = ad296 := (by injection e296)
    replace p296 := eq_true p296
    replace q296 := eq_true q296
    have p297 : 0 ≤ (x5_1 : Int) := DT
    have q297 : x5_1 < (l0.length : Int) := DT
    obtain ⟨ad297, e297, hx297_0, hx297_1, hx297_2, hx297_3, hx297_4, hx297_5⟩ := at_T36 HR0.out x5_1 p297 q297
    obtain rfl : ad294 = ad297 := (by injection e297)
    replace p297 := eq_true p297
    replace q297 := eq_true q297
    have p298 : 0 ≤ (x5_1 : Int) := DT
    have q298 : x5_1 < (l0.length : Int) := DT
    obtain ⟨ad298, e298, hx298_0, hx298_1, hx298_2, hx298_3, hx298_4, hx298_5⟩ := at_T36 HR0.out x5_1 p298 q298
    obtain rfl : ad294 = ad298 := (by injection e298)
    replace p298 := eq_true p298
    replace q298 := eq_true q298
    have p299 : 0 ≤ (x5_1 : Int) := DT
    have q299 : x5_1 < (l0.length : Int) := DT
    obtain ⟨ad299, e299, hx299_0, hx299_1, hx299_2, hx299_3, hx299_4, hx299_5⟩ := at_T36 HR0.out x5_1 p299 q299
    obtain rfl : ad294 = ad299 := (by injection e299)
    replace p299 := eq_true p299
    replace q299 := eq_true q299
    go_wp2
    go_ret
    exact ⟨by first | rfl | (simp; done) | (simp [*]; done), by repeat (first | exact Drawn0.refl _ | apply Drawn0.step)⟩
   rw [if_pos c10] at H
   have c10b0 : (((rd_T36 l0 x5_1).f5) == (wrap64 ((wrap64 ((wrap64 ((wrap64 ((wrap64 (x1_1 + 1)) + 1)) + 1)) + 1)) + 1))) = true := beq_iff_eq.mpr c10
   have c10b1 : (((rd_T36 l0 x5_1).f5) != (wrap64 ((wrap64 ((wrap64 ((wrap64 ((wrap64 (x1_1 + 1)) + 1)) + 1)) + 1)) + 1))) = false := bne_eq_false_iff_eq.mpr c10
   clear c10
   have H' := AM_ H
   clear H
   have p294 : 0 ≤ (x5_1 : Int) := DT
   have q294 : x5_1 < (l0.length : Int) := DT
   obtain ⟨ad294, e294, hx294_0, hx294_1, hx294_2, hx294_3, hx294_4, hx294_5⟩ := at_T36 HR0.out x5_1 p294 q294
   cases e294
   replace p294 := eq_true p294
   replace q294 := eq_true q294
   have p295 : 0 ≤ (x5_1 : Int) := DT
   have q295 : x5_1 < (l0.length : Int) := DT
   obtain ⟨ad295, e295, hx295_0, hx295_1, hx295_2, hx295_3, hx295_4, hx295_5⟩ := at_T36 HR0.out x5_1 p295 q295
   obtain rfl : ad294 = ad295 := (by injection e295)
   replace p295 := eq_true p295
   replace q295 := eq_true q295
   have p296 : 0 ≤ (x5_1 : Int) := DT
   have q296 : x5_1 < (l0.length : Int) := DT
   obtain ⟨ad296, e296, hx296_0, hx296_1, hx296_2, hx296_3, hx296_4, hx296_5⟩ := at_T36 HR0.out x5_1 p296 q296
   obtain rfl : ad294 = ad296 := (by injection e296)
   replace p296 := eq_true p296
   replace q296 := eq_true q296
   have p297 : 0 ≤ (x5_1 : Int) := DT
   have q297 : x5_1 < (l0.length : Int) := DT
   obtain ⟨ad297, e297, hx297_0, hx297_1, hx297_2, hx297_3, hx297_4, hx297_5⟩ := at_T36 HR0.out x5_1 p297 q297
   obtain rfl : ad294 = ad297 := (by injection e297)
   replace p297 := eq_true p297
   replace q297 := eq_true q297
   have p298 : 0 ≤ (x5_1 : Int) := DT
   have q298 : x5_1 < (l0.length : Int) := DT
   obtain ⟨ad298, e298, hx298_0, hx298_1, hx298_2, hx298_3, hx298_4, hx298_5⟩ := at_T36 HR0.out x5_1 p298 q298
   obtain rfl : ad294 = ad298 := (by injection e298)
   replace p298 := eq_true p298
   replace q298 := eq_true q298
   have p299 : 0 ≤ (x5_1 : Int) := DT
   have q299 : x5_1 < (l0.length : Int) := DT
   obtain ⟨ad299, e299, hx299_0, hx299_1, hx299_2, hx299_3, hx299_4, hx299_5⟩ := at_T36 HR0.out x5_1 p299 q299
   obtain rfl : ad294 = ad299 := (by injection e299)
   replace p299 := eq_true p299
   replace q299 := eq_true q299
   go_wp2
   go_roundg k1
   case measure => have := HK1.out; omega
   case rel => exact ⟨(wrap64 ((wrap64 ((wrap64 ((wrap64 ((wrap64 ((wrap64 (x1_1 + 1)) + 1)) + 1)) + 1)) + 1)) + 1)), (wrap64 (x5_1 + 1)), (by first | rfl | (simp; done) | (simp [*]; done)), (by first | rfl | (simp; done) | (simp [*]; done)), H', ⟨by have := HK1.out; omega⟩, by repeat (first | exact Drawn0.refl _ | apply Drawn0.step)⟩

/-! ### laws_FnExactParseOps: function 3 -/
mutual
def laws_FnExactParseOps.j0 : Nat → ByteArray → List (S36) → Bool → List (S36) → Bool → Option (Bool)
 | 0, _, _, _, _, _ => none
 | k + 1, x0, x3, x4, x5, x32 => if x32 = true then (some false) else ((laws_markOpS.f k x5 1).bind fun bt309 => ((laws_heldOpS.f k bt309.2 1).bind fun t311 => (if t311 < 0 then (some false) else (if t311 = bt309.1 then ((impl_ParseOps.f k x0).bind fun bt312 => ((laws_eqOpS.f k bt312.1 x3).bind fun t316 => (if t316 = true then (laws_FnExactParseOps.j1 k bt309.2 bt309.1 (bt312.2 != x4)) else (laws_FnExactParseOps.j1 k bt309.2 bt309.1 true)))) else (some false)))))
def laws_FnExactParseOps.j1 : Nat → List (S36) → Int → Bool → Option (Bool)
 | 0, _, _, _ => none
 | k + 1, x5, x7, x57 => if x57 = true then (some false) else ((laws_heldOpS.f k x5 1).bind fun t317 => (if t317 < 0 then (some false) else (if t317 = x7 then (some true) else (some false))))
end
def laws_FnExactParseOps.f (k : Nat) (a0 : ByteArray) : Option (Bool) := if (a0.size : Int) > 1048576 then (some true) else ((spec_ParseOps.f k a0).bind fun bt300 => ((impl_ParseOps.f k a0).bind fun bt304 => ((laws_eqOpS.f k bt304.1 bt300.1).bind fun t308 => (if t308 = true then (laws_FnExactParseOps.j0 k a0 bt300.1 bt300.2 bt304.1 (bt304.2 != bt300.2)) else (laws_FnExactParseOps.j0 k a0 bt300.1 bt300.2 bt304.1 true)))))
theorem laws_FnExactParseOps.mono_l : ∀ k, (∀ y0 y1 y2 y3 y4, LeO (laws_FnExactParseOps.j0 k y0 y1 y2 y3 y4) (laws_FnExactParseOps.j0 (k + 1) y0 y1 y2 y3 y4)) ∧ (∀ y0 y1 y2, LeO (laws_FnExactParseOps.j1 k y0 y1 y2) (laws_FnExactParseOps.j1 (k + 1) y0 y1 y2))
 | 0 => ⟨fun _ _ _ _ _ r h => by simp [laws_FnExactParseOps.j0] at h, fun _ _ _ r h => by simp [laws_FnExactParseOps.j1] at h⟩
 | k + 1 => by
  obtain ⟨ih0, ih1⟩ := laws_FnExactParseOps.mono_l k
  refine ⟨?_, ?_⟩
  ·intro y0 y1 y2 y3 y4
   unfold laws_FnExactParseOps.j0
   repeat' first
   | (with_reducible exact ih0 _ _ _ _ _)
   | (with_reducible exact ih1 _ _ _)
   | (with_reducible exact impl_ParseOps.mono _ _)
   | (with_reducible exact laws_eqOpS.mono _ _ _)
   | (with_reducible exact laws_heldOpS.mono _ _ _)
   | (with_reducible exact laws_markOpS.mono _ _ _)
   | (with_reducible exact spec_ParseOps.mono _ _)
   | (with_reducible exact LeO.refl _)
   | (with_reducible exact LeO.none _)
   | (with_reducible refine LeO.ite ?_ ?_)
   | (with_reducible refine LeO.bind ?_ (fun _ => ?_))
   | exact ih0 _ _ _ _ _
   | exact ih1 _ _ _
   | exact impl_ParseOps.mono _ _
   | exact laws_eqOpS.mono _ _ _
   | exact laws_heldOpS.mono _ _ _
   | exact laws_markOpS.mono _ _ _
   | exact spec_ParseOps.mono _ _
   | exact LeO.none _
   | refine LeO.ite ?_ ?_
   | refine LeO.bind ?_ (fun _ => ?_)
  ·intro y0 y1 y2
   unfold laws_FnExactParseOps.j1
   repeat' first
   | (with_reducible exact ih0 _ _ _ _ _)
   | (with_reducible exact ih1 _ _ _)
   | (with_reducible exact impl_ParseOps.mono _ _)
   | (with_reducible exact laws_eqOpS.mono _ _ _)
   | (with_reducible exact laws_heldOpS.mono _ _ _)
   | (with_reducible exact laws_markOpS.mono _ _ _)
   | (with_reducible exact spec_ParseOps.mono _ _)
   | (with_reducible exact LeO.refl _)
   | (with_reducible exact LeO.none _)
   | (with_reducible refine LeO.ite ?_ ?_)
   | (with_reducible refine LeO.bind ?_ (fun _ => ?_))
   | exact ih0 _ _ _ _ _
   | exact ih1 _ _ _
   | exact impl_ParseOps.mono _ _
   | exact laws_eqOpS.mono _ _ _
   | exact laws_heldOpS.mono _ _ _
   | exact laws_markOpS.mono _ _ _
   | exact spec_ParseOps.mono _ _
   | exact LeO.none _
   | refine LeO.ite ?_ ?_
   | refine LeO.bind ?_ (fun _ => ?_)
theorem laws_FnExactParseOps.mono : ∀ a0 k, LeO (laws_FnExactParseOps.f k a0) (laws_FnExactParseOps.f (k + 1) a0) := by
 intro a0 k
 obtain ⟨ih0, ih1⟩ := laws_FnExactParseOps.mono_l k
 unfold laws_FnExactParseOps.f
 repeat' first
   | (with_reducible exact ih0 _ _ _ _ _)
   | (with_reducible exact ih1 _ _ _)
   | (with_reducible exact impl_ParseOps.mono _ _)
   | (with_reducible exact laws_eqOpS.mono _ _ _)
   | (with_reducible exact laws_heldOpS.mono _ _ _)
   | (with_reducible exact laws_markOpS.mono _ _ _)
   | (with_reducible exact spec_ParseOps.mono _ _)
   | (with_reducible exact LeO.refl _)
   | (with_reducible exact LeO.none _)
   | (with_reducible refine LeO.ite ?_ ?_)
   | (with_reducible refine LeO.bind ?_ (fun _ => ?_))
   | exact ih0 _ _ _ _ _
   | exact ih1 _ _ _
   | exact impl_ParseOps.mono _ _
   | exact laws_eqOpS.mono _ _ _
   | exact laws_heldOpS.mono _ _ _
   | exact laws_markOpS.mono _ _ _
   | exact spec_ParseOps.mono _ _
   | exact LeO.none _
   | refine LeO.ite ?_ ?_
   | refine LeO.bind ?_ (fun _ => ?_)
set_option maxHeartbeats 8000000 in
set_option maxRecDepth 100000 in
theorem laws_FnExactParseOps.calls (k : Nat) (a0 : ByteArray) (r : Bool) (w : World) (hTB : Tryd.TB w) (h : laws_FnExactParseOps.f k a0 = some r) :
  Calls Tryd.prog 3 #[.string a0] w fun e w' => e = .returned (.bool r) ∧ Below w.heap.size w w' := by
 have HB := AM_ (Below.refl w.heap.size w)
 have H : (if (a0.size : Int) > 1048576 then (some true) else ((spec_ParseOps.f k a0).bind fun bt300 => ((impl_ParseOps.f k a0).bind fun bt304 => ((laws_eqOpS.f k bt304.1 bt300.1).bind fun t308 => (if t308 = true then (laws_FnExactParseOps.j0 k a0 bt300.1 bt300.2 bt304.1 (bt304.2 != bt300.2)) else (laws_FnExactParseOps.j0 k a0 bt300.1 bt300.2 bt304.1 true)))))) = some r := h
 clear h
 by_cases c2 : (a0.size : Int) > 1048576
 ·rw [if_pos c2] at H
  have c2b0 : decide (1048576 < (a0.size : Int)) = true := decide_eq_true c2
  have c2b1 : decide (1048576 < a0.size) = true := decide_eq_true (by omega)
  clear c2
  obtain rfl := Option.some.inj H
  go_enter Tryd.func3, Tryd.ntmps3
  go_wp2
  go_ret
  exact QT (BT HB.out)
 rw [if_neg c2] at H
 have c2b0 : decide (1048576 < (a0.size : Int)) = false := decide_eq_false c2
 have c2b1 : decide (1048576 < a0.size) = false := decide_eq_false (by omega)
 clear c2
 replace H := Option.bind_eq_some_iff.mp H
 obtain ⟨⟨t300, t301⟩, A30, H⟩ := H
 replace H : ((impl_ParseOps.f k a0).bind fun bt304 => ((laws_eqOpS.f k bt304.1 t300).bind fun t308 => (if t308 = true then (laws_FnExactParseOps.j0 k a0 t300 t301 bt304.1 (bt304.2 != t301)) else (laws_FnExactParseOps.j0 k a0 t300 t301 bt304.1 true)))) = some r := H
 have A3 := AM_ A30
 clear A30
 replace H := Option.bind_eq_some_iff.mp H
 obtain ⟨⟨t304, t305⟩, A40, H⟩ := H
 replace H : ((laws_eqOpS.f k t304 t300).bind fun t308 => (if t308 = true then (laws_FnExactParseOps.j0 k a0 t300 t301 t304 (t305 != t301)) else (laws_FnExactParseOps.j0 k a0 t300 t301 t304 true))) = some r := H
 have A4 := AM_ A40
 clear A40
 have HC5 := AM_ H
 clear H
 go_enter Tryd.func3, Tryd.ntmps3
 go_upto_region 5 with (first | ((with_reducible refine gate_callee (f := 6) rfl ?_); refine goesL_ (some 16) rfl rfl Tryd.func6 (by kernel_rfl) rfl #[.string a0] rfl (by (try simp only [List.map_toArray, List.map_cons, List.map_nil]); first | done | rfl | (simp only [List.length_drop, List.length_take]; rfl)) ?_; (with_reducible refine (spec_ParseOps.calls k a0 t300 t301 _ A3.out).mono ?_); rintro e w6 ⟨v302, rfl, ho0, hb⟩; refine ⟨_, rfl, ?_⟩; have HO303 := AM_ (Kd.R_lower ho0 (below_size (BT HB.out))); replace HB := AM_ (below_step (BT HB.out) hb); (try clear hb); (try clear hb2); (try clear hk); (try clear hi); (try clear ho0)) | ((with_reducible refine gate_callee (f := 7) rfl ?_); refine goesL_ (some 21) rfl rfl Tryd.func7 (by kernel_rfl) rfl #[.string a0] rfl (by (try simp only [List.map_toArray, List.map_cons, List.map_nil]); first | done | rfl | (simp only [List.length_drop, List.length_take]; rfl)) ?_; (with_reducible refine (impl_ParseOps.calls k a0 t304 t305 _ ?side1 A4.out).mono ?_); (case side1 => first | (with_reducible exact hTB) | exact Tryd.TB_below hTB (BT HB.out)); rintro e w7 ⟨v306, rfl, ho0, hb⟩; refine ⟨_, rfl, ?_⟩; have HO307 := AM_ (Kd.R_lower (Kd.R_new' ho0 (Kd.R_lt (RT HO303.out))) (below_size (BT HB.out))); replace HO303 := AM_ (Kd.R_elder' (RT HO303.out) (Kd.R_base ho0) hb); replace HB := AM_ (below_step (BT HB.out) hb); (try clear hb); (try clear hb2); (try clear hk); (try clear hi); (try clear ho0)))
 (try simp only [pA, pS, pZ, pK])
 go_cut [32] (fun v32 wc => ∃ (kq : Nat) (x32_4 : Bool), v32 = .bool x32_4 ∧ Aside0 (laws_FnExactParseOps.j0 kq a0 t300 t301 t304 x32_4 = some r) ∧ Aside0 (kq ≤ k) ∧ Aside0 (Kd.R k36 36 wc w.heap.size (fun k_ => some k_ ≠ (v306 : Value).ownBlock) v302 t300) ∧ Aside0 (Kd.R k36 36 wc w.heap.size (fun k_ => some k_ ≠ (v302 : Value).ownBlock) v306 t304) ∧ Aside0 (Below w.heap.size w wc))
 case first =>
  have H := HC5.out
  clear HC5
  replace H := Option.bind_eq_some_iff.mp H
  obtain ⟨t308, A80, H⟩ := H
  replace H : (if t308 = true then (laws_FnExactParseOps.j0 k a0 t300 t301 t304 (t305 != t301)) else (laws_FnExactParseOps.j0 k a0 t300 t301 t304 true)) = some r := H
  have A8 := AM_ A80
  clear A80
  by_cases c9 : t308 = true
  ·subst c9
   have H1 : (laws_FnExactParseOps.j0 k a0 t300 t301 t304 (t305 != t301)) = some r := by rw [if_pos rfl] at H; exact H
   clear H
   have H := H1
   clear H1
   have H' := AM_ H
   clear H
   obtain ⟨Ao10, co10, eo10⟩ := Kd.R_slice HO307.out
   subst eo10
   obtain ⟨Ao11, co11, eo11⟩ := Kd.R_slice HO303.out
   subst eo11
   go_wp2_with (first | ((with_reducible refine gate_callee (f := 8) rfl ?_); refine goesL_ (some 26) rfl rfl Tryd.func8 (by kernel_rfl) rfl #[.slice Ao10 t304.length co10, .slice Ao11 t300.length co11] rfl (by (try simp only [List.map_toArray, List.map_cons, List.map_nil]); first | done | rfl | (simp only [List.length_drop, List.length_take]; rfl)) ?_; (with_reducible refine (laws_eqOpS.calls k _ _ t304 _ _ t300 true _ ?side1 ?side2 ?side3 ?side4 A8.out).mono ?_); (case side1 => exact Kd.C_below (Kd.R_reads' HO307.out).2.2 (BL (Below.refl _ _) rfl rfl rfl rfl)); (case side2 => exact (Kd.R_reads' HO307.out).2.1); (case side3 => exact Kd.C_below (Kd.R_reads' HO303.out).2.2 (BL (Below.refl _ _) rfl rfl rfl rfl)); (case side4 => exact (Kd.R_reads' HO303.out).2.1); rintro e w12 ⟨rfl, hb⟩; refine ⟨_, rfl, ?_⟩; replace HO303 := AM_ (Kd.R_below (RT HO303.out) hb); replace HO307 := AM_ (Kd.R_below (RT HO307.out) hb); replace HB := AM_ (below_step (BT HB.out) hb); (try clear hb); (try clear hb2); (try clear hk); (try clear hi)))
   go_meet
   case rel => exact ⟨_, ((t305 != t301)), (by first | rfl | (simp; done) | (simp [*]; done)), H', ⟨by first | omega | exact Nat.le_refl _⟩, ⟨by (with_reducible repeat (first | apply Kd.R_alloc | apply Kd.R_drewN | apply Kd.R_drew)); exact Kd.R_mono HO303.out (fun _ hk => hk.2)⟩, ⟨by (with_reducible repeat (first | apply Kd.R_alloc | apply Kd.R_drewN | apply Kd.R_drew)); exact Kd.R_mono HO307.out (fun _ hk => hk.2)⟩, ⟨BT HB.out⟩⟩
  replace c9 := Bool.eq_false_iff.mpr c9
  subst c9
  have H1 : (laws_FnExactParseOps.j0 k a0 t300 t301 t304 true) = some r := by rw [if_neg (show ¬ (false = true) by decide)] at H; exact H
  clear H
  have H := H1
  clear H1
  have H' := AM_ H
  clear H
  obtain ⟨Ao13, co13, eo13⟩ := Kd.R_slice HO307.out
  subst eo13
  obtain ⟨Ao14, co14, eo14⟩ := Kd.R_slice HO303.out
  subst eo14
  go_wp2_with (first | ((with_reducible refine gate_callee (f := 8) rfl ?_); refine goesL_ (some 26) rfl rfl Tryd.func8 (by kernel_rfl) rfl #[.slice Ao13 t304.length co13, .slice Ao14 t300.length co14] rfl (by (try simp only [List.map_toArray, List.map_cons, List.map_nil]); first | done | rfl | (simp only [List.length_drop, List.length_take]; rfl)) ?_; (with_reducible refine (laws_eqOpS.calls k _ _ t304 _ _ t300 false _ ?side1 ?side2 ?side3 ?side4 A8.out).mono ?_); (case side1 => exact Kd.C_below (Kd.R_reads' HO307.out).2.2 (BL (Below.refl _ _) rfl rfl rfl rfl)); (case side2 => exact (Kd.R_reads' HO307.out).2.1); (case side3 => exact Kd.C_below (Kd.R_reads' HO303.out).2.2 (BL (Below.refl _ _) rfl rfl rfl rfl)); (case side4 => exact (Kd.R_reads' HO303.out).2.1); rintro e w15 ⟨rfl, hb⟩; refine ⟨_, rfl, ?_⟩; replace HO303 := AM_ (Kd.R_below (RT HO303.out) hb); replace HO307 := AM_ (Kd.R_below (RT HO307.out) hb); replace HB := AM_ (below_step (BT HB.out) hb); (try clear hb); (try clear hb2); (try clear hk); (try clear hi)))
  go_meet
  case rel => exact ⟨_, (true), (by first | rfl | (simp; done) | (simp [*]; done)), H', ⟨by first | omega | exact Nat.le_refl _⟩, ⟨by (with_reducible repeat (first | apply Kd.R_alloc | apply Kd.R_drewN | apply Kd.R_drew)); exact Kd.R_mono HO303.out (fun _ hk => hk.2)⟩, ⟨by (with_reducible repeat (first | apply Kd.R_alloc | apply Kd.R_drewN | apply Kd.R_drew)); exact Kd.R_mono HO307.out (fun _ hk => hk.2)⟩, ⟨BT HB.out⟩⟩
 case rest =>
  clear HC5
  try clear c2
  try clear c2b0
  try clear c2b1
  try clear p2
  try clear c3
  try clear c6
  try clear c7
  try clear c8
  try clear c9
  obtain ⟨kq, x32_4, rfl, HA, HJ4, HO_3, HO_5, HB⟩ := hcut
  cases kq with
  | zero => exact absurd HA.out (by simp [laws_FnExactParseOps.j0])
  | succ kj4 =>
   have H := HA.out
   clear HA
   simp only [laws_FnExactParseOps.j0] at H
   by_cases c16 : x32_4 = true
   ·subst c16
    have H1 : (some false) = some r := by rw [if_pos rfl] at H; exact H
    clear H
    have H := H1
    clear H1
    obtain rfl := Option.some.inj H
    go_wp2
    go_ret
    exact QT (BT HB.out)
   replace c16 := Bool.eq_false_iff.mpr c16
   subst c16
   have H1 : ((laws_markOpS.f kj4 t304 1).bind fun bt309 => ((laws_heldOpS.f kj4 bt309.2 1).bind fun t311 => (if t311 < 0 then (some false) else (if t311 = bt309.1 then ((impl_ParseOps.f kj4 a0).bind fun bt312 => ((laws_eqOpS.f kj4 bt312.1 t300).bind fun t316 => (if t316 = true then (laws_FnExactParseOps.j1 kj4 bt309.2 bt309.1 (bt312.2 != t301)) else (laws_FnExactParseOps.j1 kj4 bt309.2 bt309.1 true)))) else (some false))))) = some r := by rw [if_neg (show ¬ (false = true) by decide)] at H; exact H
   clear H
   have H := H1
   clear H1
   replace H := Option.bind_eq_some_iff.mp H
   obtain ⟨⟨t309, t310⟩, A170, H⟩ := H
   replace H : ((laws_heldOpS.f kj4 t310 1).bind fun t311 => (if t311 < 0 then (some false) else (if t311 = t309 then ((impl_ParseOps.f kj4 a0).bind fun bt312 => ((laws_eqOpS.f kj4 bt312.1 t300).bind fun t316 => (if t316 = true then (laws_FnExactParseOps.j1 kj4 t310 t309 (bt312.2 != t301)) else (laws_FnExactParseOps.j1 kj4 t310 t309 true)))) else (some false)))) = some r := H
   have A17 := AM_ A170
   clear A170
   replace H := Option.bind_eq_some_iff.mp H
   obtain ⟨t311, A180, H⟩ := H
   replace H : (if t311 < 0 then (some false) else (if t311 = t309 then ((impl_ParseOps.f kj4 a0).bind fun bt312 => ((laws_eqOpS.f kj4 bt312.1 t300).bind fun t316 => (if t316 = true then (laws_FnExactParseOps.j1 kj4 t310 t309 (bt312.2 != t301)) else (laws_FnExactParseOps.j1 kj4 t310 t309 true)))) else (some false))) = some r := H
   have A18 := AM_ A180
   clear A180
   by_cases c19 : t311 < 0
   ·rw [if_pos c19] at H
    have c19b0 : decide (t311 < 0) = true := decide_eq_true c19
    clear c19
    obtain rfl := Option.some.inj H
    obtain ⟨Ao20, co20, eo20⟩ := Kd.R_slice HO_5.out
    subst eo20
    go_wp2_with (first | ((with_reducible refine gate_callee (f := 9) rfl ?_); refine goesL_ (some 35) rfl rfl Tryd.func9 (by kernel_rfl) rfl #[.slice Ao20 t304.length co20, .int .i64 1] rfl (by (try simp only [List.map_toArray, List.map_cons, List.map_nil]); first | done | rfl | (simp only [List.length_drop, List.length_take]; rfl)) ?_; (with_reducible refine (laws_markOpS.calls kj4 (fun k_ => some k_ = (.slice Ao20 t304.length co20 : Value).ownBlock) (.slice Ao20 t304.length co20) t304 1 t309 t310 w _ ?side1 ?side2 A17.out).mono ?_); (case side1 => repeat (first | (with_reducible first | exact HB.out | apply below_alloc | apply pw_below_drewN | apply below_drew1) | exact HB.out)); (case side2 => exact Kd.R_tight rfl HO_5.out); rintro e w21 ⟨rfl, hy0, hb, hkp⟩; refine ⟨_, rfl, ?_⟩; replace HO_3 := AM_ (Kd.R_mono (ok' := fun k_ => some k_ ≠ (.slice Ao20 t304.length co20 : Value).ownBlock) (Kd.R_keptB (HO_3.out) hkp (fun k_ hk_ hs_ => (hk_) hs_)) (fun k_ hk_ => hk_.1)); replace HO_5 := AM_ (Kd.R_reok rfl hy0 (fun k_ e_ => HO_5.out.1 k_ e_)); replace HB := AM_ (hb); (try clear hb); (try clear hkp); (try clear hy0)) | ((with_reducible refine gate_callee (f := 10) rfl ?_); refine goesL_ (some 38) rfl rfl Tryd.func10 (by kernel_rfl) rfl #[.slice Ao20 t310.length co20, .int .i64 1] rfl (by (try simp only [List.map_toArray, List.map_cons, List.map_nil]); first | done | (rw [show t310.length = t304.length from (Kd.R_reads' HO_5.out).1.symm] <;> rfl) | rfl | (simp only [List.length_drop, List.length_take]; rfl)) ?_; (with_reducible refine (laws_heldOpS.calls kj4 _ _ t310 1 t311 _ ?side1 ?side2 A18.out).mono ?_); (case side1 => exact Kd.C_below (Kd.R_reads' HO_5.out).2.2 (BL (Below.refl _ _) rfl rfl rfl rfl)); (case side2 => rw [show t310.length = t304.length from (Kd.R_reads' HO_5.out).1.symm]; exact (Kd.R_reads' HO_5.out).2.1); rintro e w' ⟨rfl, ⟨nd, rfl⟩⟩; refine ⟨_, rfl, ?_⟩))
    go_ret
    exact QT (BT HB.out)
   rw [if_neg c19] at H
   have c19b0 : decide (t311 < 0) = false := decide_eq_false c19
   clear c19
   by_cases c22 : t311 = t309
   rotate_left
   ·rw [if_neg c22] at H
    have c22b0 : (t311 == t309) = false := beq_eq_false_iff_ne.mpr c22
    have c22b1 : (t311 != t309) = true := bne_iff_ne.mpr c22
    obtain rfl := Option.some.inj H
    obtain ⟨Ao40, co40, eo40⟩ := Kd.R_slice HO_5.out
    subst eo40
    go_wp2_with (first | ((with_reducible refine gate_callee (f := 9) rfl ?_); refine goesL_ (some 35) rfl rfl Tryd.func9 (by kernel_rfl) rfl #[.slice Ao40 t304.length co40, .int .i64 1] rfl (by (try simp only [List.map_toArray, List.map_cons, List.map_nil]); first | done | rfl | (simp only [List.length_drop, List.length_take]; rfl)) ?_; (with_reducible refine (laws_markOpS.calls kj4 (fun k_ => some k_ = (.slice Ao40 t304.length co40 : Value).ownBlock) (.slice Ao40 t304.length co40) t304 1 t309 t310 w _ ?side1 ?side2 A17.out).mono ?_); (case side1 => repeat (first | (with_reducible first | exact HB.out | apply below_alloc | apply pw_below_drewN | apply below_drew1) | exact HB.out)); (case side2 => exact Kd.R_tight rfl HO_5.out); rintro e w41 ⟨rfl, hy0, hb, hkp⟩; refine ⟨_, rfl, ?_⟩; replace HO_3 := AM_ (Kd.R_mono (ok' := fun k_ => some k_ ≠ (.slice Ao40 t304.length co40 : Value).ownBlock) (Kd.R_keptB (HO_3.out) hkp (fun k_ hk_ hs_ => (hk_) hs_)) (fun k_ hk_ => hk_.1)); replace HO_5 := AM_ (Kd.R_reok rfl hy0 (fun k_ e_ => HO_5.out.1 k_ e_)); replace HB := AM_ (hb); (try clear hb); (try clear hkp); (try clear hy0)) | ((with_reducible refine gate_callee (f := 10) rfl ?_); refine goesL_ (some 38) rfl rfl Tryd.func10 (by kernel_rfl) rfl #[.slice Ao40 t310.length co40, .int .i64 1] rfl (by (try simp only [List.map_toArray, List.map_cons, List.map_nil]); first | done | (rw [show t310.length = t304.length from (Kd.R_reads' HO_5.out).1.symm] <;> rfl) | rfl | (simp only [List.length_drop, List.length_take]; rfl)) ?_; (with_reducible refine (laws_heldOpS.calls kj4 _ _ t310 1 t311 _ ?side1 ?side2 A18.out).mono ?_); (case side1 => exact Kd.C_below (Kd.R_reads' HO_5.out).2.2 (BL (Below.refl _ _) rfl rfl rfl rfl)); (case side2 => rw [show t310.length = t304.length from (Kd.R_reads' HO_5.out).1.symm]; exact (Kd.R_reads' HO_5.out).2.1); rintro e w' ⟨rfl, ⟨nd, rfl⟩⟩; refine ⟨_, rfl, ?_⟩))
    go_ret
    exact QT (BT HB.out)
   rw [if_pos c22] at H
   have c22b0 : (t311 == t309) = true := beq_iff_eq.mpr c22
   have c22b1 : (t311 != t309) = false := bne_eq_false_iff_eq.mpr c22
   clear c22
   replace H := Option.bind_eq_some_iff.mp H
   obtain ⟨⟨t312, t313⟩, A230, H⟩ := H
   replace H : ((laws_eqOpS.f kj4 t312 t300).bind fun t316 => (if t316 = true then (laws_FnExactParseOps.j1 kj4 t310 t309 (t313 != t301)) else (laws_FnExactParseOps.j1 kj4 t310 t309 true))) = some r := H
   have A23 := AM_ A230
   clear A230
   have HC24 := AM_ H
   clear H
   obtain ⟨Ao25, co25, eo25⟩ := Kd.R_slice HO_5.out
   subst eo25
   go_upto_region 16 with (first | ((with_reducible refine gate_callee (f := 9) rfl ?_); refine goesL_ (some 35) rfl rfl Tryd.func9 (by kernel_rfl) rfl #[.slice Ao25 t304.length co25, .int .i64 1] rfl (by (try simp only [List.map_toArray, List.map_cons, List.map_nil]); first | done | rfl | (simp only [List.length_drop, List.length_take]; rfl)) ?_; (with_reducible refine (laws_markOpS.calls kj4 (fun k_ => some k_ = (.slice Ao25 t304.length co25 : Value).ownBlock) (.slice Ao25 t304.length co25) t304 1 t309 t310 w _ ?side1 ?side2 A17.out).mono ?_); (case side1 => repeat (first | (with_reducible first | exact HB.out | apply below_alloc | apply pw_below_drewN | apply below_drew1) | exact HB.out)); (case side2 => exact Kd.R_tight rfl HO_5.out); rintro e w26 ⟨rfl, hy0, hb, hkp⟩; refine ⟨_, rfl, ?_⟩; replace HO_3 := AM_ (Kd.R_mono (ok' := fun k_ => some k_ ≠ (.slice Ao25 t304.length co25 : Value).ownBlock) (Kd.R_keptB (HO_3.out) hkp (fun k_ hk_ hs_ => (hk_) hs_)) (fun k_ hk_ => hk_.1)); replace HO_5 := AM_ (Kd.R_reok rfl hy0 (fun k_ e_ => HO_5.out.1 k_ e_)); replace HB := AM_ (hb); (try clear hb); (try clear hkp); (try clear hy0)) | ((with_reducible refine gate_callee (f := 10) rfl ?_); refine goesL_ (some 38) rfl rfl Tryd.func10 (by kernel_rfl) rfl #[.slice Ao25 t310.length co25, .int .i64 1] rfl (by (try simp only [List.map_toArray, List.map_cons, List.map_nil]); first | done | (rw [show t310.length = t304.length from (Kd.R_reads' HO_5.out).1.symm] <;> rfl) | rfl | (simp only [List.length_drop, List.length_take]; rfl)) ?_; (with_reducible refine (laws_heldOpS.calls kj4 _ _ t310 1 t311 _ ?side1 ?side2 A18.out).mono ?_); (case side1 => exact Kd.C_below (Kd.R_reads' HO_5.out).2.2 (BL (Below.refl _ _) rfl rfl rfl rfl)); (case side2 => rw [show t310.length = t304.length from (Kd.R_reads' HO_5.out).1.symm]; exact (Kd.R_reads' HO_5.out).2.1); rintro e w' ⟨rfl, ⟨nd, rfl⟩⟩; refine ⟨_, rfl, ?_⟩) | ((with_reducible refine gate_callee (f := 7) rfl ?_); refine goesL_ (some 46) rfl rfl Tryd.func7 (by kernel_rfl) rfl #[.string a0] rfl (by (try simp only [List.map_toArray, List.map_cons, List.map_nil]); first | done | rfl | (simp only [List.length_drop, List.length_take]; rfl)) ?_; (with_reducible refine (impl_ParseOps.calls kj4 a0 t312 t313 _ ?side1 A23.out).mono ?_); (case side1 => first | (with_reducible exact hTB) | exact Tryd.TB_below hTB (BT HB.out)); rintro e w27 ⟨v314, rfl, ho0, hb⟩; refine ⟨_, rfl, ?_⟩; have HO315 := AM_ (Kd.R_lower (Kd.R_new' (Kd.R_new' ho0 (Kd.R_lt (RT HO_3.out))) (Kd.R_lt (RT HO_5.out))) (below_size (BT HB.out))); replace HO_3 := AM_ (Kd.R_elder' (RT HO_3.out) (Kd.R_base ho0) hb); replace HO_5 := AM_ (Kd.R_elder' (RT HO_5.out) (Kd.R_base ho0) hb); replace HB := AM_ (below_step (BT HB.out) hb); (try clear hb); (try clear hb2); (try clear hk); (try clear hi); (try clear ho0)))
   (try simp only [pA, pS, pZ, pK])
   go_cut [57] (fun v57 wc => ∃ (kq : Nat) (x57_23 : Bool), v57 = .bool x57_23 ∧ Aside0 (laws_FnExactParseOps.j1 kq t310 t309 x57_23 = some r) ∧ Aside0 (kq ≤ kj4) ∧ Aside0 (Kd.R k36 36 wc w.heap.size (fun _ => True) (.slice Ao25 t304.length co25) t310) ∧ Aside0 (Below w.heap.size w wc))
   case first =>
    have H := HC24.out
    clear HC24
    replace H := Option.bind_eq_some_iff.mp H
    obtain ⟨t316, A280, H⟩ := H
    replace H : (if t316 = true then (laws_FnExactParseOps.j1 kj4 t310 t309 (t313 != t301)) else (laws_FnExactParseOps.j1 kj4 t310 t309 true)) = some r := H
    have A28 := AM_ A280
    clear A280
    by_cases c29 : t316 = true
    ·subst c29
     have H1 : (laws_FnExactParseOps.j1 kj4 t310 t309 (t313 != t301)) = some r := by rw [if_pos rfl] at H; exact H
     clear H
     have H := H1
     clear H1
     have H' := AM_ H
     clear H
     obtain ⟨Ao30, co30, eo30⟩ := Kd.R_slice HO315.out
     subst eo30
     obtain ⟨Ao31, co31, eo31⟩ := Kd.R_slice HO_3.out
     subst eo31
     go_wp2_with (first | ((with_reducible refine gate_callee (f := 8) rfl ?_); refine goesL_ (some 51) rfl rfl Tryd.func8 (by kernel_rfl) rfl #[.slice Ao30 t312.length co30, .slice Ao31 t300.length co31] rfl (by (try simp only [List.map_toArray, List.map_cons, List.map_nil]); first | done | rfl | (simp only [List.length_drop, List.length_take]; rfl)) ?_; (with_reducible refine (laws_eqOpS.calls kj4 _ _ t312 _ _ t300 true _ ?side1 ?side2 ?side3 ?side4 A28.out).mono ?_); (case side1 => exact Kd.C_below (Kd.R_reads' HO315.out).2.2 (BL (Below.refl _ _) rfl rfl rfl rfl)); (case side2 => exact (Kd.R_reads' HO315.out).2.1); (case side3 => exact Kd.C_below (Kd.R_reads' HO_3.out).2.2 (BL (Below.refl _ _) rfl rfl rfl rfl)); (case side4 => exact (Kd.R_reads' HO_3.out).2.1); rintro e w32 ⟨rfl, hb⟩; refine ⟨_, rfl, ?_⟩; replace HO_3 := AM_ (Kd.R_below (RT HO_3.out) hb); replace HO_5 := AM_ (Kd.R_below (RT HO_5.out) hb); replace HO315 := AM_ (Kd.R_below (RT HO315.out) hb); replace HB := AM_ (below_step (BT HB.out) hb); (try clear hb); (try clear hb2); (try clear hk); (try clear hi)))
     go_meet
     case rel => exact ⟨_, ((t313 != t301)), (by first | rfl | (simp; done) | (simp [*]; done)), H', ⟨by have := HJ4.out; first | omega | exact Nat.le_refl _⟩, ⟨by (with_reducible repeat (first | apply Kd.R_alloc | apply Kd.R_drewN | apply Kd.R_drew)); exact Kd.R_mono HO_5.out (fun _ hk => trivial)⟩, ⟨BT HB.out⟩⟩
    replace c29 := Bool.eq_false_iff.mpr c29
    subst c29
    have H1 : (laws_FnExactParseOps.j1 kj4 t310 t309 true) = some r := by rw [if_neg (show ¬ (false = true) by decide)] at H; exact H
    clear H
    have H := H1
    clear H1
    have H' := AM_ H
    clear H
    obtain ⟨Ao33, co33, eo33⟩ := Kd.R_slice HO315.out
    subst eo33
    obtain ⟨Ao34, co34, eo34⟩ := Kd.R_slice HO_3.out
    subst eo34
    go_wp2_with (first | ((with_reducible refine gate_callee (f := 8) rfl ?_); refine goesL_ (some 51) rfl rfl Tryd.func8 (by kernel_rfl) rfl #[.slice Ao33 t312.length co33, .slice Ao34 t300.length co34] rfl (by (try simp only [List.map_toArray, List.map_cons, List.map_nil]); first | done | rfl | (simp only [List.length_drop, List.length_take]; rfl)) ?_; (with_reducible refine (laws_eqOpS.calls kj4 _ _ t312 _ _ t300 false _ ?side1 ?side2 ?side3 ?side4 A28.out).mono ?_); (case side1 => exact Kd.C_below (Kd.R_reads' HO315.out).2.2 (BL (Below.refl _ _) rfl rfl rfl rfl)); (case side2 => exact (Kd.R_reads' HO315.out).2.1); (case side3 => exact Kd.C_below (Kd.R_reads' HO_3.out).2.2 (BL (Below.refl _ _) rfl rfl rfl rfl)); (case side4 => exact (Kd.R_reads' HO_3.out).2.1); rintro e w35 ⟨rfl, hb⟩; refine ⟨_, rfl, ?_⟩; replace HO_3 := AM_ (Kd.R_below (RT HO_3.out) hb); replace HO_5 := AM_ (Kd.R_below (RT HO_5.out) hb); replace HO315 := AM_ (Kd.R_below (RT HO315.out) hb); replace HB := AM_ (below_step (BT HB.out) hb); (try clear hb); (try clear hb2); (try clear hk); (try clear hi)))
    go_meet
    case rel => exact ⟨_, (true), (by first | rfl | (simp; done) | (simp [*]; done)), H', ⟨by have := HJ4.out; first | omega | exact Nat.le_refl _⟩, ⟨by (with_reducible repeat (first | apply Kd.R_alloc | apply Kd.R_drewN | apply Kd.R_drew)); exact Kd.R_mono HO_5.out (fun _ hk => trivial)⟩, ⟨BT HB.out⟩⟩
   case rest =>
    clear HC24
    try clear c1
    try clear c2
    try clear c2b0
    try clear c2b1
    try clear p2
    try clear c3
    try clear c6
    try clear c7
    try clear c8
    try clear c9
    try clear c10
    try clear c16
    try clear c19
    try clear c19b0
    try clear c22
    try clear c22b0
    try clear c22b1
    try clear c29
    try clear p2
    obtain ⟨kq, x57_23, rfl, HA, HJ23, HO_5, HB⟩ := hcut
    have hl5_23 := (Kd.R_reads' HO_5.out).1
    rw [hl5_23] at HO_5
    (try simp only [hl5_23])
    cases kq with
    | zero => exact absurd HA.out (by simp [laws_FnExactParseOps.j1])
    | succ kj23 =>
     have H := HA.out
     clear HA
     simp only [laws_FnExactParseOps.j1] at H
     by_cases c36 : x57_23 = true
     ·subst c36
      have H1 : (some false) = some r := by rw [if_pos rfl] at H; exact H
      clear H
      have H := H1
      clear H1
      obtain rfl := Option.some.inj H
      go_wp2
      go_ret
      exact QT (BT HB.out)
     replace c36 := Bool.eq_false_iff.mpr c36
     subst c36
     have H1 : ((laws_heldOpS.f kj23 t310 1).bind fun t317 => (if t317 < 0 then (some false) else (if t317 = t309 then (some true) else (some false)))) = some r := by rw [if_neg (show ¬ (false = true) by decide)] at H; exact H
     clear H
     have H := H1
     clear H1
     replace H := Option.bind_eq_some_iff.mp H
     obtain ⟨t317, A370, H⟩ := H
     replace H : (if t317 < 0 then (some false) else (if t317 = t309 then (some true) else (some false))) = some r := H
     have A37 := AM_ A370
     clear A370
     by_cases c38 : t317 < 0
     ·rw [if_pos c38] at H
      have c38b0 : decide (t317 < 0) = true := decide_eq_true c38
      clear c38
      obtain rfl := Option.some.inj H
      go_wp2_with (first | ((with_reducible refine gate_callee (f := 10) rfl ?_); refine goesL_ (some 60) rfl rfl Tryd.func10 (by kernel_rfl) rfl #[.slice Ao25 t310.length co25, .int .i64 1] rfl (by (try simp only [List.map_toArray, List.map_cons, List.map_nil]); first | done | rfl | (simp only [List.length_drop, List.length_take]; rfl)) ?_; (with_reducible refine (laws_heldOpS.calls kj23 _ _ t310 1 t317 _ ?side1 ?side2 A37.out).mono ?_); (case side1 => exact Kd.C_below (Kd.R_reads' HO_5.out).2.2 (BL (Below.refl _ _) rfl rfl rfl rfl)); (case side2 => exact (Kd.R_reads' HO_5.out).2.1); rintro e w' ⟨rfl, ⟨nd, rfl⟩⟩; refine ⟨_, rfl, ?_⟩))
      go_ret
      exact QT (BT HB.out)
     rw [if_neg c38] at H
     have c38b0 : decide (t317 < 0) = false := decide_eq_false c38
     clear c38
     by_cases c39 : t317 = t309
     rotate_left
     ·rw [if_neg c39] at H
      have c39b0 : (t317 == t309) = false := beq_eq_false_iff_ne.mpr c39
      have c39b1 : (t317 != t309) = true := bne_iff_ne.mpr c39
      obtain rfl := Option.some.inj H
      go_wp2_with (first | ((with_reducible refine gate_callee (f := 10) rfl ?_); refine goesL_ (some 60) rfl rfl Tryd.func10 (by kernel_rfl) rfl #[.slice Ao25 t310.length co25, .int .i64 1] rfl (by (try simp only [List.map_toArray, List.map_cons, List.map_nil]); first | done | rfl | (simp only [List.length_drop, List.length_take]; rfl)) ?_; (with_reducible refine (laws_heldOpS.calls kj23 _ _ t310 1 t317 _ ?side1 ?side2 A37.out).mono ?_); (case side1 => exact Kd.C_below (Kd.R_reads' HO_5.out).2.2 (BL (Below.refl _ _) rfl rfl rfl rfl)); (case side2 => exact (Kd.R_reads' HO_5.out).2.1); rintro e w' ⟨rfl, ⟨nd, rfl⟩⟩; refine ⟨_, rfl, ?_⟩))
      go_ret
      exact QT (BT HB.out)
     rw [if_pos c39] at H
     have c39b0 : (t317 == t309) = true := beq_iff_eq.mpr c39
     have c39b1 : (t317 != t309) = false := bne_eq_false_iff_eq.mpr c39
     clear c39
     obtain rfl := Option.some.inj H
     go_wp2_with (first | ((with_reducible refine gate_callee (f := 10) rfl ?_); refine goesL_ (some 60) rfl rfl Tryd.func10 (by kernel_rfl) rfl #[.slice Ao25 t310.length co25, .int .i64 1] rfl (by (try simp only [List.map_toArray, List.map_cons, List.map_nil]); first | done | rfl | (simp only [List.length_drop, List.length_take]; rfl)) ?_; (with_reducible refine (laws_heldOpS.calls kj23 _ _ t310 1 t317 _ ?side1 ?side2 A37.out).mono ?_); (case side1 => exact Kd.C_below (Kd.R_reads' HO_5.out).2.2 (BL (Below.refl _ _) rfl rfl rfl rfl)); (case side2 => exact (Kd.R_reads' HO_5.out).2.1); rintro e w' ⟨rfl, ⟨nd, rfl⟩⟩; refine ⟨_, rfl, ?_⟩))
     go_ret
     exact QT (BT HB.out)

/-- THE ONE PURE STATEMENT of laws_FnExactParseOps: yours. -/
def laws_FnExactParseOps.Pure : Prop := ∀ (a0 : ByteArray), a0.size ≤ 140737488351232 → ∃ k, laws_FnExactParseOps.f k a0 = some true
theorem laws_FnExactParseOps.walk (P : laws_FnExactParseOps.Pure) (a0 : ByteArray) (w : World) (hTB : Tryd.TB w) (w0 : a0.size ≤ 140737488351232) :
  Calls Tryd.prog 3 #[.string a0] w fun e w' => e = .returned (.bool true) ∧ Below w.heap.size w w' := by
 obtain ⟨k, h⟩ := P a0 w0
 refine (laws_FnExactParseOps.calls k a0 true w hTB h).mono ?_
 rintro e w' ⟨rfl, hd⟩
 exact ⟨rfl, hd⟩

end Go.Proofs.YtgpmfkmdchcagaaDoor.PFnExactParseOps
