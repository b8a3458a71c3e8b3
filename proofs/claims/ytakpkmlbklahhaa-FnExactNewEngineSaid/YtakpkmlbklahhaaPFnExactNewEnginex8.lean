-- Printed by a program of mine (wip/myprint.py), which runs the printer of the kit with contracts of mine beside it.
import Derived.Test.YtakpkmlbklahhaaPFnExactNewEnginex0
import Derived.Test.YtakpkmlbklahhaaPFnExactNewEnginex7
namespace Go.Proofs.Ytakpkmlbklahhaa.PFnExactNewEngine
open Go.RowKit Go.Proofs.YtakpkmlbklahhaaW.PrintWords Go.Proofs.YtakpkmlbklahhaaW.PrintLast Go.Proofs.YtakpkmlbklahhaaW.PrintMore
attribute [local go_sem] max2_int min2_int max_two min_two max_three min_three max_four min_four   -- for this text's walks alone
set_option linter.unusedVariables false
set_option linter.unusedSimpArgs false

/-! ### laws_heldTransactionS: function 116 -/
def laws_heldTransactionS.l0 : Nat → List (S68) → Int → Int → Option (Int)
 | 0, _, _, _ => none
 | k + 1, x0, x1, x5 => if x5 < (x0.length : Int) then (if 0 ≤ x5 then (if ((rd_T68 x0 x5).f0) = x1 then (if ((rd_T68 x0 x5).f1) = (wrap64 (x1 + 1)) then (if ((rd_T68 x0 x5).f2) = (wrap64 ((wrap64 (x1 + 1)) + 1)) then (if ((rd_T68 x0 x5).f3) = (wrap64 ((wrap64 ((wrap64 (x1 + 1)) + 1)) + 1)) then (if ((rd_T68 x0 x5).f4) = (wrap64 ((wrap64 ((wrap64 ((wrap64 (x1 + 1)) + 1)) + 1)) + 1)) then (if ((rd_T68 x0 x5).f5) = (wrap64 ((wrap64 ((wrap64 ((wrap64 ((wrap64 (x1 + 1)) + 1)) + 1)) + 1)) + 1)) then (if ((rd_T68 x0 x5).f6) = (wrap64 ((wrap64 ((wrap64 ((wrap64 ((wrap64 ((wrap64 (x1 + 1)) + 1)) + 1)) + 1)) + 1)) + 1)) then ((laws_heldReadMarkS.f k ((rd_T68 x0 x5).f7) (wrap64 ((wrap64 ((wrap64 ((wrap64 ((wrap64 ((wrap64 ((wrap64 (x1 + 1)) + 1)) + 1)) + 1)) + 1)) + 1)) + 1))).bind fun t203 => (if t203 < 0 then (some (-1)) else ((laws_heldWriteS.f k ((rd_T68 x0 x5).f8) t203).bind fun t205 => (if t205 < 0 then (some (-1)) else (laws_heldTransactionS.l0 k x0 t205 (wrap64 (x5 + 1))))))) else (some (-1))) else (some (-1))) else (some (-1))) else (some (-1))) else (some (-1))) else (some (-1))) else (some (-1))) else (none)) else (some x1)
def laws_heldTransactionS.f (k : Nat) (l0 : List (S68)) (a1 : Int) : Option (Int) := laws_heldTransactionS.l0 k l0 a1 0
theorem laws_heldTransactionS.mono_l : ∀ k, (∀ y0 y1 y2, LeO (laws_heldTransactionS.l0 k y0 y1 y2) (laws_heldTransactionS.l0 (k + 1) y0 y1 y2))
 | 0 => fun _ _ _ r h => by simp [laws_heldTransactionS.l0] at h
 | k + 1 => by
  have ih0 := laws_heldTransactionS.mono_l k
  ·intro y0 y1 y2
   unfold laws_heldTransactionS.l0
   repeat' first
   | (with_reducible exact ih0 _ _ _)
   | (with_reducible exact laws_heldReadMarkS.mono _ _ _)
   | (with_reducible exact laws_heldWriteS.mono _ _ _)
   | (with_reducible exact LeO.refl _)
   | (with_reducible exact LeO.none _)
   | (with_reducible refine LeO.ite ?_ ?_)
   | (with_reducible refine LeO.bind ?_ (fun _ => ?_))
   | exact ih0 _ _ _
   | exact laws_heldReadMarkS.mono _ _ _
   | exact laws_heldWriteS.mono _ _ _
   | exact LeO.none _
   | refine LeO.ite ?_ ?_
   | refine LeO.bind ?_ (fun _ => ?_)
theorem laws_heldTransactionS.mono : ∀ a0 a1 k, LeO (laws_heldTransactionS.f k a0 a1) (laws_heldTransactionS.f (k + 1) a0 a1) := by
 intro a0 a1 k
 have ih0 := laws_heldTransactionS.mono_l k
 unfold laws_heldTransactionS.f
 repeat' first
   | (with_reducible exact ih0 _ _ _)
   | (with_reducible exact laws_heldReadMarkS.mono _ _ _)
   | (with_reducible exact laws_heldWriteS.mono _ _ _)
   | (with_reducible exact LeO.refl _)
   | (with_reducible exact LeO.none _)
   | (with_reducible refine LeO.ite ?_ ?_)
   | (with_reducible refine LeO.bind ?_ (fun _ => ?_))
   | exact ih0 _ _ _
   | exact laws_heldReadMarkS.mono _ _ _
   | exact laws_heldWriteS.mono _ _ _
   | exact LeO.none _
   | refine LeO.ite ?_ ?_
   | refine LeO.bind ?_ (fun _ => ?_)
set_option maxHeartbeats 8000000 in
set_option maxRecDepth 100000 in
theorem laws_heldTransactionS.calls (k : Nat) (A0 : Option Addr) (c0 : Nat) (l0 : List (S68)) (a1 : Int) (r : Int) (w : World) (hr0 : Kd.C k68 w A0 l0.length l0) (hc0 : l0.length ≤ c0) (h : laws_heldTransactionS.f k l0 a1 = some r) :
  Calls Try.prog 116 #[.slice A0 l0.length c0, .int .i64 a1] w fun e w' => e = .returned (.int .i64 r) ∧ Drawn0 w w' := by
 have HR0 := AM_ hr0
 have HC0 := AM_ hc0
 clear hr0 hc0
 have H : (laws_heldTransactionS.l0 k l0 a1 0) = some r := h
 clear h
 have H' := AM_ H
 clear H
 go_enter Try.func116, Try.ntmps116
 go_wp2
 go_loopg [1, 5] k (fun kq v1 v5 w' => ∃ (x1_1 : Int) (x5_1 : Int), v1 = .int .i64 x1_1 ∧ v5 = .int .i64 x5_1 ∧ Aside0 (laws_heldTransactionS.l0 kq l0 x1_1 x5_1 = some r) ∧ Aside0 (kq ≤ k) ∧ Drawn0 w w')
 case atStart => exact ⟨(a1), (0), (by first | rfl | (simp; done) | (simp [*]; done)), (by first | rfl | (simp; done) | (simp [*]; done)), H', ⟨Nat.le_refl _⟩, by repeat (first | exact Drawn0.refl _ | apply Drawn0.step)⟩
 case round =>
  clear H'
  try clear c1
  try clear p2
  obtain ⟨x1_1, x5_1, rfl, rfl, HA, HK1, ⟨m1, rfl⟩⟩ := hrel
  cases gk with
  | zero => exact absurd HA.out (by simp [laws_heldTransactionS.l0])
  | succ k1 =>
   have H := HA.out
   clear HA
   simp only [laws_heldTransactionS.l0] at H
   by_cases c3 : x5_1 < (l0.length : Int)
   rotate_left
   ·rw [if_neg c3] at H
    have c3b0 : decide (x5_1 < (l0.length : Int)) = false := decide_eq_false c3
    clear c3
    obtain rfl := Option.some.inj H
    go_wp2
    go_ret
    exact ⟨by first | rfl | (simp; done) | (simp [*]; done), by repeat (first | exact Drawn0.refl _ | apply Drawn0.step)⟩
   rw [if_pos c3] at H
   have c3b0 : decide (x5_1 < (l0.length : Int)) = true := decide_eq_true c3
   clear c3
   by_cases c4 : 0 ≤ x5_1
   rotate_left
   ·rw [if_neg c4] at H
    exact absurd H (by simp)
   rw [if_pos c4] at H
   have c4b0 : decide (0 ≤ x5_1) = true := decide_eq_true c4
   clear c4
   by_cases c5 : ((rd_T68 l0 x5_1).f0) = x1_1
   rotate_left
   ·rw [if_neg c5] at H
    have c5b0 : (((rd_T68 l0 x5_1).f0) == x1_1) = false := beq_eq_false_iff_ne.mpr c5
    have c5b1 : (((rd_T68 l0 x5_1).f0) != x1_1) = true := bne_iff_ne.mpr c5
    obtain rfl := Option.some.inj H
    have p195 : 0 ≤ (x5_1 : Int) := DT
    have q195 : x5_1 < (l0.length : Int) := DT
    obtain ⟨ad195, A195_7, c195_7, A195_8, c195_8, e195, hx195_0, hx195_1, hx195_2, hx195_3, hx195_4, hx195_5, hx195_6, hx195_7, hx195_8, hl195_7, hi195_7, hl195_8, hi195_8⟩ := at_T68 HR0.out x5_1 p195 q195
    cases e195
    have HR195_7 := AM_ hi195_7
    have HC195_7 := AM_ hl195_7
    clear hi195_7 hl195_7
    have HR195_8 := AM_ hi195_8
    have HC195_8 := AM_ hl195_8
    clear hi195_8 hl195_8
    replace p195 := eq_true p195
    replace q195 := eq_true q195
    go_wp2
    go_ret
    exact ⟨by first | rfl | (simp; done) | (simp [*]; done), by repeat (first | exact Drawn0.refl _ | apply Drawn0.step)⟩
   rw [if_pos c5] at H
   have c5b0 : (((rd_T68 l0 x5_1).f0) == x1_1) = true := beq_iff_eq.mpr c5
   have c5b1 : (((rd_T68 l0 x5_1).f0) != x1_1) = false := bne_eq_false_iff_eq.mpr c5
   clear c5
   by_cases c6 : ((rd_T68 l0 x5_1).f1) = (wrap64 (x1_1 + 1))
   rotate_left
   ·rw [if_neg c6] at H
    have c6b0 : (((rd_T68 l0 x5_1).f1) == (wrap64 (x1_1 + 1))) = false := beq_eq_false_iff_ne.mpr c6
    have c6b1 : (((rd_T68 l0 x5_1).f1) != (wrap64 (x1_1 + 1))) = true := bne_iff_ne.mpr c6
    obtain rfl := Option.some.inj H
    have p195 : 0 ≤ (x5_1 : Int) := DT
    have q195 : x5_1 < (l0.length : Int) := DT
    obtain ⟨ad195, A195_7, c195_7, A195_8, c195_8, e195, hx195_0, hx195_1, hx195_2, hx195_3, hx195_4, hx195_5, hx195_6, hx195_7, hx195_8, hl195_7, hi195_7, hl195_8, hi195_8⟩ := at_T68 HR0.out x5_1 p195 q195
    cases e195
    have HR195_7 := AM_ hi195_7
    have HC195_7 := AM_ hl195_7
    clear hi195_7 hl195_7
    have HR195_8 := AM_ hi195_8
    have HC195_8 := AM_ hl195_8
    clear hi195_8 hl195_8
    replace p195 := eq_true p195
    replace q195 := eq_true q195
    have p196 : 0 ≤ (x5_1 : Int) := DT
    have q196 : x5_1 < (l0.length : Int) := DT
    obtain ⟨ad196, A196_7, c196_7, A196_8, c196_8, e196, hx196_0, hx196_1, hx196_2, hx196_3, hx196_4, hx196_5, hx196_6, hx196_7, hx196_8, hl196_7, hi196_7, hl196_8, hi196_8⟩ := at_T68 HR0.out x5_1 p196 q196
    obtain rfl : ad195 = ad196 := (by injection e196)
    have HR196_7 := AM_ hi196_7
    have HC196_7 := AM_ hl196_7
    clear hi196_7 hl196_7
    have HR196_8 := AM_ hi196_8
    have HC196_8 := AM_ hl196_8
    clear hi196_8 hl196_8
    replace p196 := eq_true p196
    replace q196 := eq_true q196
    have ea_ := Option.some.inj (hx195_7.symm.trans hx196_7)
    injection ea_ with ea_ en_ ec_
    subst ea_
    subst ec_
    clear en_
    have ea_ := Option.some.inj (hx195_8.symm.trans hx196_8)
    injection ea_ with ea_ en_ ec_
    subst ea_
    subst ec_
    clear en_
    go_wp2
    go_ret
    exact ⟨by first | rfl | (simp; done) | (simp [*]; done), by repeat (first | exact Drawn0.refl _ | apply Drawn0.step)⟩
   rw [if_pos c6] at H
   have c6b0 : (((rd_T68 l0 x5_1).f1) == (wrap64 (x1_1 + 1))) = true := beq_iff_eq.mpr c6
   have c6b1 : (((rd_T68 l0 x5_1).f1) != (wrap64 (x1_1 + 1))) = false := bne_eq_false_iff_eq.mpr c6
   clear c6
   by_cases c7 : ((rd_T68 l0 x5_1).f2) = (wrap64 ((wrap64 (x1_1 + 1)) + 1))
   rotate_left
   ·rw [if_neg c7] at H
    have c7b0 : (((rd_T68 l0 x5_1).f2) == (wrap64 ((wrap64 (x1_1 + 1)) + 1))) = false := beq_eq_false_iff_ne.mpr c7
    have c7b1 : (((rd_T68 l0 x5_1).f2) != (wrap64 ((wrap64 (x1_1 + 1)) + 1))) = true := bne_iff_ne.mpr c7
    obtain rfl := Option.some.inj H
    have p195 : 0 ≤ (x5_1 : Int) := DT
    have q195 : x5_1 < (l0.length : Int) := DT
    obtain ⟨ad195, A195_7, c195_7, A195_8, c195_8, e195, hx195_0, hx195_1, hx195_2, hx195_3, hx195_4, hx195_5, hx195_6, hx195_7, hx195_8, hl195_7, hi195_7, hl195_8, hi195_8⟩ := at_T68 HR0.out x5_1 p195 q195
    cases e195
    have HR195_7 := AM_ hi195_7
    have HC195_7 := AM_ hl195_7
    clear hi195_7 hl195_7
    have HR195_8 := AM_ hi195_8
    have HC195_8 := AM_ hl195_8
    clear hi195_8 hl195_8
    replace p195 := eq_true p195
    replace q195 := eq_true q195
    have p196 : 0 ≤ (x5_1 : Int) := DT
    have q196 : x5_1 < (l0.length : Int) := DT
    obtain ⟨ad196, A196_7, c196_7, A196_8, c196_8, e196, hx196_0, hx196_1, hx196_2, hx196_3, hx196_4, hx196_5, hx196_6, hx196_7, hx196_8, hl196_7, hi196_7, hl196_8, hi196_8⟩ := at_T68 HR0.out x5_1 p196 q196
    obtain rfl : ad195 = ad196 := (by injection e196)
    have HR196_7 := AM_ hi196_7
    have HC196_7 := AM_ hl196_7
    clear hi196_7 hl196_7
    have HR196_8 := AM_ hi196_8
    have HC196_8 := AM_ hl196_8
    clear hi196_8 hl196_8
    replace p196 := eq_true p196
    replace q196 := eq_true q196
    have ea_ := Option.some.inj (hx195_7.symm.trans hx196_7)
    injection ea_ with ea_ en_ ec_
    subst ea_
    subst ec_
    clear en_
    have ea_ := Option.some.inj (hx195_8.symm.trans hx196_8)
    injection ea_ with ea_ en_ ec_
    subst ea_
    subst ec_
    clear en_
    have p197 : 0 ≤ (x5_1 : Int) := DT
    have q197 : x5_1 < (l0.length : Int) := DT
    obtain ⟨ad197, A197_7, c197_7, A197_8, c197_8, e197, hx197_0, hx197_1, hx197_2, hx197_3, hx197_4, hx197_5, hx197_6, hx197_7, hx197_8, hl197_7, hi197_7, hl197_8, hi197_8⟩ := at_T68 HR0.out x5_1 p197 q197
    obtain rfl : ad195 = ad197 := (by injection e197)
    have HR197_7 := AM_ hi197_7
    have HC197_7 := AM_ hl197_7
    clear hi197_7 hl197_7
    have HR197_8 := AM_ hi197_8
    have HC197_8 := AM_ hl197_8
    clear hi197_8 hl197_8
    replace p197 := eq_true p197
    replace q197 := eq_true q197
    have ea_ := Option.some.inj (hx195_7.symm.trans hx197_7)
    injection ea_ with ea_ en_ ec_
    subst ea_
    subst ec_
    clear en_
    have ea_ := Option.some.inj (hx195_8.symm.trans hx197_8)
    injection ea_ with ea_ en_ ec_
    subst ea_
    subst ec_
    clear en_
    go_wp2
    go_ret
    exact ⟨by first | rfl | (simp; done) | (simp [*]; done), by repeat (first | exact Drawn0.refl _ | apply Drawn0.step)⟩
   rw [if_pos c7] at H
   have c7b0 : (((rd_T68 l0 x5_1).f2) == (wrap64 ((wrap64 (x1_1 + 1)) + 1))) = true := beq_iff_eq.mpr c7
   have c7b1 : (((rd_T68 l0 x5_1).f2) != (wrap64 ((wrap64 (x1_1 + 1)) + 1))) = false := bne_eq_false_iff_eq.mpr c7
   clear c7
   by_cases c8 : ((rd_T68 l0 x5_1).f3) = (wrap64 ((wrap64 ((wrap64 (x1_1 + 1)) + 1)) + 1))
   rotate_left
   ·rw [if_neg c8] at H
    have c8b0 : (((rd_T68 l0 x5_1).f3) == (wrap64 ((wrap64 ((wrap64 (x1_1 + 1)) + 1)) + 1))) = false := beq_eq_false_iff_ne.mpr c8
    have c8b1 : (((rd_T68 l0 x5_1).f3) != (wrap64 ((wrap64 ((wrap64 (x1_1 + 1)) + 1)) + 1))) = true := bne_iff_ne.mpr c8
    obtain rfl := Option.some.inj H
    have p195 : 0 ≤ (x5_1 : Int) := DT
    have q195 : x5_1 < (l0.length : Int) := DT
    obtain ⟨ad195, A195_7, c195_7, A195_8, c195_8, e195, hx195_0, hx195_1, hx195_2, hx195_3, hx195_4, hx195_5, hx195_6, hx195_7, hx195_8, hl195_7, hi195_7, hl195_8, hi195_8⟩ := at_T68 HR0.out x5_1 p195 q195
    cases e195
    have HR195_7 := AM_ hi195_7
    have HC195_7 := AM_ hl195_7
    clear hi195_7 hl195_7
    have HR195_8 := AM_ hi195_8
    have HC195_8 := AM_ hl195_8
    clear hi195_8 hl195_8
    replace p195 := eq_true p195
    replace q195 := eq_true q195
    have p196 : 0 ≤ (x5_1 : Int) := DT
    have q196 : x5_1 < (l0.length : Int) := DT
    obtain ⟨ad196, A196_7, c196_7, A196_8, c196_8, e196, hx196_0, hx196_1, hx196_2, hx196_3, hx196_4, hx196_5, hx196_6, hx196_7, hx196_8, hl196_7, hi196_7, hl196_8, hi196_8⟩ := at_T68 HR0.out x5_1 p196 q196
    obtain rfl : ad195 = ad196 := (by injection e196)
    have HR196_7 := AM_ hi196_7
    have HC196_7 := AM_ hl196_7
    clear hi196_7 hl196_7
    have HR196_8 := AM_ hi196_8
    have HC196_8 := AM_ hl196_8
    clear hi196_8 hl196_8
    replace p196 := eq_true p196
    replace q196 := eq_true q196
    have ea_ := Option.some.inj (hx195_7.symm.trans hx196_7)
    injection ea_ with ea_ en_ ec_
    subst ea_
    subst ec_
    clear en_
    have ea_ := Option.some.inj (hx195_8.symm.trans hx196_8)
    injection ea_ with ea_ en_ ec_
    subst ea_
    subst ec_
    clear en_
    have p197 : 0 ≤ (x5_1 : Int) := DT
    have q197 : x5_1 < (l0.length : Int) := DT
    obtain ⟨ad197, A197_7, c197_7, A197_8, c197_8, e197, hx197_0, hx197_1, hx197_2, hx197_3, hx197_4, hx197_5, hx197_6, hx197_7, hx197_8, hl197_7, hi197_7, hl197_8, hi197_8⟩ := at_T68 HR0.out x5_1 p197 q197
    obtain rfl : ad195 = ad197 := (by injection e197)
    have HR197_7 := AM_ hi197_7
    have HC197_7 := AM_ hl197_7
    clear hi197_7 hl197_7
    have HR197_8 := AM_ hi197_8
    have HC197_8 := AM_ hl197_8
    clear hi197_8 hl197_8
    replace p197 := eq_true p197
    replace q197 := eq_true q197
    have ea_ := Option.some.inj (hx195_7.symm.trans hx197_7)
    injection ea_ with ea_ en_ ec_
    subst ea_
    subst ec_
    clear en_
    have ea_ := Option.some.inj (hx195_8.symm.trans hx197_8)
    injection ea_ with ea_ en_ ec_
    subst ea_
    subst ec_
    clear en_
    have p198 : 0 ≤ (x5_1 : Int) := DT
    have q198 : x5_1 < (l0.length : Int) := DT
    obtain ⟨ad198, A198_7, c198_7, A198_8, c198_8, e198, hx198_0, hx198_1, hx198_2, hx198_3, hx198_4, hx198_5, hx198_6, hx198_7, hx198_8, hl198_7, hi198_7, hl198_8, hi198_8⟩ := at_T68 HR0.out x5_1 p198 q198
    obtain rfl : ad195 = ad198 := (by injection e198)
    have HR198_7 := AM_ hi198_7
    have HC198_7 := AM_ hl198_7
    clear hi198_7 hl198_7
    have HR198_8 := AM_ hi198_8
    have HC198_8 := AM_ hl198_8
    clear hi198_8 hl198_8
    replace p198 := eq_true p198
    replace q198 := eq_true q198
    have ea_ := Option.some.inj (hx195_7.symm.trans hx198_7)
    injection ea_ with ea_ en_ ec_
    subst ea_
    subst ec_
    clear en_
    have ea_ := Option.some.inj (hx195_8.symm.trans hx198_8)
    injection ea_ with ea_ en_ ec_
    subst ea_
    subst ec_
    clear en_
    go_wp2
    go_ret
    exact ⟨by first | rfl | (simp; done) | (simp [*]; done), by repeat (first | exact Drawn0.refl _ | apply Drawn0.step)⟩
   rw [if_pos c8] at H
   have c8b0 : (((rd_T68 l0 x5_1).f3) == (wrap64 ((wrap64 ((wrap64 (x1_1 + 1)) + 1)) + 1))) = true := beq_iff_eq.mpr c8
   have c8b1 : (((rd_T68 l0 x5_1).f3) != (wrap64 ((wrap64 ((wrap64 (x1_1 + 1)) + 1)) + 1))) = false := bne_eq_false_iff_eq.mpr c8
   clear c8
   by_cases c9 : ((rd_T68 l0 x5_1).f4) = (wrap64 ((wrap64 ((wrap64 ((wrap64 (x1_1 + 1)) + 1)) + 1)) + 1))
   rotate_left
   ·rw [if_neg c9] at H
    have c9b0 : (((rd_T68 l0 x5_1).f4) == (wrap64 ((wrap64 ((wrap64 ((wrap64 (x1_1 + 1)) + 1)) + 1)) + 1))) = false := beq_eq_false_iff_ne.mpr c9
    have c9b1 : (((rd_T68 l0 x5_1).f4) != (wrap64 ((wrap64 ((wrap64 ((wrap64 (x1_1 + 1)) + 1)) + 1)) + 1))) = true := bne_iff_ne.mpr c9
    obtain rfl := Option.some.inj H
    have p195 : 0 ≤ (x5_1 : Int) := DT
    have q195 : x5_1 < (l0.length : Int) := DT
    obtain ⟨ad195, A195_7, c195_7, A195_8, c195_8, e195, hx195_0, hx195_1, hx195_2, hx195_3, hx195_4, hx195_5, hx195_6, hx195_7, hx195_8, hl195_7, hi195_7, hl195_8, hi195_8⟩ := at_T68 HR0.out x5_1 p195 q195
    cases e195
    have HR195_7 := AM_ hi195_7
    have HC195_7 := AM_ hl195_7
    clear hi195_7 hl195_7
    have HR195_8 := AM_ hi195_8
    have HC195_8 := AM_ hl195_8
    clear hi195_8 hl195_8
    replace p195 := eq_true p195
    replace q195 := eq_true q195
    have p196 : 0 ≤ (x5_1 : Int) := DT
    have q196 : x5_1 < (l0.length : Int) := DT
    obtain ⟨ad196, A196_7, c196_7, A196_8, c196_8, e196, hx196_0, hx196_1, hx196_2, hx196_3, hx196_4, hx196_5, hx196_6, hx196_7, hx196_8, hl196_7, hi196_7, hl196_8, hi196_8⟩ := at_T68 HR0.out x5_1 p196 q196
    obtain rfl : ad195 = ad196 := (by injection e196)
    have HR196_7 := AM_ hi196_7
    have HC196_7 := AM_ hl196_7
    clear hi196_7 hl196_7
    have HR196_8 := AM_ hi196_8
    have HC196_8 := AM_ hl196_8
    clear hi196_8 hl196_8
    replace p196 := eq_true p196
    replace q196 := eq_true q196
    have ea_ := Option.some.inj (hx195_7.symm.trans hx196_7)
    injection ea_ with ea_ en_ ec_
    subst ea_
    subst ec_
    clear en_
    have ea_ := Option.some.inj (hx195_8.symm.trans hx196_8)
    injection ea_ with ea_ en_ ec_
    subst ea_
    subst ec_
    clear en_
    have p197 : 0 ≤ (x5_1 : Int) := DT
    have q197 : x5_1 < (l0.length : Int) := DT
    obtain ⟨ad197, A197_7, c197_7, A197_8, c197_8, e197, hx197_0, hx197_1, hx197_2, hx197_3, hx197_4, hx197_5, hx197_6, hx197_7, hx197_8, hl197_7, hi197_7, hl197_8, hi197_8⟩ := at_T68 HR0.out x5_1 p197 q197
    obtain rfl : ad195 = ad197 := (by injection e197)
    have HR197_7 := AM_ hi197_7
    have HC197_7 := AM_ hl197_7
    clear hi197_7 hl197_7
    have HR197_8 := AM_ hi197_8
    have HC197_8 := AM_ hl197_8
    clear hi197_8 hl197_8
    replace p197 := eq_true p197
    replace q197 := eq_true q197
    have ea_ := Option.some.inj (hx195_7.symm.trans hx197_7)
    injection ea_ with ea_ en_ ec_
    subst ea_
    subst ec_
    clear en_
    have ea_ := Option.some.inj (hx195_8.symm.trans hx197_8)
    injection ea_ with ea_ en_ ec_
    subst ea_
    subst ec_
    clear en_
    have p198 : 0 ≤ (x5_1 : Int) := DT
    have q198 : x5_1 < (l0.length : Int) := DT
    obtain ⟨ad198, A198_7, c198_7, A198_8, c198_8, e198, hx198_0, hx198_1, hx198_2, hx198_3, hx198_4, hx198_5, hx198_6, hx198_7, hx198_8, hl198_7, hi198_7, hl198_8, hi198_8⟩ := at_T68 HR0.out x5_1 p198 q198
    obtain rfl : ad195 = ad198 := (by injection e198)
    have HR198_7 := AM_ hi198_7
    have HC198_7 := AM_ hl198_7
    clear hi198_7 hl198_7
    have HR198_8 := AM_ hi198_8
    have HC198_8 := AM_ hl198_8
    clear hi198_8 hl198_8
    replace p198 := eq_true p198
    replace q198 := eq_true q198
    have ea_ := Option.some.inj (hx195_7.symm.trans hx198_7)
    injection ea_ with ea_ en_ ec_
    subst ea_
    subst ec_
    clear en_
    have ea_ := Option.some.inj (hx195_8.symm.trans hx198_8)
    injection ea_ with ea_ en_ ec_
    subst ea_
    subst ec_
    clear en_
    have p199 : 0 ≤ (x5_1 : Int) := DT
    have q199 : x5_1 < (l0.length : Int) := DT
    obtain ⟨ad199, A199_7, c199_7, A199_8, c199_8, e199, hx199_0, hx199_1, hx199_2, hx199_3, hx199_4, hx199_5, hx199_6, hx199_7, hx199_8, hl199_7, hi199_7, hl199_8, hi199_8⟩ := at_T68 HR0.out x5_1 p199 q199
    obtain rfl : ad195 = ad199 := (by injection e199)
    have HR199_7 := AM_ hi199_7
    have HC199_7 := AM_ hl199_7
    clear hi199_7 hl199_7
    have HR199_8 := AM_ hi199_8
    have HC199_8 := AM_ hl199_8
    clear hi199_8 hl199_8
    replace p199 := eq_true p199
    replace q199 := eq_true q199
    have ea_ := Option.some.inj (hx195_7.symm.trans hx199_7)
    injection ea_ with ea_ en_ ec_
    subst ea_
    subst ec_
    clear en_
    have ea_ := Option.some.inj (hx195_8.symm.trans hx199_8)
    injection ea_ with ea_ en_ ec_
    subst ea_
    subst ec_
    clear en_
    go_wp2
    go_ret
    exact ⟨by first | rfl | (simp; done) | (simp [*]; done), by repeat (first | exact Drawn0.refl _ | apply Drawn0.step)⟩
   rw [if_pos c9] at H
   have c9b0 : (((rd_T68 l0 x5_1).f4) == (wrap64 ((wrap64 ((wrap64 ((wrap64 (x1_1 + 1)) + 1)) + 1)) + 1))) = true := beq_iff_eq.mpr c9
   have c9b1 : (((rd_T68 l0 x5_1).f4) != (wrap64 ((wrap64 ((wrap64 ((wrap64 (x1_1 + 1)) + 1)) + 1)) + 1))) = false := bne_eq_false_iff_eq.mpr c9
   clear c9
   by_cases c10 : ((rd_T68 l0 x5_1).f5) = (wrap64 ((wrap64 ((wrap64 ((wrap64 ((wrap64 (x1_1 + 1)) + 1)) + 1)) + 1)) + 1))
   rotate_left
   ·rw [if_neg c10] at H
    have c10b0 : (((rd_T68 l0 x5_1).f5) == (wrap64 ((wrap64 ((wrap64 ((wrap64 ((wrap64 (x1_1 + 1)) + 1)) + 1)) + 1)) + 1))) = false := beq_eq_false_iff_ne.mpr c10
    have c10b1 : (((rd_T68 l0 x5_1).f5) != (wrap64 ((wrap64 ((wrap64 ((wrap64 ((wrap64 (x1_1 + 1)) + 1)) + 1)) + 1)) + 1))) = true := bne_iff_ne.mpr c10
    obtain rfl := Option.some.inj H
    have p195 : 0 ≤ (x5_1 : Int) := DT
    have q195 : x5_1 < (l0.length : Int) := DT
    obtain ⟨ad195, A195_7, c195_7, A195_8, c195_8, e195, hx195_0, hx195_1, hx195_2, hx195_3, hx195_4, hx195_5, hx195_6, hx195_7, hx195_8, hl195_7, hi195_7, hl195_8, hi195_8⟩ := at_T68 HR0.out x5_1 p195 q195
    cases e195
    have HR195_7 := AM_ hi195_7
    have HC195_7 := AM_ hl195_7
    clear hi195_7 hl195_7
    have HR195_8 := AM_ hi195_8
    have HC195_8 := AM_ hl195_8
    clear hi195_8 hl195_8
    replace p195 := eq_true p195
    replace q195 := eq_true q195
    have p196 : 0 ≤ (x5_1 : Int) := DT
    have q196 : x5_1 < (l0.length : Int) := DT
    obtain ⟨ad196, A196_7, c196_7, A196_8, c196_8, e196, hx196_0, hx196_1, hx196_2, hx196_3, hx196_4, hx196_5, hx196_6, hx196_7, hx196_8, hl196_7, hi196_7, hl196_8, hi196_8⟩ := at_T68 HR0.out x5_1 p196 q196
    obtain rfl : ad195 = ad196 := (by injection e196)
    have HR196_7 := AM_ hi196_7
    have HC196_7 := AM_ hl196_7
    clear hi196_7 hl196_7
    have HR196_8 := AM_ hi196_8
    have HC196_8 := AM_ hl196_8
    clear hi196_8 hl196_8
    replace p196 := eq_true p196
    replace q196 := eq_true q196
    have ea_ := Option.some.inj (hx195_7.symm.trans hx196_7)
    injection ea_ with ea_ en_ ec_
    subst ea_
    subst ec_
    clear en_
    have ea_ := Option.some.inj (hx195_8.symm.trans hx196_8)
    injection ea_ with ea_ en_ ec_
    subst ea_
    subst ec_
    clear en_
    have p197 : 0 ≤ (x5_1 : Int) := DT
    have q197 : x5_1 < (l0.length : Int) := DT
    obtain ⟨ad197, A197_7, c197_7, A197_8, c197_8, e197, hx197_0, hx197_1, hx197_2, hx197_3, hx197_4, hx197_5, hx197_6, hx197_7, hx197_8, hl197_7, hi197_7, hl197_8, hi197_8⟩ := at_T68 HR0.out x5_1 p197 q197
    obtain rfl : ad195 = ad197 := (by injection e197)
    have HR197_7 := AM_ hi197_7
    have HC197_7 := AM_ hl197_7
    clear hi197_7 hl197_7
    have HR197_8 := AM_ hi197_8
    have HC197_8 := AM_ hl197_8
    clear hi197_8 hl197_8
    replace p197 := eq_true p197
    replace q197 := eq_true q197
    have ea_ := Option.some.inj (hx195_7.symm.trans hx197_7)
    injection ea_ with ea_ en_ ec_
    subst ea_
    subst ec_
    clear en_
    have ea_ := Option.some.inj (hx195_8.symm.trans hx197_8)
    injection ea_ with ea_ en_ ec_
    subst ea_
    subst ec_
    clear en_
    have p198 : 0 ≤ (x5_1 : Int) := DT
    have q198 : x5_1 < (l0.length : Int) := DT
    obtain ⟨ad198, A198_7, c198_7, A198_8, c198_8, e198, hx198_0, hx198_1, hx198_2, hx198_3, hx198_4, hx198_5, hx198_6, hx198_7, hx198_8, hl198_7, hi198_7, hl198_8, hi198_8⟩ := at_T68 HR0.out x5_1 p198 q198
    obtain rfl : ad195 = ad198 := (by injection e198)
    have HR198_7 := AM_ hi198_7
    have HC198_7 := AM_ hl198_7
    clear hi198_7 hl198_7
    have HR198_8 := AM_ hi198_8
    have HC198_8 := AM_ hl198_8
    clear hi198_8 hl198_8
    replace p198 := eq_true p198
    replace q198 := eq_true q198
    have ea_ := Option.some.inj (hx195_7.symm.trans hx198_7)
    injection ea_ with ea_ en_ ec_
    subst ea_
    subst ec_
    clear en_
    have ea_ := Option.some.inj (hx195_8.symm.trans hx198_8)
    injection ea_ with ea_ en_ ec_
    subst ea_
    subst ec_
    clear en_
    have p199 : 0 ≤ (x5_1 : Int) := DT
    have q199 : x5_1 < (l0.length : Int) := DT
    obtain ⟨ad199, A199_7, c199_7, A199_8, c199_8, e199, hx199_0, hx199_1, hx199_2, hx199_3, hx199_4, hx199_5, hx199_6, hx199_7, hx199_8, hl199_7, hi199_7, hl199_8, hi199_8⟩ := at_T68 HR0.out x5_1 p199 q199
    obtain rfl : ad195 = ad199 := (by injection e199)
    have HR199_7 := AM_ hi199_7
    have HC199_7 := AM_ hl199_7
    clear hi199_7 hl199_7
    have HR199_8 := AM_ hi199_8
    have HC199_8 := AM_ hl199_8
    clear hi199_8 hl199_8
    replace p199 := eq_true p199
    replace q199 := eq_true q199
    have ea_ := Option.some.inj (hx195_7.symm.trans hx199_7)
    injection ea_ with ea_ en_ ec_
    subst ea_
    subst ec_
    clear en_
    have ea_ := Option.some.inj (hx195_8.symm.trans hx199_8)
    injection ea_ with ea_ en_ ec_
    subst ea_
    subst ec_
    clear en_
    have p200 : 0 ≤ (x5_1 : Int) := DT
    have q200 : x5_1 < (l0.length : Int) := DT
    obtain ⟨ad200, A200_7, c200_7, A200_8, c200_8, e200, hx200_0, hx200_1, hx200_2, hx200_3, hx200_4, hx200_5, hx200_6, hx200_7, hx200_8, hl200_7, hi200_7, hl200_8, hi200_8⟩ := at_T68 HR0.out x5_1 p200 q200
    obtain rfl : ad195 = ad200 := (by injection e200)
    have HR200_7 := AM_ hi200_7
    have HC200_7 := AM_ hl200_7
    clear hi200_7 hl200_7
    have HR200_8 := AM_ hi200_8
    have HC200_8 := AM_ hl200_8
    clear hi200_8 hl200_8
    replace p200 := eq_true p200
    replace q200 := eq_true q200
    have ea_ := Option.some.inj (hx195_7.symm.trans hx200_7)
    injection ea_ with ea_ en_ ec_
    subst ea_
    subst ec_
    clear en_
    have ea_ := Option.some.inj (hx195_8.symm.trans hx200_8)
    injection ea_ with ea_ en_ ec_
    subst ea_
    subst ec_
    clear en_
    go_wp2
    go_ret
    exact ⟨by first | rfl | (simp; done) | (simp [*]; done), by repeat (first | exact Drawn0.refl _ | apply Drawn0.step)⟩
   rw [if_pos c10] at H
   have c10b0 : (((rd_T68 l0 x5_1).f5) == (wrap64 ((wrap64 ((wrap64 ((wrap64 ((wrap64 (x1_1 + 1)) + 1)) + 1)) + 1)) + 1))) = true := beq_iff_eq.mpr c10
   have c10b1 : (((rd_T68 l0 x5_1).f5) != (wrap64 ((wrap64 ((wrap64 ((wrap64 ((wrap64 (x1_1 + 1)) + 1)) + 1)) + 1)) + 1))) = false := bne_eq_false_iff_eq.mpr c10
   clear c10
   by_cases c11 : ((rd_T68 l0 x5_1).f6) = (wrap64 ((wrap64 ((wrap64 ((wrap64 ((wrap64 ((wrap64 (x1_1 + 1)) + 1)) + 1)) + 1)) + 1)) + 1))
   rotate_left
   ·rw [if_neg c11] at H
    have c11b0 : (((rd_T68 l0 x5_1).f6) == (wrap64 ((wrap64 ((wrap64 ((wrap64 ((wrap64 ((wrap64 (x1_1 + 1)) + 1)) + 1)) + 1)) + 1)) + 1))) = false := beq_eq_false_iff_ne.mpr c11
    have c11b1 : (((rd_T68 l0 x5_1).f6) != (wrap64 ((wrap64 ((wrap64 ((wrap64 ((wrap64 ((wrap64 (x1_1 + 1)) + 1)) + 1)) + 1)) + 1)) + 1))) = true := bne_iff_ne.mpr c11
    obtain rfl := Option.some.inj H
    have p195 : 0 ≤ (x5_1 : Int) := DT
    have q195 : x5_1 < (l0.length : Int) := DT
    obtain ⟨ad195, A195_7, c195_7, A195_8, c195_8, e195, hx195_0, hx195_1, hx195_2, hx195_3, hx195_4, hx195_5, hx195_6, hx195_7, hx195_8, hl195_7, hi195_7, hl195_8, hi195_8⟩ := at_T68 HR0.out x5_1 p195 q195
    cases e195
    have HR195_7 := AM_ hi195_7
    have HC195_7 := AM_ hl195_7
    clear hi195_7 hl195_7
    have HR195_8 := AM_ hi195_8
    have HC195_8 := AM_ hl195_8
    clear hi195_8 hl195_8
    replace p195 := eq_true p195
    replace q195 := eq_true q195
    have p196 : 0 ≤ (x5_1 : Int) := DT
    have q196 : x5_1 < (l0.length : Int) := DT
    obtain ⟨ad196, A196_7, c196_7, A196_8, c196_8, e196, hx196_0, hx196_1, hx196_2, hx196_3, hx196_4, hx196_5, hx196_6, hx196_7, hx196_8, hl196_7, hi196_7, hl196_8, hi196_8⟩ := at_T68 HR0.out x5_1 p196 q196
    obtain rfl : ad195 = ad196 := (by injection e196)
    have HR196_7 := AM_ hi196_7
    have HC196_7 := AM_ hl196_7
    clear hi196_7 hl196_7
    have HR196_8 := AM_ hi196_8
    have HC196_8 := AM_ hl196_8
    clear hi196_8 hl196_8
    replace p196 := eq_true p196
    replace q196 := eq_true q196
    have ea_ := Option.some.inj (hx195_7.symm.trans hx196_7)
    injection ea_ with ea_ en_ ec_
    subst ea_
    subst ec_
    clear en_
    have ea_ := Option.some.inj (hx195_8.symm.trans hx196_8)
    injection ea_ with ea_ en_ ec_
    subst ea_
    subst ec_
    clear en_
    have p197 : 0 ≤ (x5_1 : Int) := DT
    have q197 : x5_1 < (l0.length : Int) := DT
    obtain ⟨ad197, A197_7, c197_7, A197_8, c197_8, e197, hx197_0, hx197_1, hx197_2, hx197_3, hx197_4, hx197_5, hx197_6, hx197_7, hx197_8, hl197_7, hi197_7, hl197_8, hi197_8⟩ := at_T68 HR0.out x5_1 p197 q197
    obtain rfl : ad195 = ad197 := (by injection e197)
    have HR197_7 := AM_ hi197_7
    have HC197_7 := AM_ hl197_7
    clear hi197_7 hl197_7
    have HR197_8 := AM_ hi197_8
    have HC197_8 := AM_ hl197_8
    clear hi197_8 hl197_8
    replace p197 := eq_true p197
    replace q197 := eq_true q197
    have ea_ := Option.some.inj (hx195_7.symm.trans hx197_7)
    injection ea_ with ea_ en_ ec_
    subst ea_
    subst ec_
    clear en_
    have ea_ := Option.some.inj (hx195_8.symm.trans hx197_8)
    injection ea_ with ea_ en_ ec_
    subst ea_
    subst ec_
    clear en_
    have p198 : 0 ≤ (x5_1 : Int) := DT
    have q198 : x5_1 < (l0.length : Int) := DT
    obtain ⟨ad198, A198_7, c198_7, A198_8, c198_8, e198, hx198_0, hx198_1, hx198_2, hx198_3, hx198_4, hx198_5, hx198_6, hx198_7, hx198_8, hl198_7, hi198_7, hl198_8, hi198_8⟩ := at_T68 HR0.out x5_1 p198 q198
    obtain rfl : ad195 = ad198 := (by injection e198)
    have HR198_7 := AM_ hi198_7
    have HC198_7 := AM_ hl198_7
    clear hi198_7 hl198_7
    have HR198_8 := AM_ hi198_8
    have HC198_8 := AM_ hl198_8
    clear hi198_8 hl198_8
    replace p198 := eq_true p198
    replace q198 := eq_true q198
    have ea_ := Option.some.inj (hx195_7.symm.trans hx198_7)
    injection ea_ with ea_ en_ ec_
    subst ea_
    subst ec_
    clear en_
    have ea_ := Option.some.inj (hx195_8.symm.trans hx198_8)
    injection ea_ with ea_ en_ ec_
    subst ea_
    subst ec_
    clear en_
    have p199 : 0 ≤ (x5_1 : Int) := DT
    have q199 : x5_1 < (l0.length : Int) := DT
    obtain ⟨ad199, A199_7, c199_7, A199_8, c199_8, e199, hx199_0, hx199_1, hx199_2, hx199_3, hx199_4, hx199_5, hx199_6, hx199_7, hx199_8, hl199_7, hi199_7, hl199_8, hi199_8⟩ := at_T68 HR0.out x5_1 p199 q199
    obtain rfl : ad195 = ad199 := (by injection e199)
    have HR199_7 := AM_ hi199_7
    have HC199_7 := AM_ hl199_7
    clear hi199_7 hl199_7
    have HR199_8 := AM_ hi199_8
    have HC199_8 := AM_ hl199_8
    clear hi199_8 hl199_8
    replace p199 := eq_true p199
    replace q199 := eq_true q199
    have ea_ := Option.some.inj (hx195_7.symm.trans hx199_7)
    injection ea_ with ea_ en_ ec_
    subst ea_
    subst ec_
    clear en_
    have ea_ := Option.some.inj (hx195_8.symm.trans hx199_8)
    injection ea_ with ea_ en_ ec_
    subst ea_
    subst ec_
    clear en_
    have p200 : 0 ≤ (x5_1 : Int) := DT
    have q200 : x5_1 < (l0.length : Int) := DT
    obtain ⟨ad200, A200_7, c200_7, A200_8, c200_8, e200, hx200_0, hx200_1, hx200_2, hx200_3, hx200_4, hx200_5, hx200_6, hx200_7, hx200_8, hl200_7, hi200_7, hl200_8, hi200_8⟩ := at_T68 HR0.out x5_1 p200 q200
    obtain rfl : ad195 = ad200 := (by injection e200)
    have HR200_7 := AM_ hi200_7
    have HC200_7 := AM_ hl200_7
    clear hi200_7 hl200_7
    have HR200_8 := AM_ hi200_8
    have HC200_8 := AM_ hl200_8
    clear hi200_8 hl200_8
    replace p200 := eq_true p200
    replace q200 := eq_true q200
    have ea_ := Option.some.inj (hx195_7.symm.trans hx200_7)
    injection ea_ with ea_ en_ ec_
    subst ea_
    subst ec_
    clear en_
    have ea_ := Option.some.inj (hx195_8.symm.trans hx200_8)
    injection ea_ with ea_ en_ ec_
    subst ea_
    subst ec_
    clear en_
    have p201 : 0 ≤ (x5_1 : Int) := DT
    have q201 : x5_1 < (l0.length : Int) := DT
    obtain ⟨ad201, A201_7, c201_7, A201_8, c201_8, e201, hx201_0, hx201_1, hx201_2, hx201_3, hx201_4, hx201_5, hx201_6, hx201_7, hx201_8, hl201_7, hi201_7, hl201_8, hi201_8⟩ := at_T68 HR0.out x5_1 p201 q201
    obtain rfl : ad195 = ad201 := (by injection e201)
    have HR201_7 := AM_ hi201_7
    have HC201_7 := AM_ hl201_7
    clear hi201_7 hl201_7
    have HR201_8 := AM_ hi201_8
    have HC201_8 := AM_ hl201_8
    clear hi201_8 hl201_8
    replace p201 := eq_true p201
    replace q201 := eq_true q201
    have ea_ := Option.some.inj (hx195_7.symm.trans hx201_7)
    injection ea_ with ea_ en_ ec_
    subst ea_
    subst ec_
    clear en_
    have ea_ := Option.some.inj (hx195_8.symm.trans hx201_8)
    injection ea_ with ea_ en_ ec_
    subst ea_
    subst ec_
    clear en_
    go_wp2
    go_ret
    exact ⟨by first | rfl | (simp; done) | (simp [*]; done), by repeat (first | exact Drawn0.refl _ | apply Drawn0.step)⟩
   rw [if_pos c11] at H
   have c11b0 : (((rd_T68 l0 x5_1).f6) == (wrap64 ((wrap64 ((wrap64 ((wrap64 ((wrap64 ((wrap64 (x1_1 + 1)) + 1)) + 1)) + 1)) + 1)) + 1))) = true := beq_iff_eq.mpr c11
   have c11b1 : (((rd_T68 l0 x5_1).f6) != (wrap64 ((wrap64 ((wrap64 ((wrap64 ((wrap64 ((wrap64 (x1_1 + 1)) + 1)) + 1)) + 1)) + 1)) + 1))) = false := bne_eq_false_iff_eq.mpr c11
   clear c11
   replace H := Option.bind_eq_some_iff.mp H
   obtain ⟨t203, A120, H⟩ := H
   replace H : (if t203 < 0 then (some (-1)) else ((laws_heldWriteS.f k1 ((rd_T68 l0 x5_1).f8) t203).bind fun t205 => (if t205 < 0 then (some (-1)) else (laws_heldTransactionS.l0 k1 l0 t205 (wrap64 (x5_1 + 1)))))) = some r := H
   have A12 := AM_ A120
   clear A120
   by_cases c13 : t203 < 0
   ·rw [if_pos c13] at H
    have c13b0 : decide (t203 < 0) = true := decide_eq_true c13
    clear c13
    obtain rfl := Option.some.inj H
    have p195 : 0 ≤ (x5_1 : Int) := DT
    have q195 : x5_1 < (l0.length : Int) := DT
    obtain ⟨ad195, A195_7, c195_7, A195_8, c195_8, e195, hx195_0, hx195_1, hx195_2, hx195_3, hx195_4, hx195_5, hx195_6, hx195_7, hx195_8, hl195_7, hi195_7, hl195_8, hi195_8⟩ := at_T68 HR0.out x5_1 p195 q195
    cases e195
    have HR195_7 := AM_ hi195_7
    have HC195_7 := AM_ hl195_7
    clear hi195_7 hl195_7
    have HR195_8 := AM_ hi195_8
    have HC195_8 := AM_ hl195_8
    clear hi195_8 hl195_8
    replace p195 := eq_true p195
    replace q195 := eq_true q195
    have p196 : 0 ≤ (x5_1 : Int) := DT
    have q196 : x5_1 < (l0.length : Int) := DT
    obtain ⟨ad196, A196_7, c196_7, A196_8, c196_8, e196, hx196_0, hx196_1, hx196_2, hx196_3, hx196_4, hx196_5, hx196_6, hx196_7, hx196_8, hl196_7, hi196_7, hl196_8, hi196_8⟩ := at_T68 HR0.out x5_1 p196 q196
    obtain rfl : ad195 = ad196 := (by injection e196)
    have HR196_7 := AM_ hi196_7
    have HC196_7 := AM_ hl196_7
    clear hi196_7 hl196_7
    have HR196_8 := AM_ hi196_8
    have HC196_8 := AM_ hl196_8
    clear hi196_8 hl196_8
    replace p196 := eq_true p196
    replace q196 := eq_true q196
    have ea_ := Option.some.inj (hx195_7.symm.trans hx196_7)
    injection ea_ with ea_ en_ ec_
    subst ea_
    subst ec_
    clear en_
    have ea_ := Option.some.inj (hx195_8.symm.trans hx196_8)
    injection ea_ with ea_ en_ ec_
    subst ea_
    subst ec_
    clear en_
    have p197 : 0 ≤ (x5_1 : Int) := DT
    have q197 : x5_1 < (l0.length : Int) := DT
    obtain ⟨ad197, A197_7, c197_7, A197_8, c197_8, e197, hx197_0, hx197_1, hx197_2, hx197_3, hx197_4, hx197_5, hx197_6, hx197_7, hx197_8, hl197_7, hi197_7, hl197_8, hi197_8⟩ := at_T68 HR0.out x5_1 p197 q197
    obtain rfl : ad195 = ad197 := (by injection e197)
    have HR197_7 := AM_ hi197_7
    have HC197_7 := AM_ hl197_7
    clear hi197_7 hl197_7
    have HR197_8 := AM_ hi197_8
    have HC197_8 := AM_ hl197_8
    clear hi197_8 hl197_8
    replace p197 := eq_true p197
    replace q197 := eq_true q197
    have ea_ := Option.some.inj (hx195_7.symm.trans hx197_7)
    injection ea_ with ea_ en_ ec_
    subst ea_
    subst ec_
    clear en_
    have ea_ := Option.some.inj (hx195_8.symm.trans hx197_8)
    injection ea_ with ea_ en_ ec_
    subst ea_
    subst ec_
    clear en_
    have p198 : 0 ≤ (x5_1 : Int) := DT
    have q198 : x5_1 < (l0.length : Int) := DT
    obtain ⟨ad198, A198_7, c198_7, A198_8, c198_8, e198, hx198_0, hx198_1, hx198_2, hx198_3, hx198_4, hx198_5, hx198_6, hx198_7, hx198_8, hl198_7, hi198_7, hl198_8, hi198_8⟩ := at_T68 HR0.out x5_1 p198 q198
    obtain rfl : ad195 = ad198 := (by injection e198)
    have HR198_7 := AM_ hi198_7
    have HC198_7 := AM_ hl198_7
    clear hi198_7 hl198_7
    have HR198_8 := AM_ hi198_8
    have HC198_8 := AM_ hl198_8
    clear hi198_8 hl198_8
    replace p198 := eq_true p198
    replace q198 := eq_true q198
    have ea_ := Option.some.inj (hx195_7.symm.trans hx198_7)
    injection ea_ with ea_ en_ ec_
    subst ea_
    subst ec_
    clear en_
    have ea_ := Option.some.inj (hx195_8.symm.trans hx198_8)
    injection ea_ with ea_ en_ ec_
    subst ea_
    subst ec_
    clear en_
    have p199 : 0 ≤ (x5_1 : Int) := DT
    have q199 : x5_1 < (l0.length : Int) := DT
    obtain ⟨ad199, A199_7, c199_7, A199_8, c199_8, e199, hx199_0, hx199_1, hx199_2, hx199_3, hx199_4, hx199_5, hx199_6, hx199_7, hx199_8, hl199_7, hi199_7, hl199_8, hi199_8⟩ := at_T68 HR0.out x5_1 p199 q199
    obtain rfl : ad195 = ad199 := (by injection e199)
    have HR199_7 := AM_ hi199_7
    have HC199_7 := AM_ hl199_7
    clear hi199_7 hl199_7
    have HR199_8 := AM_ hi199_8
    have HC199_8 := AM_ hl199_8
    clear hi199_8 hl199_8
    replace p199 := eq_true p199
    replace q199 := eq_true q199
    have ea_ := Option.some.inj (hx195_7.symm.trans hx199_7)
    injection ea_ with ea_ en_ ec_
    subst ea_
    subst ec_
    clear en_
    have ea_ := Option.some.inj (hx195_8.symm.trans hx199_8)
    injection ea_ with ea_ en_ ec_
    subst ea_
    subst ec_
    clear en_
    have p200 : 0 ≤ (x5_1 : Int) := DT
    have q200 : x5_1 < (l0.length : Int) := DT
    obtain ⟨ad200, A200_7, c200_7, A200_8, c200_8, e200, hx200_0, hx200_1, hx200_2, hx200_3, hx200_4, hx200_5, hx200_6, hx200_7, hx200_8, hl200_7, hi200_7, hl200_8, hi200_8⟩ := at_T68 HR0.out x5_1 p200 q200
    obtain rfl : ad195 = ad200 := (by injection e200)
    have HR200_7 := AM_ hi200_7
    have HC200_7 := AM_ hl200_7
    clear hi200_7 hl200_7
    have HR200_8 := AM_ hi200_8
    have HC200_8 := AM_ hl200_8
    clear hi200_8 hl200_8
    replace p200 := eq_true p200
    replace q200 := eq_true q200
    have ea_ := Option.some.inj (hx195_7.symm.trans hx200_7)
    injection ea_ with ea_ en_ ec_
    subst ea_
    subst ec_
    clear en_
    have ea_ := Option.some.inj (hx195_8.symm.trans hx200_8)
    injection ea_ with ea_ en_ ec_
    subst ea_
    subst ec_
    clear en_
    have p201 : 0 ≤ (x5_1 : Int) := DT
    have q201 : x5_1 < (l0.length : Int) := DT
    obtain ⟨ad201, A201_7, c201_7, A201_8, c201_8, e201, hx201_0, hx201_1, hx201_2, hx201_3, hx201_4, hx201_5, hx201_6, hx201_7, hx201_8, hl201_7, hi201_7, hl201_8, hi201_8⟩ := at_T68 HR0.out x5_1 p201 q201
    obtain rfl : ad195 = ad201 := (by injection e201)
    have HR201_7 := AM_ hi201_7
    have HC201_7 := AM_ hl201_7
    clear hi201_7 hl201_7
    have HR201_8 := AM_ hi201_8
    have HC201_8 := AM_ hl201_8
    clear hi201_8 hl201_8
    replace p201 := eq_true p201
    replace q201 := eq_true q201
    have ea_ := Option.some.inj (hx195_7.symm.trans hx201_7)
    injection ea_ with ea_ en_ ec_
    subst ea_
    subst ec_
    clear en_
    have ea_ := Option.some.inj (hx195_8.symm.trans hx201_8)
    injection ea_ with ea_ en_ ec_
    subst ea_
    subst ec_
    clear en_
    have p202 : 0 ≤ (x5_1 : Int) := DT
    have q202 : x5_1 < (l0.length : Int) := DT
    obtain ⟨ad202, A202_7, c202_7, A202_8, c202_8, e202, hx202_0, hx202_1, hx202_2, hx202_3, hx202_4, hx202_5, hx202_6, hx202_7, hx202_8, hl202_7, hi202_7, hl202_8, hi202_8⟩ := at_T68 HR0.out x5_1 p202 q202
    obtain rfl : ad195 = ad202 := (by injection e202)
    have HR202_7 := AM_ hi202_7
    have HC202_7 := AM_ hl202_7
    clear hi202_7 hl202_7
    have HR202_8 := AM_ hi202_8
    have HC202_8 := AM_ hl202_8
    clear hi202_8 hl202_8
    replace p202 := eq_true p202
    replace q202 := eq_true q202
    have ea_ := Option.some.inj (hx195_7.symm.trans hx202_7)
    injection ea_ with ea_ en_ ec_
    subst ea_
    subst ec_
    clear en_
    have ea_ := Option.some.inj (hx195_8.symm.trans hx202_8)
    injection ea_ with ea_ en_ ec_
    subst ea_
    subst ec_
    clear en_
    go_wp2_with (first | ((with_reducible refine gate_callee (f := 180) rfl ?_); refine goesL_ (some 81) rfl rfl Try.func180 (by kernel_rfl) rfl #[.slice A195_7 ((rd_T68 l0 x5_1).f7).length c195_7, .int .i64 (wrap64 ((wrap64 ((wrap64 ((wrap64 ((wrap64 ((wrap64 ((wrap64 (x1_1 + 1)) + 1)) + 1)) + 1)) + 1)) + 1)) + 1))] rfl (by (try simp only [List.map_toArray, List.map_cons, List.map_nil]); first | done | rfl | (simp only [List.length_drop, List.length_take]; rfl)) ?_; (with_reducible refine (laws_heldReadMarkS.calls k1 _ _ ((rd_T68 l0 x5_1).f7) (wrap64 ((wrap64 ((wrap64 ((wrap64 ((wrap64 ((wrap64 ((wrap64 (x1_1 + 1)) + 1)) + 1)) + 1)) + 1)) + 1)) + 1)) t203 _ ?side1 ?side2 A12.out).mono ?_); (case side1 => repeat (first | exact HR202_7.out | (with_reducible refine Kd.C_alloc ?_ _) | (with_reducible refine Kd.C_drewN ?_ _) | (with_reducible refine Kd.C_drew ?_))); (case side2 => exact HC202_7.out); rintro e w' ⟨rfl, ⟨nd, rfl⟩⟩; refine ⟨_, rfl, ?_⟩))
    go_ret
    exact ⟨by first | rfl | (simp; done) | (simp [*]; done), by repeat (first | exact Drawn0.refl _ | apply Drawn0.step)⟩
   rw [if_neg c13] at H
   have c13b0 : decide (t203 < 0) = false := decide_eq_false c13
   clear c13
   replace H := Option.bind_eq_some_iff.mp H
   obtain ⟨t205, A140, H⟩ := H
   replace H : (if t205 < 0 then (some (-1)) else (laws_heldTransactionS.l0 k1 l0 t205 (wrap64 (x5_1 + 1)))) = some r := H
   have A14 := AM_ A140
   clear A140
   by_cases c15 : t205 < 0
   ·rw [if_pos c15] at H
    have c15b0 : decide (t205 < 0) = true := decide_eq_true c15
    clear c15
    obtain rfl := Option.some.inj H
    have p195 : 0 ≤ (x5_1 : Int) := DT
    have q195 : x5_1 < (l0.length : Int) := DT
    obtain ⟨ad195, A195_7, c195_7, A195_8, c195_8, e195, hx195_0, hx195_1, hx195_2, hx195_3, hx195_4, hx195_5, hx195_6, hx195_7, hx195_8, hl195_7, hi195_7, hl195_8, hi195_8⟩ := at_T68 HR0.out x5_1 p195 q195
    cases e195
    have HR195_7 := AM_ hi195_7
    have HC195_7 := AM_ hl195_7
    clear hi195_7 hl195_7
    have HR195_8 := AM_ hi195_8
    have HC195_8 := AM_ hl195_8
    clear hi195_8 hl195_8
    replace p195 := eq_true p195
    replace q195 := eq_true q195
    have p196 : 0 ≤ (x5_1 : Int) := DT
    have q196 : x5_1 < (l0.length : Int) := DT
    obtain ⟨ad196, A196_7, c196_7, A196_8, c196_8, e196, hx196_0, hx196_1, hx196_2, hx196_3, hx196_4, hx196_5, hx196_6, hx196_7, hx196_8, hl196_7, hi196_7, hl196_8, hi196_8⟩ := at_T68 HR0.out x5_1 p196 q196
    obtain rfl : ad195 = ad196 := (by injection e196)
    have HR196_7 := AM_ hi196_7
    have HC196_7 := AM_ hl196_7
    clear hi196_7 hl196_7
    have HR196_8 := AM_ hi196_8
    have HC196_8 := AM_ hl196_8
    clear hi196_8 hl196_8
    replace p196 := eq_true p196
    replace q196 := eq_true q196
    have ea_ := Option.some.inj (hx195_7.symm.trans hx196_7)
    injection ea_ with ea_ en_ ec_
    subst ea_
    subst ec_
    clear en_
    have ea_ := Option.some.inj (hx195_8.symm.trans hx196_8)
    injection ea_ with ea_ en_ ec_
    subst ea_
    subst ec_
    clear en_
    have p197 : 0 ≤ (x5_1 : Int) := DT
    have q197 : x5_1 < (l0.length : Int) := DT
    obtain ⟨ad197, A197_7, c197_7, A197_8, c197_8, e197, hx197_0, hx197_1, hx197_2, hx197_3, hx197_4, hx197_5, hx197_6, hx197_7, hx197_8, hl197_7, hi197_7, hl197_8, hi197_8⟩ := at_T68 HR0.out x5_1 p197 q197
    obtain rfl : ad195 = ad197 := (by injection e197)
    have HR197_7 := AM_ hi197_7
    have HC197_7 := AM_ hl197_7
    clear hi197_7 hl197_7
    have HR197_8 := AM_ hi197_8
    have HC197_8 := AM_ hl197_8
    clear hi197_8 hl197_8
    replace p197 := eq_true p197
    replace q197 := eq_true q197
    have ea_ := Option.some.inj (hx195_7.symm.trans hx197_7)
    injection ea_ with ea_ en_ ec_
    subst ea_
    subst ec_
    clear en_
    have ea_ := Option.some.inj (hx195_8.symm.trans hx197_8)
    injection ea_ with ea_ en_ ec_
    subst ea_
    subst ec_
    clear en_
    have p198 : 0 ≤ (x5_1 : Int) := DT
    have q198 : x5_1 < (l0.length : Int) := DT
    obtain ⟨ad198, A198_7, c198_7, A198_8, c198_8, e198, hx198_0, hx198_1, hx198_2, hx198_3, hx198_4, hx198_5, hx198_6, hx198_7, hx198_8, hl198_7, hi198_7, hl198_8, hi198_8⟩ := at_T68 HR0.out x5_1 p198 q198
    obtain rfl : ad195 = ad198 := (by injection e198)
    have HR198_7 := AM_ hi198_7
    have HC198_7 := AM_ hl198_7
    clear hi198_7 hl198_7
    have HR198_8 := AM_ hi198_8
    have HC198_8 := AM_ hl198_8
    clear hi198_8 hl198_8
    replace p198 := eq_true p198
    replace q198 := eq_true q198
    have ea_ := Option.some.inj (hx195_7.symm.trans hx198_7)
    injection ea_ with ea_ en_ ec_
    subst ea_
    subst ec_
    clear en_
    have ea_ := Option.some.inj (hx195_8.symm.trans hx198_8)
    injection ea_ with ea_ en_ ec_
    subst ea_
    subst ec_
    clear en_
    have p199 : 0 ≤ (x5_1 : Int) := DT
    have q199 : x5_1 < (l0.length : Int) := DT
    obtain ⟨ad199, A199_7, c199_7, A199_8, c199_8, e199, hx199_0, hx199_1, hx199_2, hx199_3, hx199_4, hx199_5, hx199_6, hx199_7, hx199_8, hl199_7, hi199_7, hl199_8, hi199_8⟩ := at_T68 HR0.out x5_1 p199 q199
    obtain rfl : ad195 = ad199 := (by injection e199)
    have HR199_7 := AM_ hi199_7
    have HC199_7 := AM_ hl199_7
    clear hi199_7 hl199_7
    have HR199_8 := AM_ hi199_8
    have HC199_8 := AM_ hl199_8
    clear hi199_8 hl199_8
    replace p199 := eq_true p199
    replace q199 := eq_true q199
    have ea_ := Option.some.inj (hx195_7.symm.trans hx199_7)
    injection ea_ with ea_ en_ ec_
    subst ea_
    subst ec_
    clear en_
    have ea_ := Option.some.inj (hx195_8.symm.trans hx199_8)
    injection ea_ with ea_ en_ ec_
    subst ea_
    subst ec_
    clear en_
    have p200 : 0 ≤ (x5_1 : Int) := DT
    have q200 : x5_1 < (l0.length : Int) := DT
    obtain ⟨ad200, A200_7, c200_7, A200_8, c200_8, e200, hx200_0, hx200_1, hx200_2, hx200_3, hx200_4, hx200_5, hx200_6, hx200_7, hx200_8, hl200_7, hi200_7, hl200_8, hi200_8⟩ := at_T68 HR0.out x5_1 p200 q200
    obtain rfl : ad195 = ad200 := (by injection e200)
    have HR200_7 := AM_ hi200_7
    have HC200_7 := AM_ hl200_7
    clear hi200_7 hl200_7
    have HR200_8 := AM_ hi200_8
    have HC200_8 := AM_ hl200_8
    clear hi200_8 hl200_8
    replace p200 := eq_true p200
    replace q200 := eq_true q200
    have ea_ := Option.some.inj (hx195_7.symm.trans hx200_7)
    injection ea_ with ea_ en_ ec_
    subst ea_
    subst ec_
    clear en_
    have ea_ := Option.some.inj (hx195_8.symm.trans hx200_8)
    injection ea_ with ea_ en_ ec_
    subst ea_
    subst ec_
    clear en_
    have p201 : 0 ≤ (x5_1 : Int) := DT
    have q201 : x5_1 < (l0.length : Int) := DT
    obtain ⟨ad201, A201_7, c201_7, A201_8, c201_8, e201, hx201_0, hx201_1, hx201_2, hx201_3, hx201_4, hx201_5, hx201_6, hx201_7, hx201_8, hl201_7, hi201_7, hl201_8, hi201_8⟩ := at_T68 HR0.out x5_1 p201 q201
    obtain rfl : ad195 = ad201 := (by injection e201)
    have HR201_7 := AM_ hi201_7
    have HC201_7 := AM_ hl201_7
    clear hi201_7 hl201_7
    have HR201_8 := AM_ hi201_8
    have HC201_8 := AM_ hl201_8
    clear hi201_8 hl201_8
    replace p201 := eq_true p201
    replace q201 := eq_true q201
    have ea_ := Option.some.inj (hx195_7.symm.trans hx201_7)
    injection ea_ with ea_ en_ ec_
    subst ea_
    subst ec_
    clear en_
    have ea_ := Option.some.inj (hx195_8.symm.trans hx201_8)
    injection ea_ with ea_ en_ ec_
    subst ea_
    subst ec_
    clear en_
    have p202 : 0 ≤ (x5_1 : Int) := DT
    have q202 : x5_1 < (l0.length : Int) := DT
    obtain ⟨ad202, A202_7, c202_7, A202_8, c202_8, e202, hx202_0, hx202_1, hx202_2, hx202_3, hx202_4, hx202_5, hx202_6, hx202_7, hx202_8, hl202_7, hi202_7, hl202_8, hi202_8⟩ := at_T68 HR0.out x5_1 p202 q202
    obtain rfl : ad195 = ad202 := (by injection e202)
    have HR202_7 := AM_ hi202_7
    have HC202_7 := AM_ hl202_7
    clear hi202_7 hl202_7
    have HR202_8 := AM_ hi202_8
    have HC202_8 := AM_ hl202_8
    clear hi202_8 hl202_8
    replace p202 := eq_true p202
    replace q202 := eq_true q202
    have ea_ := Option.some.inj (hx195_7.symm.trans hx202_7)
    injection ea_ with ea_ en_ ec_
    subst ea_
    subst ec_
    clear en_
    have ea_ := Option.some.inj (hx195_8.symm.trans hx202_8)
    injection ea_ with ea_ en_ ec_
    subst ea_
    subst ec_
    clear en_
    go_wp2_with (first | ((with_reducible refine gate_callee (f := 180) rfl ?_); refine goesL_ (some 81) rfl rfl Try.func180 (by kernel_rfl) rfl #[.slice A195_7 ((rd_T68 l0 x5_1).f7).length c195_7, .int .i64 (wrap64 ((wrap64 ((wrap64 ((wrap64 ((wrap64 ((wrap64 ((wrap64 (x1_1 + 1)) + 1)) + 1)) + 1)) + 1)) + 1)) + 1))] rfl (by (try simp only [List.map_toArray, List.map_cons, List.map_nil]); first | done | rfl | (simp only [List.length_drop, List.length_take]; rfl)) ?_; (with_reducible refine (laws_heldReadMarkS.calls k1 _ _ ((rd_T68 l0 x5_1).f7) (wrap64 ((wrap64 ((wrap64 ((wrap64 ((wrap64 ((wrap64 ((wrap64 (x1_1 + 1)) + 1)) + 1)) + 1)) + 1)) + 1)) + 1)) t203 _ ?side1 ?side2 A12.out).mono ?_); (case side1 => repeat (first | exact HR202_7.out | (with_reducible refine Kd.C_alloc ?_ _) | (with_reducible refine Kd.C_drewN ?_ _) | (with_reducible refine Kd.C_drew ?_))); (case side2 => exact HC202_7.out); rintro e w' ⟨rfl, ⟨nd, rfl⟩⟩; refine ⟨_, rfl, ?_⟩; have p204 : 0 ≤ (x5_1 : Int) := DT; have q204 : x5_1 < (l0.length : Int) := DT; obtain ⟨ad204, A204_7, c204_7, A204_8, c204_8, e204, hx204_0, hx204_1, hx204_2, hx204_3, hx204_4, hx204_5, hx204_6, hx204_7, hx204_8, hl204_7, hi204_7, hl204_8, hi204_8⟩ := at_T68 HR0.out x5_1 p204 q204; obtain rfl : ad195 = ad204 := (by injection e204); have HR204_7 := AM_ hi204_7; have HC204_7 := AM_ hl204_7; clear hi204_7 hl204_7; have HR204_8 := AM_ hi204_8; have HC204_8 := AM_ hl204_8; clear hi204_8 hl204_8; replace p204 := eq_true p204; replace q204 := eq_true q204; have ea_ := Option.some.inj (hx195_7.symm.trans hx204_7); injection ea_ with ea_ en_ ec_; subst ea_; subst ec_; clear en_; have ea_ := Option.some.inj (hx195_8.symm.trans hx204_8); injection ea_ with ea_ en_ ec_; subst ea_; subst ec_; clear en_) | ((with_reducible refine gate_callee (f := 181) rfl ?_); refine goesL_ (some 90) rfl rfl Try.func181 (by kernel_rfl) rfl #[.slice A195_8 ((rd_T68 l0 x5_1).f8).length c195_8, .int .i64 t203] rfl (by (try simp only [List.map_toArray, List.map_cons, List.map_nil]); first | done | rfl | (simp only [List.length_drop, List.length_take]; rfl)) ?_; (with_reducible refine (laws_heldWriteS.calls k1 _ _ ((rd_T68 l0 x5_1).f8) t203 t205 _ ?side1 ?side2 A14.out).mono ?_); (case side1 => repeat (first | exact HR204_8.out | (with_reducible refine Kd.C_alloc ?_ _) | (with_reducible refine Kd.C_drewN ?_ _) | (with_reducible refine Kd.C_drew ?_))); (case side2 => exact HC204_8.out); rintro e w' ⟨rfl, ⟨nd, rfl⟩⟩; refine ⟨_, rfl, ?_⟩))
    go_ret
    exact ⟨by first | rfl | (simp; done) | (simp [*]; done), by repeat (first | exact Drawn0.refl _ | apply Drawn0.step)⟩
   rw [if_neg c15] at H
   have c15b0 : decide (t205 < 0) = false := decide_eq_false c15
   clear c15
   have H' := AM_ H
   clear H
   have p195 : 0 ≤ (x5_1 : Int) := DT
   have q195 : x5_1 < (l0.length : Int) := DT
   obtain ⟨ad195, A195_7, c195_7, A195_8, c195_8, e195, hx195_0, hx195_1, hx195_2, hx195_3, hx195_4, hx195_5, hx195_6, hx195_7, hx195_8, hl195_7, hi195_7, hl195_8, hi195_8⟩ := at_T68 HR0.out x5_1 p195 q195
   cases e195
   have HR195_7 := AM_ hi195_7
   have HC195_7 := AM_ hl195_7
   clear hi195_7 hl195_7
   have HR195_8 := AM_ hi195_8
   have HC195_8 := AM_ hl195_8
   clear hi195_8 hl195_8
   replace p195 := eq_true p195
   replace q195 := eq_true q195
   have p196 : 0 ≤ (x5_1 : Int) := DT
   have q196 : x5_1 < (l0.length : Int) := DT
   obtain ⟨ad196, A196_7, c196_7, A196_8, c196_8, e196, hx196_0, hx196_1, hx196_2, hx196_3, hx196_4, hx196_5, hx196_6, hx196_7, hx196_8, hl196_7, hi196_7, hl196_8, hi196_8⟩ := at_T68 HR0.out x5_1 p196 q196
   obtain rfl : ad195 = ad196 := (by injection e196)
   have HR196_7 := AM_ hi196_7
   have HC196_7 := AM_ hl196_7
   clear hi196_7 hl196_7
   have HR196_8 := AM_ hi196_8
   have HC196_8 := AM_ hl196_8
   clear hi196_8 hl196_8
   replace p196 := eq_true p196
   replace q196 := eq_true q196
   have ea_ := Option.some.inj (hx195_7.symm.trans hx196_7)
   injection ea_ with ea_ en_ ec_
   subst ea_
   subst ec_
   clear en_
   have ea_ := Option.some.inj (hx195_8.symm.trans hx196_8)
   injection ea_ with ea_ en_ ec_
   subst ea_
   subst ec_
   clear en_
   have p197 : 0 ≤ (x5_1 : Int) := DT
   have q197 : x5_1 < (l0.length : Int) := DT
   obtain ⟨ad197, A197_7, c197_7, A197_8, c197_8, e197, hx197_0, hx197_1, hx197_2, hx197_3, hx197_4, hx197_5, hx197_6, hx197_7, hx197_8, hl197_7, hi197_7, hl197_8, hi197_8⟩ := at_T68 HR0.out x5_1 p197 q197
   obtain rfl : ad195 = ad197 := (by injection e197)
   have HR197_7 := AM_ hi197_7
   have HC197_7 := AM_ hl197_7
   clear hi197_7 hl197_7
   have HR197_8 := AM_ hi197_8
   have HC197_8 := AM_ hl197_8
   clear hi197_8 hl197_8
   replace p197 := eq_true p197
   replace q197 := eq_true q197
   have ea_ := Option.some.inj (hx195_7.symm.trans hx197_7)
   injection ea_ with ea_ en_ ec_
   subst ea_
   subst ec_
   clear en_
   have ea_ := Option.some.inj (hx195_8.symm.trans hx197_8)
   injection ea_ with ea_ en_ ec_
   subst ea_
   subst ec_
   clear en_
   have p198 : 0 ≤ (x5_1 : Int) := DT
   have q198 : x5_1 < (l0.length : Int) := DT
   obtain ⟨ad198, A198_7, c198_7, A198_8, c198_8, e198, hx198_0, hx198_1, hx198_2, hx198_3, hx198_4, hx198_5, hx198_6, hx198_7, hx198_8, hl198_7, hi198_7, hl198_8, hi198_8⟩ := at_T68 HR0.out x5_1 p198 q198
   obtain rfl : ad195 = ad198 := (by injection e198)
   have HR198_7 := AM_ hi198_7
   have HC198_7 := AM_ hl198_7
   clear hi198_7 hl198_7
   have HR198_8 := AM_ hi198_8
   have HC198_8 := AM_ hl198_8
   clear hi198_8 hl198_8
   replace p198 := eq_true p198
   replace q198 := eq_true q198
   have ea_ := Option.some.inj (hx195_7.symm.trans hx198_7)
   injection ea_ with ea_ en_ ec_
   subst ea_
   subst ec_
   clear en_
   have ea_ := Option.some.inj (hx195_8.symm.trans hx198_8)
   injection ea_ with ea_ en_ ec_
   subst ea_
   subst ec_
   clear en_
   have p199 : 0 ≤ (x5_1 : Int) := DT
   have q199 : x5_1 < (l0.length : Int) := DT
   obtain ⟨ad199, A199_7, c199_7, A199_8, c199_8, e199, hx199_0, hx199_1, hx199_2, hx199_3, hx199_4, hx199_5, hx199_6, hx199_7, hx199_8, hl199_7, hi199_7, hl199_8, hi199_8⟩ := at_T68 HR0.out x5_1 p199 q199
   obtain rfl : ad195 = ad199 := (by injection e199)
   have HR199_7 := AM_ hi199_7
   have HC199_7 := AM_ hl199_7
   clear hi199_7 hl199_7
   have HR199_8 := AM_ hi199_8
   have HC199_8 := AM_ hl199_8
   clear hi199_8 hl199_8
   replace p199 := eq_true p199
   replace q199 := eq_true q199
   have ea_ := Option.some.inj (hx195_7.symm.trans hx199_7)
   injection ea_ with ea_ en_ ec_
   subst ea_
   subst ec_
   clear en_
   have ea_ := Option.some.inj (hx195_8.symm.trans hx199_8)
   injection ea_ with ea_ en_ ec_
   subst ea_
   subst ec_
   clear en_
   have p200 : 0 ≤ (x5_1 : Int) := DT
   have q200 : x5_1 < (l0.length : Int) := DT
   obtain ⟨ad200, A200_7, c200_7, A200_8, c200_8, e200, hx200_0, hx200_1, hx200_2, hx200_3, hx200_4, hx200_5, hx200_6, hx200_7, hx200_8, hl200_7, hi200_7, hl200_8, hi200_8⟩ := at_T68 HR0.out x5_1 p200 q200
   obtain rfl : ad195 = ad200 := (by injection e200)
   have HR200_7 := AM_ hi200_7
   have HC200_7 := AM_ hl200_7
   clear hi200_7 hl200_7
   have HR200_8 := AM_ hi200_8
   have HC200_8 := AM_ hl200_8
   clear hi200_8 hl200_8
   replace p200 := eq_true p200
   replace q200 := eq_true q200
   have ea_ := Option.some.inj (hx195_7.symm.trans hx200_7)
   injection ea_ with ea_ en_ ec_
   subst ea_
   subst ec_
   clear en_
   have ea_ := Option.some.inj (hx195_8.symm.trans hx200_8)
   injection ea_ with ea_ en_ ec_
   subst ea_
   subst ec_
   clear en_
   have p201 : 0 ≤ (x5_1 : Int) := DT
   have q201 : x5_1 < (l0.length : Int) := DT
   obtain ⟨ad201, A201_7, c201_7, A201_8, c201_8, e201, hx201_0, hx201_1, hx201_2, hx201_3, hx201_4, hx201_5, hx201_6, hx201_7, hx201_8, hl201_7, hi201_7, hl201_8, hi201_8⟩ := at_T68 HR0.out x5_1 p201 q201
   obtain rfl : ad195 = ad201 := (by injection e201)
   have HR201_7 := AM_ hi201_7
   have HC201_7 := AM_ hl201_7
   clear hi201_7 hl201_7
   have HR201_8 := AM_ hi201_8
   have HC201_8 := AM_ hl201_8
   clear hi201_8 hl201_8
   replace p201 := eq_true p201
   replace q201 := eq_true q201
   have ea_ := Option.some.inj (hx195_7.symm.trans hx201_7)
   injection ea_ with ea_ en_ ec_
   subst ea_
   subst ec_
   clear en_
   have ea_ := Option.some.inj (hx195_8.symm.trans hx201_8)
   injection ea_ with ea_ en_ ec_
   subst ea_
   subst ec_
   clear en_
   have p202 : 0 ≤ (x5_1 : Int) := DT
   have q202 : x5_1 < (l0.length : Int) := DT
   obtain ⟨ad202, A202_7, c202_7, A202_8, c202_8, e202, hx202_0, hx202_1, hx202_2, hx202_3, hx202_4, hx202_5, hx202_6, hx202_7, hx202_8, hl202_7, hi202_7, hl202_8, hi202_8⟩ := at_T68 HR0.out x5_1 p202 q202
   obtain rfl : ad195 = ad202 := (by injection e202)
   have HR202_7 := AM_ hi202_7
   have HC202_7 := AM_ hl202_7
   clear hi202_7 hl202_7
   have HR202_8 := AM_ hi202_8
   have HC202_8 := AM_ hl202_8
   clear hi202_8 hl202_8
   replace p202 := eq_true p202
   replace q202 := eq_true q202
   have ea_ := Option.some.inj (hx195_7.symm.trans hx202_7)
   injection ea_ with ea_ en_ ec_
   subst ea_
   subst ec_
   clear en_
   have ea_ := Option.some.inj (hx195_8.symm.trans hx202_8)
   injection ea_ with ea_ en_ ec_
   subst ea_
   subst ec_
   clear en_
   go_wp2_with (first | ((with_reducible refine gate_callee (f := 180) rfl ?_); refine goesL_ (some 81) rfl rfl Try.func180 (by kernel_rfl) rfl #[.slice A195_7 ((rd_T68 l0 x5_1).f7).length c195_7, .int .i64 (wrap64 ((wrap64 ((wrap64 ((wrap64 ((wrap64 ((wrap64 ((wrap64 (x1_1 + 1)) + 1)) + 1)) + 1)) + 1)) + 1)) + 1))] rfl (by (try simp only [List.map_toArray, List.map_cons, List.map_nil]); first | done | rfl | (simp only [List.length_drop, List.length_take]; rfl)) ?_; (with_reducible refine (laws_heldReadMarkS.calls k1 _ _ ((rd_T68 l0 x5_1).f7) (wrap64 ((wrap64 ((wrap64 ((wrap64 ((wrap64 ((wrap64 ((wrap64 (x1_1 + 1)) + 1)) + 1)) + 1)) + 1)) + 1)) + 1)) t203 _ ?side1 ?side2 A12.out).mono ?_); (case side1 => repeat (first | exact HR202_7.out | (with_reducible refine Kd.C_alloc ?_ _) | (with_reducible refine Kd.C_drewN ?_ _) | (with_reducible refine Kd.C_drew ?_))); (case side2 => exact HC202_7.out); rintro e w' ⟨rfl, ⟨nd, rfl⟩⟩; refine ⟨_, rfl, ?_⟩; have p204 : 0 ≤ (x5_1 : Int) := DT; have q204 : x5_1 < (l0.length : Int) := DT; obtain ⟨ad204, A204_7, c204_7, A204_8, c204_8, e204, hx204_0, hx204_1, hx204_2, hx204_3, hx204_4, hx204_5, hx204_6, hx204_7, hx204_8, hl204_7, hi204_7, hl204_8, hi204_8⟩ := at_T68 HR0.out x5_1 p204 q204; obtain rfl : ad195 = ad204 := (by injection e204); have HR204_7 := AM_ hi204_7; have HC204_7 := AM_ hl204_7; clear hi204_7 hl204_7; have HR204_8 := AM_ hi204_8; have HC204_8 := AM_ hl204_8; clear hi204_8 hl204_8; replace p204 := eq_true p204; replace q204 := eq_true q204; have ea_ := Option.some.inj (hx195_7.symm.trans hx204_7); injection ea_ with ea_ en_ ec_; subst ea_; subst ec_; clear en_; have ea_ := Option.some.inj (hx195_8.symm.trans hx204_8); injection ea_ with ea_ en_ ec_; subst ea_; subst ec_; clear en_) | ((with_reducible refine gate_callee (f := 181) rfl ?_); refine goesL_ (some 90) rfl rfl Try.func181 (by kernel_rfl) rfl #[.slice A195_8 ((rd_T68 l0 x5_1).f8).length c195_8, .int .i64 t203] rfl (by (try simp only [List.map_toArray, List.map_cons, List.map_nil]); first | done | rfl | (simp only [List.length_drop, List.length_take]; rfl)) ?_; (with_reducible refine (laws_heldWriteS.calls k1 _ _ ((rd_T68 l0 x5_1).f8) t203 t205 _ ?side1 ?side2 A14.out).mono ?_); (case side1 => repeat (first | exact HR204_8.out | (with_reducible refine Kd.C_alloc ?_ _) | (with_reducible refine Kd.C_drewN ?_ _) | (with_reducible refine Kd.C_drew ?_))); (case side2 => exact HC204_8.out); rintro e w' ⟨rfl, ⟨nd, rfl⟩⟩; refine ⟨_, rfl, ?_⟩))
   go_roundg k1
   case measure => have := HK1.out; omega
   case rel => exact ⟨(t205), (wrap64 (x5_1 + 1)), (by first | rfl | (simp; done) | (simp [*]; done)), (by first | rfl | (simp; done) | (simp [*]; done)), H', ⟨by have := HK1.out; omega⟩, by repeat (first | exact Drawn0.refl _ | apply Drawn0.step)⟩

end Go.Proofs.Ytakpkmlbklahhaa.PFnExactNewEngine
