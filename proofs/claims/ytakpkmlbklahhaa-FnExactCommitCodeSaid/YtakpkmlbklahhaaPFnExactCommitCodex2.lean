-- Printed by a program of mine (wip/myprint.py), which runs the printer of the kit with contracts of mine beside it.
import Derived.Test.YtakpkmlbklahhaaPFnExactCommitCodex0
import Derived.Test.YtakpkmlbklahhaaPFnExactCommitCodex1
namespace Go.Proofs.Ytakpkmlbklahhaa.PFnExactCommitCode
open Go.RowKit Go.Proofs.YtakpkmlbklahhaaW.PrintWords Go.Proofs.YtakpkmlbklahhaaW.PrintLast Go.Proofs.YtakpkmlbklahhaaW.PrintMore
attribute [local go_sem] max2_int min2_int max_two min_two max_three min_three max_four min_four   -- for this text's walks alone
set_option linter.unusedVariables false
set_option linter.unusedSimpArgs false

/-! ### spec_IsValidChain: function 136 -/
def spec_IsValidChain.l0 : Nat → List (S76) → Int → Option (Bool)
 | 0, _, _ => none
 | k + 1, x0, x3 => if x3 < (x0.length : Int) then (if 0 ≤ x3 then ((spec_IsValidVersion.f k ((rd_T76 x0 x3).f0) ((rd_T76 x0 x3).f1) ((rd_T76 x0 x3).f2) ((rd_T76 x0 x3).f3) ((rd_T76 x0 x3).f4)).bind fun t116 => (if t116 = true then (if (wrap64 (x3 + 1)) < (x0.length : Int) then (if 0 ≤ (wrap64 (x3 + 1)) then (if ((rd_T76 x0 x3).f2) ≥ ((rd_T76 x0 (wrap64 (x3 + 1))).f2) then (some false) else (if ((rd_T76 x0 x3).f4) > ((rd_T76 x0 (wrap64 (x3 + 1))).f2) then (some false) else (spec_IsValidChain.l0 k x0 (wrap64 (x3 + 1))))) else (none)) else (spec_IsValidChain.l0 k x0 (wrap64 (x3 + 1)))) else (some false))) else (none)) else (if (x0.length : Int) > 0 then (if 0 ≤ (wrap64 ((x0.length : Int) - 1)) then (if (wrap64 ((x0.length : Int) - 1)) < (x0.length : Int) then (some (((rd_T76 x0 (wrap64 ((x0.length : Int) - 1))).f4) == 1000)) else (none)) else (none)) else (some false))
def spec_IsValidChain.f (k : Nat) (l0 : List (S76)) : Option (Bool) := spec_IsValidChain.l0 k l0 0
theorem spec_IsValidChain.mono_l : ∀ k, (∀ y0 y1, LeO (spec_IsValidChain.l0 k y0 y1) (spec_IsValidChain.l0 (k + 1) y0 y1))
 | 0 => fun _ _ r h => by simp [spec_IsValidChain.l0] at h
 | k + 1 => by
  have ih0 := spec_IsValidChain.mono_l k
  ·intro y0 y1
   unfold spec_IsValidChain.l0
   repeat' first
   | (with_reducible exact ih0 _ _)
   | (with_reducible exact spec_IsValidVersion.mono _ _ _ _ _ _)
   | (with_reducible exact LeO.refl _)
   | (with_reducible exact LeO.none _)
   | (with_reducible refine LeO.ite ?_ ?_)
   | (with_reducible refine LeO.bind ?_ (fun _ => ?_))
   | exact ih0 _ _
   | exact spec_IsValidVersion.mono _ _ _ _ _ _
   | exact LeO.none _
   | refine LeO.ite ?_ ?_
   | refine LeO.bind ?_ (fun _ => ?_)
theorem spec_IsValidChain.mono : ∀ a0 k, LeO (spec_IsValidChain.f k a0) (spec_IsValidChain.f (k + 1) a0) := by
 intro a0 k
 have ih0 := spec_IsValidChain.mono_l k
 unfold spec_IsValidChain.f
 repeat' first
   | (with_reducible exact ih0 _ _)
   | (with_reducible exact spec_IsValidVersion.mono _ _ _ _ _ _)
   | (with_reducible exact LeO.refl _)
   | (with_reducible exact LeO.none _)
   | (with_reducible refine LeO.ite ?_ ?_)
   | (with_reducible refine LeO.bind ?_ (fun _ => ?_))
   | exact ih0 _ _
   | exact spec_IsValidVersion.mono _ _ _ _ _ _
   | exact LeO.none _
   | refine LeO.ite ?_ ?_
   | refine LeO.bind ?_ (fun _ => ?_)
set_option maxHeartbeats 8000000 in
set_option maxRecDepth 100000 in
theorem spec_IsValidChain.calls (k : Nat) (A0 : Option Addr) (c0 : Nat) (l0 : List (S76)) (r : Bool) (w : World) (hr0 : Kd.C k76 w A0 l0.length l0) (hc0 : l0.length ≤ c0) (h : spec_IsValidChain.f k l0 = some r) :
  Calls Try.prog 136 #[.slice A0 l0.length c0] w fun e w' => e = .returned (.bool r) ∧ Below w.heap.size w w' := by
 have hu76 := Try.underlying76
 have HR0 := AM_ hr0
 have HC0 := AM_ hc0
 clear hr0 hc0
 have HB := AM_ (Below.refl w.heap.size w)
 have H : (spec_IsValidChain.l0 k l0 0) = some r := h
 clear h
 have H' := AM_ H
 clear H
 go_enter Try.func136, Try.ntmps136
 go_wp2
 repeat (go_quiet (fail); try go_wp2)
 go_loopg [3] k (fun kq v3 w' => ∃ (x3_1 : Int), v3 = .int .i64 x3_1 ∧ Aside0 (spec_IsValidChain.l0 kq l0 x3_1 = some r) ∧ Aside0 (kq ≤ k) ∧ Aside0 (Below w.heap.size w w'))
 case atStart => exact ⟨(0), (by first | rfl | (simp; done) | (simp [*]; done)), H', ⟨Nat.le_refl _⟩, ⟨BT HB.out⟩⟩
 case round =>
  clear H'
  try clear c1
  obtain ⟨x3_1, rfl, HA, HK1, HB⟩ := hrel
  cases gk with
  | zero => exact absurd HA.out (by simp [spec_IsValidChain.l0])
  | succ k1 =>
   have H := HA.out
   clear HA
   simp only [spec_IsValidChain.l0] at H
   by_cases c2 : x3_1 < (l0.length : Int)
   rotate_left
   ·rw [if_neg c2] at H
    have c2b0 : decide (x3_1 < (l0.length : Int)) = false := decide_eq_false c2
    clear c2
    by_cases c16 : (l0.length : Int) > 0
    rotate_left
    ·rw [if_neg c16] at H
     have c16b0 : decide (0 < (l0.length : Int)) = false := decide_eq_false c16
     have c16b1 : decide (0 < l0.length) = false := decide_eq_false (by omega)
     clear c16
     obtain rfl := Option.some.inj H
     go_wp2
     repeat (go_quiet (fail); try go_wp2)
     go_ret
     exact QT (BT HB.out)
    rw [if_pos c16] at H
    have c16b0 : decide (0 < (l0.length : Int)) = true := decide_eq_true c16
    have c16b1 : decide (0 < l0.length) = true := decide_eq_true (by omega)
    clear c16
    obtain ⟨ji17, hji17⟩ : ∃ j_ : Int, (wrap64 ((l0.length : Int) - 1)) = j_ := ⟨_, rfl⟩
    replace H : (if 0 ≤ (ji17) then (if (ji17) < (l0.length : Int) then (some (((rd_T76 l0 (ji17)).f4) == 1000)) else (none)) else (none)) = some r := by first | (rw [hji17] at H; exact H) | (simp only [hji17] at H ⊢; exact H)
    have hji17w : (IntKind.i64.wrap ((l0.length : Int) - 1)) = ji17 := (i64_w _).trans hji17
    by_cases c18 : 0 ≤ (ji17)
    rotate_left
    ·rw [if_neg c18] at H
     exact absurd H (by simp)
    rw [if_pos c18] at H
    have c18b0 : decide (0 ≤ (ji17)) = true := decide_eq_true c18
    clear c18
    by_cases c19 : (ji17) < (l0.length : Int)
    rotate_left
    ·rw [if_neg c19] at H
     exact absurd H (by simp)
    rw [if_pos c19] at H
    have c19b0 : decide ((ji17) < (l0.length : Int)) = true := decide_eq_true c19
    clear c19
    obtain rfl := Option.some.inj H
    have p114 : 0 ≤ ((ji17) : Int) := DT
    have q114 : (ji17) < (l0.length : Int) := DT
    obtain ⟨ad114, e114, hx114_0, hx114_1, hx114_2, hx114_3, hx114_4⟩ := at_T76 HR0.out (ji17) p114 q114
    cases e114
    replace hx114_0 := BC HB.out hx114_0
    replace hx114_1 := BC HB.out hx114_1
    replace hx114_2 := BC HB.out hx114_2
    replace hx114_3 := BC HB.out hx114_3
    replace hx114_4 := BC HB.out hx114_4
    replace p114 := eq_true p114
    replace q114 := eq_true q114
    go_wp2
    repeat (go_quiet (fail); try go_wp2)
    go_ret
    exact ⟨by first | rfl | (simp [errW_none, errW_some] <;> rfl) | (simp only [← hji17]; first | rfl | (simp [errW_none, errW_some] <;> rfl)) | (simp [*, errW_none, errW_some] <;> rfl), BT HB.out⟩
   rw [if_pos c2] at H
   have c2b0 : decide (x3_1 < (l0.length : Int)) = true := decide_eq_true c2
   clear c2
   by_cases c3 : 0 ≤ x3_1
   rotate_left
   ·rw [if_neg c3] at H
    exact absurd H (by simp)
   rw [if_pos c3] at H
   have c3b0 : decide (0 ≤ x3_1) = true := decide_eq_true c3
   clear c3
   replace H := Option.bind_eq_some_iff.mp H
   obtain ⟨t116, A40, H⟩ := H
   replace H : (if t116 = true then (if (wrap64 (x3_1 + 1)) < (l0.length : Int) then (if 0 ≤ (wrap64 (x3_1 + 1)) then (if ((rd_T76 l0 x3_1).f2) ≥ ((rd_T76 l0 (wrap64 (x3_1 + 1))).f2) then (some false) else (if ((rd_T76 l0 x3_1).f4) > ((rd_T76 l0 (wrap64 (x3_1 + 1))).f2) then (some false) else (spec_IsValidChain.l0 k1 l0 (wrap64 (x3_1 + 1))))) else (none)) else (spec_IsValidChain.l0 k1 l0 (wrap64 (x3_1 + 1)))) else (some false)) = some r := H
   have A4 := AM_ A40
   clear A40
   by_cases c5 : t116 = true
   rotate_left
   ·replace c5 := Bool.eq_false_iff.mpr c5
    subst c5
    have H1 : (some false) = some r := by rw [if_neg (show ¬ (false = true) by decide)] at H; exact H
    clear H
    have H := H1
    clear H1
    obtain rfl := Option.some.inj H
    have p115 : 0 ≤ (x3_1 : Int) := DT
    have q115 : x3_1 < (l0.length : Int) := DT
    obtain ⟨ad115, e115, hx115_0, hx115_1, hx115_2, hx115_3, hx115_4⟩ := at_T76 HR0.out x3_1 p115 q115
    cases e115
    replace hx115_0 := BC HB.out hx115_0
    replace hx115_1 := BC HB.out hx115_1
    replace hx115_2 := BC HB.out hx115_2
    replace hx115_3 := BC HB.out hx115_3
    replace hx115_4 := BC HB.out hx115_4
    replace p115 := eq_true p115
    replace q115 := eq_true q115
    go_wp2_with (first | (go_at_call 194; (with_reducible refine (spec_IsValidVersion.calls k1 ((rd_T76 l0 x3_1).f0) ((rd_T76 l0 x3_1).f1) ((rd_T76 l0 x3_1).f2) ((rd_T76 l0 x3_1).f3) ((rd_T76 l0 x3_1).f4) false _ A4.out).mono ?_); rintro e w15 ⟨rfl, hb⟩; replace HB := AM_ (below_step (BT HB.out) hb); (try clear hb); (try clear hb2); (try clear hk); (try clear hi)))
    repeat (go_quiet (first | (go_at_call 194; (with_reducible refine (spec_IsValidVersion.calls k1 ((rd_T76 l0 x3_1).f0) ((rd_T76 l0 x3_1).f1) ((rd_T76 l0 x3_1).f2) ((rd_T76 l0 x3_1).f3) ((rd_T76 l0 x3_1).f4) false _ A4.out).mono ?_); rintro e w15 ⟨rfl, hb⟩; replace HB := AM_ (below_step (BT HB.out) hb); (try clear hb); (try clear hb2); (try clear hk); (try clear hi))); try go_wp2_with (first | (go_at_call 194; (with_reducible refine (spec_IsValidVersion.calls k1 ((rd_T76 l0 x3_1).f0) ((rd_T76 l0 x3_1).f1) ((rd_T76 l0 x3_1).f2) ((rd_T76 l0 x3_1).f3) ((rd_T76 l0 x3_1).f4) false _ A4.out).mono ?_); rintro e w15 ⟨rfl, hb⟩; replace HB := AM_ (below_step (BT HB.out) hb); (try clear hb); (try clear hb2); (try clear hk); (try clear hi))))
    go_ret
    exact QT (BT HB.out)
   subst c5
   have H1 : (if (wrap64 (x3_1 + 1)) < (l0.length : Int) then (if 0 ≤ (wrap64 (x3_1 + 1)) then (if ((rd_T76 l0 x3_1).f2) ≥ ((rd_T76 l0 (wrap64 (x3_1 + 1))).f2) then (some false) else (if ((rd_T76 l0 x3_1).f4) > ((rd_T76 l0 (wrap64 (x3_1 + 1))).f2) then (some false) else (spec_IsValidChain.l0 k1 l0 (wrap64 (x3_1 + 1))))) else (none)) else (spec_IsValidChain.l0 k1 l0 (wrap64 (x3_1 + 1)))) = some r := by rw [if_pos rfl] at H; exact H
   clear H
   have H := H1
   clear H1
   by_cases c6 : (wrap64 (x3_1 + 1)) < (l0.length : Int)
   rotate_left
   ·rw [if_neg c6] at H
    have c6b0 : decide ((wrap64 (x3_1 + 1)) < (l0.length : Int)) = false := decide_eq_false c6
    clear c6
    have H' := AM_ H
    clear H
    have p115 : 0 ≤ (x3_1 : Int) := DT
    have q115 : x3_1 < (l0.length : Int) := DT
    obtain ⟨ad115, e115, hx115_0, hx115_1, hx115_2, hx115_3, hx115_4⟩ := at_T76 HR0.out x3_1 p115 q115
    cases e115
    replace hx115_0 := BC HB.out hx115_0
    replace hx115_1 := BC HB.out hx115_1
    replace hx115_2 := BC HB.out hx115_2
    replace hx115_3 := BC HB.out hx115_3
    replace hx115_4 := BC HB.out hx115_4
    replace p115 := eq_true p115
    replace q115 := eq_true q115
    go_wp2_with (first | (go_at_call 194; (with_reducible refine (spec_IsValidVersion.calls k1 ((rd_T76 l0 x3_1).f0) ((rd_T76 l0 x3_1).f1) ((rd_T76 l0 x3_1).f2) ((rd_T76 l0 x3_1).f3) ((rd_T76 l0 x3_1).f4) true _ A4.out).mono ?_); rintro e w14 ⟨rfl, hb⟩; replace HB := AM_ (below_step (BT HB.out) hb); (try clear hb); (try clear hb2); (try clear hk); (try clear hi)))
    repeat (go_quiet (first | (go_at_call 194; (with_reducible refine (spec_IsValidVersion.calls k1 ((rd_T76 l0 x3_1).f0) ((rd_T76 l0 x3_1).f1) ((rd_T76 l0 x3_1).f2) ((rd_T76 l0 x3_1).f3) ((rd_T76 l0 x3_1).f4) true _ A4.out).mono ?_); rintro e w14 ⟨rfl, hb⟩; replace HB := AM_ (below_step (BT HB.out) hb); (try clear hb); (try clear hb2); (try clear hk); (try clear hi))); try go_wp2_with (first | (go_at_call 194; (with_reducible refine (spec_IsValidVersion.calls k1 ((rd_T76 l0 x3_1).f0) ((rd_T76 l0 x3_1).f1) ((rd_T76 l0 x3_1).f2) ((rd_T76 l0 x3_1).f3) ((rd_T76 l0 x3_1).f4) true _ A4.out).mono ?_); rintro e w14 ⟨rfl, hb⟩; replace HB := AM_ (below_step (BT HB.out) hb); (try clear hb); (try clear hb2); (try clear hk); (try clear hi))))
    go_roundg k1
    case measure => have := HK1.out; omega
    case rel => exact ⟨(wrap64 (x3_1 + 1)), (by first | rfl | (simp; done) | (simp [*]; done)), H', ⟨by have := HK1.out; omega⟩, ⟨BT HB.out⟩⟩
   rw [if_pos c6] at H
   have c6b0 : decide ((wrap64 (x3_1 + 1)) < (l0.length : Int)) = true := decide_eq_true c6
   clear c6
   obtain ⟨ji7, hji7⟩ : ∃ j_ : Int, (wrap64 (x3_1 + 1)) = j_ := ⟨_, rfl⟩
   replace H : (if 0 ≤ (ji7) then (if ((rd_T76 l0 x3_1).f2) ≥ ((rd_T76 l0 (ji7)).f2) then (some false) else (if ((rd_T76 l0 x3_1).f4) > ((rd_T76 l0 (ji7)).f2) then (some false) else (spec_IsValidChain.l0 k1 l0 ji7))) else (none)) = some r := by first | (rw [hji7] at H; exact H) | (simp only [hji7] at H ⊢; exact H)
   (try rw [hji7] at c6b0)
   (try rw [hji7] at A4)
   have hji7w : (IntKind.i64.wrap (x3_1 + 1)) = ji7 := (i64_w _).trans hji7
   by_cases c8 : 0 ≤ (ji7)
   rotate_left
   ·rw [if_neg c8] at H
    exact absurd H (by simp)
   rw [if_pos c8] at H
   have c8b0 : decide (0 ≤ (ji7)) = true := decide_eq_true c8
   clear c8
   by_cases c9 : ((rd_T76 l0 x3_1).f2) ≥ ((rd_T76 l0 (ji7)).f2)
   ·rw [if_pos c9] at H
    have c9b0 : decide (((rd_T76 l0 (ji7)).f2) ≤ ((rd_T76 l0 x3_1).f2)) = true := decide_eq_true c9
    clear c9
    obtain rfl := Option.some.inj H
    have p115 : 0 ≤ (x3_1 : Int) := DT
    have q115 : x3_1 < (l0.length : Int) := DT
    obtain ⟨ad115, e115, hx115_0, hx115_1, hx115_2, hx115_3, hx115_4⟩ := at_T76 HR0.out x3_1 p115 q115
    cases e115
    replace hx115_0 := BC HB.out hx115_0
    replace hx115_1 := BC HB.out hx115_1
    replace hx115_2 := BC HB.out hx115_2
    replace hx115_3 := BC HB.out hx115_3
    replace hx115_4 := BC HB.out hx115_4
    replace p115 := eq_true p115
    replace q115 := eq_true q115
    go_wp2_with (first | (go_at_call 194; (with_reducible refine (spec_IsValidVersion.calls k1 ((rd_T76 l0 x3_1).f0) ((rd_T76 l0 x3_1).f1) ((rd_T76 l0 x3_1).f2) ((rd_T76 l0 x3_1).f3) ((rd_T76 l0 x3_1).f4) true _ A4.out).mono ?_); rintro e w10 ⟨rfl, hb⟩; replace HB := AM_ (below_step (BT HB.out) hb); (try clear hb); (try clear hb2); (try clear hk); (try clear hi); have p117 : 0 ≤ (x3_1 : Int) := DT; have q117 : x3_1 < (l0.length : Int) := DT; obtain ⟨ad117, e117, hx117_0, hx117_1, hx117_2, hx117_3, hx117_4⟩ := at_T76 HR0.out x3_1 p117 q117; obtain rfl : ad115 = ad117 := (by injection e117); replace hx117_0 := BD HB.out hx117_0; replace hx117_1 := BD HB.out hx117_1; replace hx117_2 := BD HB.out hx117_2; replace hx117_3 := BD HB.out hx117_3; replace hx117_4 := BD HB.out hx117_4; replace p117 := eq_true p117; replace q117 := eq_true q117; have p118 : 0 ≤ ((ji7) : Int) := DT; have q118 : (ji7) < (l0.length : Int) := DT; obtain ⟨ad118, e118, hx118_0, hx118_1, hx118_2, hx118_3, hx118_4⟩ := at_T76 HR0.out (ji7) p118 q118; obtain rfl : ad115 = ad118 := (by injection e118); replace hx118_0 := BD HB.out hx118_0; replace hx118_1 := BD HB.out hx118_1; replace hx118_2 := BD HB.out hx118_2; replace hx118_3 := BD HB.out hx118_3; replace hx118_4 := BD HB.out hx118_4; replace p118 := eq_true p118; replace q118 := eq_true q118))
    repeat (go_quiet (first | (go_at_call 194; (with_reducible refine (spec_IsValidVersion.calls k1 ((rd_T76 l0 x3_1).f0) ((rd_T76 l0 x3_1).f1) ((rd_T76 l0 x3_1).f2) ((rd_T76 l0 x3_1).f3) ((rd_T76 l0 x3_1).f4) true _ A4.out).mono ?_); rintro e w10 ⟨rfl, hb⟩; replace HB := AM_ (below_step (BT HB.out) hb); (try clear hb); (try clear hb2); (try clear hk); (try clear hi); have p117 : 0 ≤ (x3_1 : Int) := DT; have q117 : x3_1 < (l0.length : Int) := DT; obtain ⟨ad117, e117, hx117_0, hx117_1, hx117_2, hx117_3, hx117_4⟩ := at_T76 HR0.out x3_1 p117 q117; obtain rfl : ad115 = ad117 := (by injection e117); replace hx117_0 := BD HB.out hx117_0; replace hx117_1 := BD HB.out hx117_1; replace hx117_2 := BD HB.out hx117_2; replace hx117_3 := BD HB.out hx117_3; replace hx117_4 := BD HB.out hx117_4; replace p117 := eq_true p117; replace q117 := eq_true q117; have p118 : 0 ≤ ((ji7) : Int) := DT; have q118 : (ji7) < (l0.length : Int) := DT; obtain ⟨ad118, e118, hx118_0, hx118_1, hx118_2, hx118_3, hx118_4⟩ := at_T76 HR0.out (ji7) p118 q118; obtain rfl : ad115 = ad118 := (by injection e118); replace hx118_0 := BD HB.out hx118_0; replace hx118_1 := BD HB.out hx118_1; replace hx118_2 := BD HB.out hx118_2; replace hx118_3 := BD HB.out hx118_3; replace hx118_4 := BD HB.out hx118_4; replace p118 := eq_true p118; replace q118 := eq_true q118)); try go_wp2_with (first | (go_at_call 194; (with_reducible refine (spec_IsValidVersion.calls k1 ((rd_T76 l0 x3_1).f0) ((rd_T76 l0 x3_1).f1) ((rd_T76 l0 x3_1).f2) ((rd_T76 l0 x3_1).f3) ((rd_T76 l0 x3_1).f4) true _ A4.out).mono ?_); rintro e w10 ⟨rfl, hb⟩; replace HB := AM_ (below_step (BT HB.out) hb); (try clear hb); (try clear hb2); (try clear hk); (try clear hi); have p117 : 0 ≤ (x3_1 : Int) := DT; have q117 : x3_1 < (l0.length : Int) := DT; obtain ⟨ad117, e117, hx117_0, hx117_1, hx117_2, hx117_3, hx117_4⟩ := at_T76 HR0.out x3_1 p117 q117; obtain rfl : ad115 = ad117 := (by injection e117); replace hx117_0 := BD HB.out hx117_0; replace hx117_1 := BD HB.out hx117_1; replace hx117_2 := BD HB.out hx117_2; replace hx117_3 := BD HB.out hx117_3; replace hx117_4 := BD HB.out hx117_4; replace p117 := eq_true p117; replace q117 := eq_true q117; have p118 : 0 ≤ ((ji7) : Int) := DT; have q118 : (ji7) < (l0.length : Int) := DT; obtain ⟨ad118, e118, hx118_0, hx118_1, hx118_2, hx118_3, hx118_4⟩ := at_T76 HR0.out (ji7) p118 q118; obtain rfl : ad115 = ad118 := (by injection e118); replace hx118_0 := BD HB.out hx118_0; replace hx118_1 := BD HB.out hx118_1; replace hx118_2 := BD HB.out hx118_2; replace hx118_3 := BD HB.out hx118_3; replace hx118_4 := BD HB.out hx118_4; replace p118 := eq_true p118; replace q118 := eq_true q118)))
    go_ret
    exact ⟨by first | rfl | (simp [errW_none, errW_some] <;> rfl) | (simp only [← hji7]; first | rfl | (simp [errW_none, errW_some] <;> rfl)) | (simp [*, errW_none, errW_some] <;> rfl), BT HB.out⟩
   rw [if_neg c9] at H
   have c9b0 : decide (((rd_T76 l0 (ji7)).f2) ≤ ((rd_T76 l0 x3_1).f2)) = false := decide_eq_false c9
   clear c9
   by_cases c11 : ((rd_T76 l0 x3_1).f4) > ((rd_T76 l0 (ji7)).f2)
   ·rw [if_pos c11] at H
    have c11b0 : decide (((rd_T76 l0 (ji7)).f2) < ((rd_T76 l0 x3_1).f4)) = true := decide_eq_true c11
    clear c11
    obtain rfl := Option.some.inj H
    have p115 : 0 ≤ (x3_1 : Int) := DT
    have q115 : x3_1 < (l0.length : Int) := DT
    obtain ⟨ad115, e115, hx115_0, hx115_1, hx115_2, hx115_3, hx115_4⟩ := at_T76 HR0.out x3_1 p115 q115
    cases e115
    replace hx115_0 := BC HB.out hx115_0
    replace hx115_1 := BC HB.out hx115_1
    replace hx115_2 := BC HB.out hx115_2
    replace hx115_3 := BC HB.out hx115_3
    replace hx115_4 := BC HB.out hx115_4
    replace p115 := eq_true p115
    replace q115 := eq_true q115
    go_wp2_with (first | (go_at_call 194; (with_reducible refine (spec_IsValidVersion.calls k1 ((rd_T76 l0 x3_1).f0) ((rd_T76 l0 x3_1).f1) ((rd_T76 l0 x3_1).f2) ((rd_T76 l0 x3_1).f3) ((rd_T76 l0 x3_1).f4) true _ A4.out).mono ?_); rintro e w12 ⟨rfl, hb⟩; replace HB := AM_ (below_step (BT HB.out) hb); (try clear hb); (try clear hb2); (try clear hk); (try clear hi); have p117 : 0 ≤ (x3_1 : Int) := DT; have q117 : x3_1 < (l0.length : Int) := DT; obtain ⟨ad117, e117, hx117_0, hx117_1, hx117_2, hx117_3, hx117_4⟩ := at_T76 HR0.out x3_1 p117 q117; obtain rfl : ad115 = ad117 := (by injection e117); replace hx117_0 := BD HB.out hx117_0; replace hx117_1 := BD HB.out hx117_1; replace hx117_2 := BD HB.out hx117_2; replace hx117_3 := BD HB.out hx117_3; replace hx117_4 := BD HB.out hx117_4; replace p117 := eq_true p117; replace q117 := eq_true q117; have p118 : 0 ≤ ((ji7) : Int) := DT; have q118 : (ji7) < (l0.length : Int) := DT; obtain ⟨ad118, e118, hx118_0, hx118_1, hx118_2, hx118_3, hx118_4⟩ := at_T76 HR0.out (ji7) p118 q118; obtain rfl : ad115 = ad118 := (by injection e118); replace hx118_0 := BD HB.out hx118_0; replace hx118_1 := BD HB.out hx118_1; replace hx118_2 := BD HB.out hx118_2; replace hx118_3 := BD HB.out hx118_3; replace hx118_4 := BD HB.out hx118_4; replace p118 := eq_true p118; replace q118 := eq_true q118; have p119 : 0 ≤ (x3_1 : Int) := DT; have q119 : x3_1 < (l0.length : Int) := DT; obtain ⟨ad119, e119, hx119_0, hx119_1, hx119_2, hx119_3, hx119_4⟩ := at_T76 HR0.out x3_1 p119 q119; obtain rfl : ad115 = ad119 := (by injection e119); replace hx119_0 := BD HB.out hx119_0; replace hx119_1 := BD HB.out hx119_1; replace hx119_2 := BD HB.out hx119_2; replace hx119_3 := BD HB.out hx119_3; replace hx119_4 := BD HB.out hx119_4; replace p119 := eq_true p119; replace q119 := eq_true q119; have p120 : 0 ≤ ((ji7) : Int) := DT; have q120 : (ji7) < (l0.length : Int) := DT; obtain ⟨ad120, e120, hx120_0, hx120_1, hx120_2, hx120_3, hx120_4⟩ := at_T76 HR0.out (ji7) p120 q120; obtain rfl : ad115 = ad120 := (by injection e120); replace hx120_0 := BD HB.out hx120_0; replace hx120_1 := BD HB.out hx120_1; replace hx120_2 := BD HB.out hx120_2; replace hx120_3 := BD HB.out hx120_3; replace hx120_4 := BD HB.out hx120_4; replace p120 := eq_true p120; replace q120 := eq_true q120))
    repeat (go_quiet (first | (go_at_call 194; (with_reducible refine (spec_IsValidVersion.calls k1 ((rd_T76 l0 x3_1).f0) ((rd_T76 l0 x3_1).f1) ((rd_T76 l0 x3_1).f2) ((rd_T76 l0 x3_1).f3) ((rd_T76 l0 x3_1).f4) true _ A4.out).mono ?_); rintro e w12 ⟨rfl, hb⟩; replace HB := AM_ (below_step (BT HB.out) hb); (try clear hb); (try clear hb2); (try clear hk); (try clear hi); have p117 : 0 ≤ (x3_1 : Int) := DT; have q117 : x3_1 < (l0.length : Int) := DT; obtain ⟨ad117, e117, hx117_0, hx117_1, hx117_2, hx117_3, hx117_4⟩ := at_T76 HR0.out x3_1 p117 q117; obtain rfl : ad115 = ad117 := (by injection e117); replace hx117_0 := BD HB.out hx117_0; replace hx117_1 := BD HB.out hx117_1; replace hx117_2 := BD HB.out hx117_2; replace hx117_3 := BD HB.out hx117_3; replace hx117_4 := BD HB.out hx117_4; replace p117 := eq_true p117; replace q117 := eq_true q117; have p118 : 0 ≤ ((ji7) : Int) := DT; have q118 : (ji7) < (l0.length : Int) := DT; obtain ⟨ad118, e118, hx118_0, hx118_1, hx118_2, hx118_3, hx118_4⟩ := at_T76 HR0.out (ji7) p118 q118; obtain rfl : ad115 = ad118 := (by injection e118); replace hx118_0 := BD HB.out hx118_0; replace hx118_1 := BD HB.out hx118_1; replace hx118_2 := BD HB.out hx118_2; replace hx118_3 := BD HB.out hx118_3; replace hx118_4 := BD HB.out hx118_4; replace p118 := eq_true p118; replace q118 := eq_true q118; have p119 : 0 ≤ (x3_1 : Int) := DT; have q119 : x3_1 < (l0.length : Int) := DT; obtain ⟨ad119, e119, hx119_0, hx119_1, hx119_2, hx119_3, hx119_4⟩ := at_T76 HR0.out x3_1 p119 q119; obtain rfl : ad115 = ad119 := (by injection e119); replace hx119_0 := BD HB.out hx119_0; replace hx119_1 := BD HB.out hx119_1; replace hx119_2 := BD HB.out hx119_2; replace hx119_3 := BD HB.out hx119_3; replace hx119_4 := BD HB.out hx119_4; replace p119 := eq_true p119; replace q119 := eq_true q119; have p120 : 0 ≤ ((ji7) : Int) := DT; have q120 : (ji7) < (l0.length : Int) := DT; obtain ⟨ad120, e120, hx120_0, hx120_1, hx120_2, hx120_3, hx120_4⟩ := at_T76 HR0.out (ji7) p120 q120; obtain rfl : ad115 = ad120 := (by injection e120); replace hx120_0 := BD HB.out hx120_0; replace hx120_1 := BD HB.out hx120_1; replace hx120_2 := BD HB.out hx120_2; replace hx120_3 := BD HB.out hx120_3; replace hx120_4 := BD HB.out hx120_4; replace p120 := eq_true p120; replace q120 := eq_true q120)); try go_wp2_with (first | (go_at_call 194; (with_reducible refine (spec_IsValidVersion.calls k1 ((rd_T76 l0 x3_1).f0) ((rd_T76 l0 x3_1).f1) ((rd_T76 l0 x3_1).f2) ((rd_T76 l0 x3_1).f3) ((rd_T76 l0 x3_1).f4) true _ A4.out).mono ?_); rintro e w12 ⟨rfl, hb⟩; replace HB := AM_ (below_step (BT HB.out) hb); (try clear hb); (try clear hb2); (try clear hk); (try clear hi); have p117 : 0 ≤ (x3_1 : Int) := DT; have q117 : x3_1 < (l0.length : Int) := DT; obtain ⟨ad117, e117, hx117_0, hx117_1, hx117_2, hx117_3, hx117_4⟩ := at_T76 HR0.out x3_1 p117 q117; obtain rfl : ad115 = ad117 := (by injection e117); replace hx117_0 := BD HB.out hx117_0; replace hx117_1 := BD HB.out hx117_1; replace hx117_2 := BD HB.out hx117_2; replace hx117_3 := BD HB.out hx117_3; replace hx117_4 := BD HB.out hx117_4; replace p117 := eq_true p117; replace q117 := eq_true q117; have p118 : 0 ≤ ((ji7) : Int) := DT; have q118 : (ji7) < (l0.length : Int) := DT; obtain ⟨ad118, e118, hx118_0, hx118_1, hx118_2, hx118_3, hx118_4⟩ := at_T76 HR0.out (ji7) p118 q118; obtain rfl : ad115 = ad118 := (by injection e118); replace hx118_0 := BD HB.out hx118_0; replace hx118_1 := BD HB.out hx118_1; replace hx118_2 := BD HB.out hx118_2; replace hx118_3 := BD HB.out hx118_3; replace hx118_4 := BD HB.out hx118_4; replace p118 := eq_true p118; replace q118 := eq_true q118; have p119 : 0 ≤ (x3_1 : Int) := DT; have q119 : x3_1 < (l0.length : Int) := DT; obtain ⟨ad119, e119, hx119_0, hx119_1, hx119_2, hx119_3, hx119_4⟩ := at_T76 HR0.out x3_1 p119 q119; obtain rfl : ad115 = ad119 := (by injection e119); replace hx119_0 := BD HB.out hx119_0; replace hx119_1 := BD HB.out hx119_1; replace hx119_2 := BD HB.out hx119_2; replace hx119_3 := BD HB.out hx119_3; replace hx119_4 := BD HB.out hx119_4; replace p119 := eq_true p119; replace q119 := eq_true q119; have p120 : 0 ≤ ((ji7) : Int) := DT; have q120 : (ji7) < (l0.length : Int) := DT; obtain ⟨ad120, e120, hx120_0, hx120_1, hx120_2, hx120_3, hx120_4⟩ := at_T76 HR0.out (ji7) p120 q120; obtain rfl : ad115 = ad120 := (by injection e120); replace hx120_0 := BD HB.out hx120_0; replace hx120_1 := BD HB.out hx120_1; replace hx120_2 := BD HB.out hx120_2; replace hx120_3 := BD HB.out hx120_3; replace hx120_4 := BD HB.out hx120_4; replace p120 := eq_true p120; replace q120 := eq_true q120)))
    go_ret
    exact ⟨by first | rfl | (simp [errW_none, errW_some] <;> rfl) | (simp only [← hji7]; first | rfl | (simp [errW_none, errW_some] <;> rfl)) | (simp [*, errW_none, errW_some] <;> rfl), BT HB.out⟩
   rw [if_neg c11] at H
   have c11b0 : decide (((rd_T76 l0 (ji7)).f2) < ((rd_T76 l0 x3_1).f4)) = false := decide_eq_false c11
   clear c11
   have H' := AM_ H
   clear H
   have p115 : 0 ≤ (x3_1 : Int) := DT
   have q115 : x3_1 < (l0.length : Int) := DT
   obtain ⟨ad115, e115, hx115_0, hx115_1, hx115_2, hx115_3, hx115_4⟩ := at_T76 HR0.out x3_1 p115 q115
   cases e115
   replace hx115_0 := BC HB.out hx115_0
   replace hx115_1 := BC HB.out hx115_1
   replace hx115_2 := BC HB.out hx115_2
   replace hx115_3 := BC HB.out hx115_3
   replace hx115_4 := BC HB.out hx115_4
   replace p115 := eq_true p115
   replace q115 := eq_true q115
   go_wp2_with (first | (go_at_call 194; (with_reducible refine (spec_IsValidVersion.calls k1 ((rd_T76 l0 x3_1).f0) ((rd_T76 l0 x3_1).f1) ((rd_T76 l0 x3_1).f2) ((rd_T76 l0 x3_1).f3) ((rd_T76 l0 x3_1).f4) true _ A4.out).mono ?_); rintro e w13 ⟨rfl, hb⟩; replace HB := AM_ (below_step (BT HB.out) hb); (try clear hb); (try clear hb2); (try clear hk); (try clear hi); have p117 : 0 ≤ (x3_1 : Int) := DT; have q117 : x3_1 < (l0.length : Int) := DT; obtain ⟨ad117, e117, hx117_0, hx117_1, hx117_2, hx117_3, hx117_4⟩ := at_T76 HR0.out x3_1 p117 q117; obtain rfl : ad115 = ad117 := (by injection e117); replace hx117_0 := BD HB.out hx117_0; replace hx117_1 := BD HB.out hx117_1; replace hx117_2 := BD HB.out hx117_2; replace hx117_3 := BD HB.out hx117_3; replace hx117_4 := BD HB.out hx117_4; replace p117 := eq_true p117; replace q117 := eq_true q117; have p118 : 0 ≤ ((ji7) : Int) := DT; have q118 : (ji7) < (l0.length : Int) := DT; obtain ⟨ad118, e118, hx118_0, hx118_1, hx118_2, hx118_3, hx118_4⟩ := at_T76 HR0.out (ji7) p118 q118; obtain rfl : ad115 = ad118 := (by injection e118); replace hx118_0 := BD HB.out hx118_0; replace hx118_1 := BD HB.out hx118_1; replace hx118_2 := BD HB.out hx118_2; replace hx118_3 := BD HB.out hx118_3; replace hx118_4 := BD HB.out hx118_4; replace p118 := eq_true p118; replace q118 := eq_true q118; have p119 : 0 ≤ (x3_1 : Int) := DT; have q119 : x3_1 < (l0.length : Int) := DT; obtain ⟨ad119, e119, hx119_0, hx119_1, hx119_2, hx119_3, hx119_4⟩ := at_T76 HR0.out x3_1 p119 q119; obtain rfl : ad115 = ad119 := (by injection e119); replace hx119_0 := BD HB.out hx119_0; replace hx119_1 := BD HB.out hx119_1; replace hx119_2 := BD HB.out hx119_2; replace hx119_3 := BD HB.out hx119_3; replace hx119_4 := BD HB.out hx119_4; replace p119 := eq_true p119; replace q119 := eq_true q119; have p120 : 0 ≤ ((ji7) : Int) := DT; have q120 : (ji7) < (l0.length : Int) := DT; obtain ⟨ad120, e120, hx120_0, hx120_1, hx120_2, hx120_3, hx120_4⟩ := at_T76 HR0.out (ji7) p120 q120; obtain rfl : ad115 = ad120 := (by injection e120); replace hx120_0 := BD HB.out hx120_0; replace hx120_1 := BD HB.out hx120_1; replace hx120_2 := BD HB.out hx120_2; replace hx120_3 := BD HB.out hx120_3; replace hx120_4 := BD HB.out hx120_4; replace p120 := eq_true p120; replace q120 := eq_true q120))
   repeat (go_quiet (first | (go_at_call 194; (with_reducible refine (spec_IsValidVersion.calls k1 ((rd_T76 l0 x3_1).f0) ((rd_T76 l0 x3_1).f1) ((rd_T76 l0 x3_1).f2) ((rd_T76 l0 x3_1).f3) ((rd_T76 l0 x3_1).f4) true _ A4.out).mono ?_); rintro e w13 ⟨rfl, hb⟩; replace HB := AM_ (below_step (BT HB.out) hb); (try clear hb); (try clear hb2); (try clear hk); (try clear hi); have p117 : 0 ≤ (x3_1 : Int) := DT; have q117 : x3_1 < (l0.length : Int) := DT; obtain ⟨ad117, e117, hx117_0, hx117_1, hx117_2, hx117_3, hx117_4⟩ := at_T76 HR0.out x3_1 p117 q117; obtain rfl : ad115 = ad117 := (by injection e117); replace hx117_0 := BD HB.out hx117_0; replace hx117_1 := BD HB.out hx117_1; replace hx117_2 := BD HB.out hx117_2; replace hx117_3 := BD HB.out hx117_3; replace hx117_4 := BD HB.out hx117_4; replace p117 := eq_true p117; replace q117 := eq_true q117; have p118 : 0 ≤ ((ji7) : Int) := DT; have q118 : (ji7) < (l0.length : Int) := DT; obtain ⟨ad118, e118, hx118_0, hx118_1, hx118_2, hx118_3, hx118_4⟩ := at_T76 HR0.out (ji7) p118 q118; obtain rfl : ad115 = ad118 := (by injection e118); replace hx118_0 := BD HB.out hx118_0; replace hx118_1 := BD HB.out hx118_1; replace hx118_2 := BD HB.out hx118_2; replace hx118_3 := BD HB.out hx118_3; replace hx118_4 := BD HB.out hx118_4; replace p118 := eq_true p118; replace q118 := eq_true q118; have p119 : 0 ≤ (x3_1 : Int) := DT; have q119 : x3_1 < (l0.length : Int) := DT; obtain ⟨ad119, e119, hx119_0, hx119_1, hx119_2, hx119_3, hx119_4⟩ := at_T76 HR0.out x3_1 p119 q119; obtain rfl : ad115 = ad119 := (by injection e119); replace hx119_0 := BD HB.out hx119_0; replace hx119_1 := BD HB.out hx119_1; replace hx119_2 := BD HB.out hx119_2; replace hx119_3 := BD HB.out hx119_3; replace hx119_4 := BD HB.out hx119_4; replace p119 := eq_true p119; replace q119 := eq_true q119; have p120 : 0 ≤ ((ji7) : Int) := DT; have q120 : (ji7) < (l0.length : Int) := DT; obtain ⟨ad120, e120, hx120_0, hx120_1, hx120_2, hx120_3, hx120_4⟩ := at_T76 HR0.out (ji7) p120 q120; obtain rfl : ad115 = ad120 := (by injection e120); replace hx120_0 := BD HB.out hx120_0; replace hx120_1 := BD HB.out hx120_1; replace hx120_2 := BD HB.out hx120_2; replace hx120_3 := BD HB.out hx120_3; replace hx120_4 := BD HB.out hx120_4; replace p120 := eq_true p120; replace q120 := eq_true q120)); try go_wp2_with (first | (go_at_call 194; (with_reducible refine (spec_IsValidVersion.calls k1 ((rd_T76 l0 x3_1).f0) ((rd_T76 l0 x3_1).f1) ((rd_T76 l0 x3_1).f2) ((rd_T76 l0 x3_1).f3) ((rd_T76 l0 x3_1).f4) true _ A4.out).mono ?_); rintro e w13 ⟨rfl, hb⟩; replace HB := AM_ (below_step (BT HB.out) hb); (try clear hb); (try clear hb2); (try clear hk); (try clear hi); have p117 : 0 ≤ (x3_1 : Int) := DT; have q117 : x3_1 < (l0.length : Int) := DT; obtain ⟨ad117, e117, hx117_0, hx117_1, hx117_2, hx117_3, hx117_4⟩ := at_T76 HR0.out x3_1 p117 q117; obtain rfl : ad115 = ad117 := (by injection e117); replace hx117_0 := BD HB.out hx117_0; replace hx117_1 := BD HB.out hx117_1; replace hx117_2 := BD HB.out hx117_2; replace hx117_3 := BD HB.out hx117_3; replace hx117_4 := BD HB.out hx117_4; replace p117 := eq_true p117; replace q117 := eq_true q117; have p118 : 0 ≤ ((ji7) : Int) := DT; have q118 : (ji7) < (l0.length : Int) := DT; obtain ⟨ad118, e118, hx118_0, hx118_1, hx118_2, hx118_3, hx118_4⟩ := at_T76 HR0.out (ji7) p118 q118; obtain rfl : ad115 = ad118 := (by injection e118); replace hx118_0 := BD HB.out hx118_0; replace hx118_1 := BD HB.out hx118_1; replace hx118_2 := BD HB.out hx118_2; replace hx118_3 := BD HB.out hx118_3; replace hx118_4 := BD HB.out hx118_4; replace p118 := eq_true p118; replace q118 := eq_true q118; have p119 : 0 ≤ (x3_1 : Int) := DT; have q119 : x3_1 < (l0.length : Int) := DT; obtain ⟨ad119, e119, hx119_0, hx119_1, hx119_2, hx119_3, hx119_4⟩ := at_T76 HR0.out x3_1 p119 q119; obtain rfl : ad115 = ad119 := (by injection e119); replace hx119_0 := BD HB.out hx119_0; replace hx119_1 := BD HB.out hx119_1; replace hx119_2 := BD HB.out hx119_2; replace hx119_3 := BD HB.out hx119_3; replace hx119_4 := BD HB.out hx119_4; replace p119 := eq_true p119; replace q119 := eq_true q119; have p120 : 0 ≤ ((ji7) : Int) := DT; have q120 : (ji7) < (l0.length : Int) := DT; obtain ⟨ad120, e120, hx120_0, hx120_1, hx120_2, hx120_3, hx120_4⟩ := at_T76 HR0.out (ji7) p120 q120; obtain rfl : ad115 = ad120 := (by injection e120); replace hx120_0 := BD HB.out hx120_0; replace hx120_1 := BD HB.out hx120_1; replace hx120_2 := BD HB.out hx120_2; replace hx120_3 := BD HB.out hx120_3; replace hx120_4 := BD HB.out hx120_4; replace p120 := eq_true p120; replace q120 := eq_true q120)))
   go_roundg k1
   case measure => have := HK1.out; omega
   case rel => exact ⟨(ji7), (by first | rfl | (simp; done) | (simp only [← hji7] <;> (first | rfl | simp)) | (simp [*]; done)), H', ⟨by have := HK1.out; omega⟩, ⟨BT HB.out⟩⟩

/-! ### spec_LatestVersion: function 55 -/
def spec_LatestVersion.f (k : Nat) (l0 : List (S76)) : Option (Int × Int × Int × Int × Int) := (spec_IsValidChain.f k l0).bind fun t122 => (if t122 = true then (if 0 ≤ (wrap64 ((l0.length : Int) - 1)) then (if (wrap64 ((l0.length : Int) - 1)) < (l0.length : Int) then (some ((rd_T76 l0 (wrap64 ((l0.length : Int) - 1))).f0, (rd_T76 l0 (wrap64 ((l0.length : Int) - 1))).f1, (rd_T76 l0 (wrap64 ((l0.length : Int) - 1))).f2, (rd_T76 l0 (wrap64 ((l0.length : Int) - 1))).f3, (rd_T76 l0 (wrap64 ((l0.length : Int) - 1))).f4)) else (none)) else (none)) else (some (0, 0, 0, 0, 0)))
theorem spec_LatestVersion.mono : ∀ a0 k, LeO (spec_LatestVersion.f k a0) (spec_LatestVersion.f (k + 1) a0) := by
 intro a0 k
 unfold spec_LatestVersion.f
 repeat' first
   | (with_reducible exact spec_IsValidChain.mono _ _)
   | (with_reducible exact LeO.refl _)
   | (with_reducible exact LeO.none _)
   | (with_reducible refine LeO.ite ?_ ?_)
   | (with_reducible refine LeO.bind ?_ (fun _ => ?_))
   | exact spec_IsValidChain.mono _ _
   | exact LeO.none _
   | refine LeO.ite ?_ ?_
   | refine LeO.bind ?_ (fun _ => ?_)
set_option maxHeartbeats 8000000 in
set_option maxRecDepth 100000 in
theorem spec_LatestVersion.calls (k : Nat) (A0 : Option Addr) (c0 : Nat) (l0 : List (S76)) (r1 : Int) (r2 : Int) (r3 : Int) (r4 : Int) (r5 : Int) (w : World) (hr0 : Kd.C k76 w A0 l0.length l0) (hc0 : l0.length ≤ c0) (h : spec_LatestVersion.f k l0 = some (r1, r2, r3, r4, r5)) :
  Calls Try.prog 55 #[.slice A0 l0.length c0] w fun e w' => e = .returned (.agg #[.int .i64 r1, .int .i64 r2, .int .i64 r3, .int .i64 r4, .int .i64 r5]) ∧ Below w.heap.size w w' := by
 have hu76 := Try.underlying76
 have HR0 := AM_ hr0
 have HC0 := AM_ hc0
 clear hr0 hc0
 have HB := AM_ (Below.refl w.heap.size w)
 have H : ((spec_IsValidChain.f k l0).bind fun t122 => (if t122 = true then (if 0 ≤ (wrap64 ((l0.length : Int) - 1)) then (if (wrap64 ((l0.length : Int) - 1)) < (l0.length : Int) then (some ((rd_T76 l0 (wrap64 ((l0.length : Int) - 1))).f0, (rd_T76 l0 (wrap64 ((l0.length : Int) - 1))).f1, (rd_T76 l0 (wrap64 ((l0.length : Int) - 1))).f2, (rd_T76 l0 (wrap64 ((l0.length : Int) - 1))).f3, (rd_T76 l0 (wrap64 ((l0.length : Int) - 1))).f4)) else (none)) else (none)) else (some (0, 0, 0, 0, 0)))) = some (r1, r2, r3, r4, r5) := h
 clear h
 replace H := Option.bind_eq_some_iff.mp H
 obtain ⟨t122, A20, H⟩ := H
 replace H : (if t122 = true then (if 0 ≤ (wrap64 ((l0.length : Int) - 1)) then (if (wrap64 ((l0.length : Int) - 1)) < (l0.length : Int) then (some ((rd_T76 l0 (wrap64 ((l0.length : Int) - 1))).f0, (rd_T76 l0 (wrap64 ((l0.length : Int) - 1))).f1, (rd_T76 l0 (wrap64 ((l0.length : Int) - 1))).f2, (rd_T76 l0 (wrap64 ((l0.length : Int) - 1))).f3, (rd_T76 l0 (wrap64 ((l0.length : Int) - 1))).f4)) else (none)) else (none)) else (some (0, 0, 0, 0, 0))) = some (r1, r2, r3, r4, r5) := H
 have A2 := AM_ A20
 clear A20
 by_cases c3 : t122 = true
 rotate_left
 ·replace c3 := Bool.eq_false_iff.mpr c3
  subst c3
  have H1 : (some (0, 0, 0, 0, 0)) = some (r1, r2, r3, r4, r5) := by rw [if_neg (show ¬ (false = true) by decide)] at H; exact H
  clear H
  have H := H1
  clear H1
  simp only [Option.some.injEq, Prod.mk.injEq] at H
  obtain ⟨rfl, rfl, rfl, rfl, rfl⟩ := H
  go_enter Try.func55, Try.ntmps55
  go_wp2_with (first | ((with_reducible refine gate_dst (N := 2) rfl ?_); refine box_event ?hg (N := 2) ?hd (cs := #[.int .i64 0, .int .i64 0, .int .i64 0, .int .i64 0, .int .i64 0]) (t := 76) ?hr ?_; (case hd => rfl); (case hg => rfl); (case hr => first | (go_simp; done) | (go_simp; rfl)); intro gb121 hg w10 hbox hb; have BK121 := AM_ (hbox); have GW121 := AM_ ((GS HB.out hg)); have GE121 := AM_ ((GS HB.out hg)); replace HB := AM_ (below_step (BT HB.out) hb); clear hb hbox hg) | ((with_reducible refine gate_callee (f := 136) rfl ?_); refine goesL_ (some 4) rfl rfl Try.func136 (by kernel_rfl) rfl #[.slice A0 l0.length c0] rfl (by (try simp only [List.map_toArray, List.map_cons, List.map_nil]); first | done | rfl | (simp only [List.length_drop, List.length_take]; rfl)) ?_; (with_reducible refine (spec_IsValidChain.calls k _ _ l0 false _ ?side1 ?side2 A2.out).mono ?_); (case side1 => exact CB HR0.out HB.out); (case side2 => exact HC0.out); rintro e w11 ⟨rfl, hb⟩; refine ⟨_, rfl, ?_⟩; replace BK121 := AM_ (BB BK121.out hb); replace HB := AM_ (below_step (BT HB.out) hb); (try clear hb); (try clear hb2); (try clear hk); (try clear hi); obtain ⟨hcz12_0, hcz12_1, hcz12_2, hcz12_3, hcz12_4, hfz12_0, hfz12_1, hfz12_2, hfz12_3, hfz12_4⟩ := bk5 BK121.out))
  refine bodyPost_ret (results_cell_row rfl _ _ gb121 76 #[.int .i64 0, .int .i64 0, .int .i64 0, .int .i64 0, .int .i64 0] (0, 0) _ rfl (by (with_reducible repeat (first | refine blk_drewN ?_ _ | refine blk_drew ?_ | refine blk_alloc ?_ _)); refine blk_put (cs := #[.int .i64 0, .int .i64 0, .int .i64 0, .int .i64 0, .int .i64 0]) ?_ 4 _ rfl; (with_reducible repeat (first | refine blk_drewN ?_ _ | refine blk_drew ?_ | refine blk_alloc ?_ _)); refine blk_put (cs := #[.int .i64 0, .int .i64 0, .int .i64 0, .int .i64 0, .int .i64 0]) ?_ 3 _ rfl; (with_reducible repeat (first | refine blk_drewN ?_ _ | refine blk_drew ?_ | refine blk_alloc ?_ _)); refine blk_put (cs := #[.int .i64 0, .int .i64 0, .int .i64 0, .int .i64 0, .int .i64 0]) ?_ 2 _ rfl; (with_reducible repeat (first | refine blk_drewN ?_ _ | refine blk_drew ?_ | refine blk_alloc ?_ _)); refine blk_put (cs := #[.int .i64 0, .int .i64 0, .int .i64 0, .int .i64 0, .int .i64 0]) ?_ 1 _ rfl; (with_reducible repeat (first | refine blk_drewN ?_ _ | refine blk_drew ?_ | refine blk_alloc ?_ _)); refine blk_put (cs := #[.int .i64 0, .int .i64 0, .int .i64 0, .int .i64 0, .int .i64 0]) ?_ 0 _ rfl; (with_reducible repeat (first | refine blk_drewN ?_ _ | refine blk_drew ?_ | refine blk_alloc ?_ _)); exact BK121.out) Try.underlying76 rfl (by kernel_rfl)) rfl ?_
  exact QT (BT HB.out)
 subst c3
 have H1 : (if 0 ≤ (wrap64 ((l0.length : Int) - 1)) then (if (wrap64 ((l0.length : Int) - 1)) < (l0.length : Int) then (some ((rd_T76 l0 (wrap64 ((l0.length : Int) - 1))).f0, (rd_T76 l0 (wrap64 ((l0.length : Int) - 1))).f1, (rd_T76 l0 (wrap64 ((l0.length : Int) - 1))).f2, (rd_T76 l0 (wrap64 ((l0.length : Int) - 1))).f3, (rd_T76 l0 (wrap64 ((l0.length : Int) - 1))).f4)) else (none)) else (none)) = some (r1, r2, r3, r4, r5) := by rw [if_pos rfl] at H; exact H
 clear H
 have H := H1
 clear H1
 obtain ⟨ji4, hji4⟩ : ∃ j_ : Int, (wrap64 ((l0.length : Int) - 1)) = j_ := ⟨_, rfl⟩
 replace H : (if 0 ≤ (ji4) then (if (ji4) < (l0.length : Int) then (some ((rd_T76 l0 (ji4)).f0, (rd_T76 l0 (ji4)).f1, (rd_T76 l0 (ji4)).f2, (rd_T76 l0 (ji4)).f3, (rd_T76 l0 (ji4)).f4)) else (none)) else (none)) = some (r1, r2, r3, r4, r5) := by first | (rw [hji4] at H; exact H) | (simp only [hji4] at H ⊢; exact H)
 (try rw [hji4] at A2)
 have hji4w : (IntKind.i64.wrap ((l0.length : Int) - 1)) = ji4 := (i64_w _).trans hji4
 by_cases c5 : 0 ≤ (ji4)
 rotate_left
 ·rw [if_neg c5] at H
  exact absurd H (by simp)
 rw [if_pos c5] at H
 have c5b0 : decide (0 ≤ (ji4)) = true := decide_eq_true c5
 clear c5
 by_cases c6 : (ji4) < (l0.length : Int)
 rotate_left
 ·rw [if_neg c6] at H
  exact absurd H (by simp)
 rw [if_pos c6] at H
 have c6b0 : decide ((ji4) < (l0.length : Int)) = true := decide_eq_true c6
 clear c6
 simp only [Option.some.injEq, Prod.mk.injEq] at H
 obtain ⟨rfl, rfl, rfl, rfl, rfl⟩ := H
 go_enter Try.func55, Try.ntmps55
 go_wp2_with (first | ((with_reducible refine gate_dst (N := 2) rfl ?_); refine box_event ?hg (N := 2) ?hd (cs := #[.int .i64 0, .int .i64 0, .int .i64 0, .int .i64 0, .int .i64 0]) (t := 76) ?hr ?_; (case hd => rfl); (case hg => rfl); (case hr => first | (go_simp; done) | (go_simp; rfl)); intro gb121 hg w7 hbox hb; have BK121 := AM_ (hbox); have GW121 := AM_ ((GS HB.out hg)); have GE121 := AM_ ((GS HB.out hg)); replace HB := AM_ (below_step (BT HB.out) hb); clear hb hbox hg) | ((with_reducible refine gate_callee (f := 136) rfl ?_); refine goesL_ (some 4) rfl rfl Try.func136 (by kernel_rfl) rfl #[.slice A0 l0.length c0] rfl (by (try simp only [List.map_toArray, List.map_cons, List.map_nil]); first | done | rfl | (simp only [List.length_drop, List.length_take]; rfl)) ?_; (with_reducible refine (spec_IsValidChain.calls k _ _ l0 true _ ?side1 ?side2 A2.out).mono ?_); (case side1 => exact CB HR0.out HB.out); (case side2 => exact HC0.out); rintro e w8 ⟨rfl, hb⟩; refine ⟨_, rfl, ?_⟩; replace BK121 := AM_ (BB BK121.out hb); replace HB := AM_ (below_step (BT HB.out) hb); (try clear hb); (try clear hb2); (try clear hk); (try clear hi); have p123 : 0 ≤ ((ji4) : Int) := DT; have q123 : (ji4) < (l0.length : Int) := DT; obtain ⟨ad123, e123, hx123_0, hx123_1, hx123_2, hx123_3, hx123_4⟩ := at_T76 HR0.out (ji4) p123 q123; cases e123; replace hx123_0 := BD HB.out hx123_0; replace hx123_1 := BD HB.out hx123_1; replace hx123_2 := BD HB.out hx123_2; replace hx123_3 := BD HB.out hx123_3; replace hx123_4 := BD HB.out hx123_4; replace p123 := eq_true p123; replace q123 := eq_true q123; obtain ⟨hcz9_0, hcz9_1, hcz9_2, hcz9_3, hcz9_4, hfz9_0, hfz9_1, hfz9_2, hfz9_3, hfz9_4⟩ := bk5 BK121.out))
 refine bodyPost_ret (results_cell_row rfl _ _ gb121 76 #[.int .i64 ((rd_T76 l0 (ji4)).f0), .int .i64 ((rd_T76 l0 (ji4)).f1), .int .i64 ((rd_T76 l0 (ji4)).f2), .int .i64 ((rd_T76 l0 (ji4)).f3), .int .i64 ((rd_T76 l0 (ji4)).f4)] (0, 0) _ rfl (by (with_reducible repeat (first | refine blk_drewN ?_ _ | refine blk_drew ?_ | refine blk_alloc ?_ _)); refine blk_put (cs := #[.int .i64 ((rd_T76 l0 (ji4)).f0), .int .i64 ((rd_T76 l0 (ji4)).f1), .int .i64 ((rd_T76 l0 (ji4)).f2), .int .i64 ((rd_T76 l0 (ji4)).f3), .int .i64 0]) ?_ 4 _ rfl; (with_reducible repeat (first | refine blk_drewN ?_ _ | refine blk_drew ?_ | refine blk_alloc ?_ _)); refine blk_put (cs := #[.int .i64 ((rd_T76 l0 (ji4)).f0), .int .i64 ((rd_T76 l0 (ji4)).f1), .int .i64 ((rd_T76 l0 (ji4)).f2), .int .i64 0, .int .i64 0]) ?_ 3 _ rfl; (with_reducible repeat (first | refine blk_drewN ?_ _ | refine blk_drew ?_ | refine blk_alloc ?_ _)); refine blk_put (cs := #[.int .i64 ((rd_T76 l0 (ji4)).f0), .int .i64 ((rd_T76 l0 (ji4)).f1), .int .i64 0, .int .i64 0, .int .i64 0]) ?_ 2 _ rfl; (with_reducible repeat (first | refine blk_drewN ?_ _ | refine blk_drew ?_ | refine blk_alloc ?_ _)); refine blk_put (cs := #[.int .i64 ((rd_T76 l0 (ji4)).f0), .int .i64 0, .int .i64 0, .int .i64 0, .int .i64 0]) ?_ 1 _ rfl; (with_reducible repeat (first | refine blk_drewN ?_ _ | refine blk_drew ?_ | refine blk_alloc ?_ _)); refine blk_put (cs := #[.int .i64 0, .int .i64 0, .int .i64 0, .int .i64 0, .int .i64 0]) ?_ 0 _ rfl; (with_reducible repeat (first | refine blk_drewN ?_ _ | refine blk_drew ?_ | refine blk_alloc ?_ _)); exact BK121.out) Try.underlying76 rfl (by kernel_rfl)) rfl ?_
 exact ⟨by first | rfl | (simp [errW_none, errW_some] <;> rfl) | (simp only [← hji4]; first | rfl | (simp [errW_none, errW_some] <;> rfl)) | (simp [*, errW_none, errW_some] <;> rfl), BT HB.out⟩

/-! ### spec_IsValidStore: function 140 -/
def spec_IsValidStore.l0 : Nat → Int → List (List (S76)) → Option (Bool)
 | 0, _, _ => none
 | k + 1, x3, x125000 => if x3 < (x125000.length : Int) then (if 0 ≤ x3 then ((spec_IsValidChain.f k (rd_L6 x125000 x3)).bind fun t126 => (if t126 = true then (if 0 < ((rd_L6 x125000 x3).length : Int) then (if ((rd_T76 (rd_L6 x125000 x3) 0).f2) > 0 then (if ((rd_L6 x125000 x3).length : Int) > 50 then (some false) else (spec_IsValidStore.l0 k (wrap64 (x3 + 1)) x125000)) else (if ((rd_L6 x125000 x3).length : Int) > 50 then (some false) else (spec_IsValidStore.l0 k (wrap64 (x3 + 1)) x125000))) else (none)) else (some false))) else (none)) else (some ((x125000.length : Int) == 6))
def spec_IsValidStore.f (k : Nat) (l0_0 : List (List (S76))) : Option (Bool) := spec_IsValidStore.l0 k 0 l0_0
theorem spec_IsValidStore.mono_l : ∀ k, (∀ y0 y1, LeO (spec_IsValidStore.l0 k y0 y1) (spec_IsValidStore.l0 (k + 1) y0 y1))
 | 0 => fun _ _ r h => by simp [spec_IsValidStore.l0] at h
 | k + 1 => by
  have ih0 := spec_IsValidStore.mono_l k
  ·intro y0 y1
   unfold spec_IsValidStore.l0
   repeat' first
   | (with_reducible exact ih0 _ _)
   | (with_reducible exact spec_IsValidChain.mono _ _)
   | (with_reducible exact LeO.refl _)
   | (with_reducible exact LeO.none _)
   | (with_reducible refine LeO.ite ?_ ?_)
   | (with_reducible refine LeO.bind ?_ (fun _ => ?_))
   | exact ih0 _ _
   | exact spec_IsValidChain.mono _ _
   | exact LeO.none _
   | refine LeO.ite ?_ ?_
   | refine LeO.bind ?_ (fun _ => ?_)
theorem spec_IsValidStore.mono : ∀ a0 k, LeO (spec_IsValidStore.f k a0) (spec_IsValidStore.f (k + 1) a0) := by
 intro a0 k
 have ih0 := spec_IsValidStore.mono_l k
 unfold spec_IsValidStore.f
 repeat' first
   | (with_reducible exact ih0 _ _)
   | (with_reducible exact spec_IsValidChain.mono _ _)
   | (with_reducible exact LeO.refl _)
   | (with_reducible exact LeO.none _)
   | (with_reducible refine LeO.ite ?_ ?_)
   | (with_reducible refine LeO.bind ?_ (fun _ => ?_))
   | exact ih0 _ _
   | exact spec_IsValidChain.mono _ _
   | exact LeO.none _
   | refine LeO.ite ?_ ?_
   | refine LeO.bind ?_ (fun _ => ?_)
set_option maxHeartbeats 8000000 in
set_option maxRecDepth 100000 in
theorem spec_IsValidStore.calls (k : Nat) (A0_0 : Option Addr) (c0_0 : Nat) (l0_0 : List (List (S76))) (r : Bool) (w : World) (hr0_0 : Kd.C (Kd.slice 76 k76) w A0_0 l0_0.length l0_0) (hc0_0 : l0_0.length ≤ c0_0) (h : spec_IsValidStore.f k l0_0 = some r) :
  Calls Try.prog 140 #[.agg #[.slice A0_0 l0_0.length c0_0]] w fun e w' => e = .returned (.bool r) ∧ Below w.heap.size w w' := by
 have hu49 := Try.underlying49
 have HR0_0 := AM_ hr0_0
 have HC0_0 := AM_ hc0_0
 clear hr0_0 hc0_0
 have HB := AM_ (Below.refl w.heap.size w)
 have H : (spec_IsValidStore.l0 k 0 l0_0) = some r := h
 clear h
 have H' := AM_ H
 clear H
 go_enter Try.func140, Try.ntmps140
 go_wp2_with (first | ((with_reducible refine gate_dst (N := 1) rfl ?_); (try (refine gate_guard (by rfl) ?_; dsimp only)); refine box_event ?hg (N := 1) ?hd (cs := #[.slice A0_0 l0_0.length c0_0]) (t := 49) ?hr ?_; (case hd => rfl); (case hg => rfl); (case hr => first | (go_simp; done) | (go_simp; rfl)); intro gb124 hg w2 hbox hb; have BK124 := AM_ (hbox); have GW124 := AM_ ((GS HB.out hg)); have GE124 := AM_ ((GS HB.out hg)); replace HB := AM_ (below_step (BT HB.out) hb); clear hb hbox hg))
 go_loopg [3] k (fun kq v3 w' => ∃ (x3_1 : Int), v3 = .int .i64 x3_1 ∧ Aside0 (spec_IsValidStore.l0 kq x3_1 l0_0 = some r) ∧ Aside0 (kq ≤ k) ∧ Aside0 (w'.heap[gb124]? = some (.cells #[(.slice A0_0 l0_0.length c0_0)] 49 (0, 0))) ∧ Aside0 (Below w.heap.size w w'))
 case atStart => exact ⟨(0), (by first | rfl | (simp; done) | (simp [*]; done)), H', ⟨Nat.le_refl _⟩, ⟨BH BK124.out⟩, ⟨BT HB.out⟩⟩
 case round =>
  clear H'
  try clear c1
  try clear p2
  obtain ⟨x3_1, rfl, HA, HK1, BK124, HB⟩ := hrel
  cases gk with
  | zero => exact absurd HA.out (by simp [spec_IsValidStore.l0])
  | succ k1 =>
   have H := HA.out
   clear HA
   simp only [spec_IsValidStore.l0] at H
   by_cases c3 : x3_1 < (l0_0.length : Int)
   rotate_left
   ·rw [if_neg c3] at H
    have c3b0 : decide (x3_1 < (l0_0.length : Int)) = false := decide_eq_false c3
    clear c3
    obtain rfl := Option.some.inj H
    obtain ⟨hcz25_0, hfz25_0⟩ := bk1 BK124.out
    go_wp2
    go_ret
    exact QT (BT HB.out)
   rw [if_pos c3] at H
   have c3b0 : decide (x3_1 < (l0_0.length : Int)) = true := decide_eq_true c3
   clear c3
   by_cases c4 : 0 ≤ x3_1
   rotate_left
   ·rw [if_neg c4] at H
    exact absurd H (by simp)
   rw [if_pos c4] at H
   have c4b0 : decide (0 ≤ x3_1) = true := decide_eq_true c4
   clear c4
   replace H := Option.bind_eq_some_iff.mp H
   obtain ⟨t126, A50, H⟩ := H
   replace H : (if t126 = true then (if 0 < ((rd_L6 l0_0 x3_1).length : Int) then (if ((rd_T76 (rd_L6 l0_0 x3_1) 0).f2) > 0 then (if ((rd_L6 l0_0 x3_1).length : Int) > 50 then (some false) else (spec_IsValidStore.l0 k1 (wrap64 (x3_1 + 1)) l0_0)) else (if ((rd_L6 l0_0 x3_1).length : Int) > 50 then (some false) else (spec_IsValidStore.l0 k1 (wrap64 (x3_1 + 1)) l0_0))) else (none)) else (some false)) = some r := H
   have A5 := AM_ A50
   clear A50
   by_cases c6 : t126 = true
   rotate_left
   ·replace c6 := Bool.eq_false_iff.mpr c6
    subst c6
    have H1 : (some false) = some r := by rw [if_neg (show ¬ (false = true) by decide)] at H; exact H
    clear H
    have H := H1
    clear H1
    obtain rfl := Option.some.inj H
    obtain ⟨hcz23_0, hfz23_0⟩ := bk1 BK124.out
    have p125 : 0 ≤ (x3_1 : Int) := DT
    have q125 : x3_1 < (l0_0.length : Int) := DT
    obtain ⟨ad125, A125_0, c125_0, e125, hx125_0, hl125_0, hi125_0⟩ := at_L6 HR0_0.out x3_1 p125 q125
    cases e125
    replace hx125_0 := BC HB.out hx125_0
    have HR125_0 := AM_ hi125_0
    have HC125_0 := AM_ hl125_0
    clear hi125_0 hl125_0
    replace p125 := eq_true p125
    replace q125 := eq_true q125
    go_wp2_with (first | ((with_reducible refine gate_callee (f := 136) rfl ?_); refine goesL_ (some 16) rfl rfl Try.func136 (by kernel_rfl) rfl #[.slice A125_0 (rd_L6 l0_0 x3_1).length c125_0] rfl (by (try simp only [List.map_toArray, List.map_cons, List.map_nil]); first | done | rfl | (simp only [List.length_drop, List.length_take]; rfl)) ?_; (with_reducible refine (spec_IsValidChain.calls k1 _ _ (rd_L6 l0_0 x3_1) false _ ?side1 ?side2 A5.out).mono ?_); (case side1 => exact CB HR125_0.out HB.out); (case side2 => exact HC125_0.out); rintro e w24 ⟨rfl, hb⟩; refine ⟨_, rfl, ?_⟩; replace BK124 := AM_ (BB BK124.out hb); replace HB := AM_ (below_step (BT HB.out) hb); (try clear hb); (try clear hb2); (try clear hk); (try clear hi)))
    go_ret
    exact QT (BT HB.out)
   subst c6
   have H1 : (if 0 < ((rd_L6 l0_0 x3_1).length : Int) then (if ((rd_T76 (rd_L6 l0_0 x3_1) 0).f2) > 0 then (if ((rd_L6 l0_0 x3_1).length : Int) > 50 then (some false) else (spec_IsValidStore.l0 k1 (wrap64 (x3_1 + 1)) l0_0)) else (if ((rd_L6 l0_0 x3_1).length : Int) > 50 then (some false) else (spec_IsValidStore.l0 k1 (wrap64 (x3_1 + 1)) l0_0))) else (none)) = some r := by rw [if_pos rfl] at H; exact H
   clear H
   have H := H1
   clear H1
   by_cases c7 : 0 < ((rd_L6 l0_0 x3_1).length : Int)
   rotate_left
   ·rw [if_neg c7] at H
    exact absurd H (by simp)
   rw [if_pos c7] at H
   have c7b0 : decide (0 < ((rd_L6 l0_0 x3_1).length : Int)) = true := decide_eq_true c7
   have c7b1 : decide (0 < (rd_L6 l0_0 x3_1).length) = true := decide_eq_true (by omega)
   clear c7
   by_cases c8 : ((rd_T76 (rd_L6 l0_0 x3_1) 0).f2) > 0
   rotate_left
   ·rw [if_neg c8] at H
    have c8b0 : decide (0 < ((rd_T76 (rd_L6 l0_0 x3_1) 0).f2)) = false := decide_eq_false c8
    clear c8
    by_cases c16 : ((rd_L6 l0_0 x3_1).length : Int) > 50
    ·rw [if_pos c16] at H
     have c16b0 : decide (50 < ((rd_L6 l0_0 x3_1).length : Int)) = true := decide_eq_true c16
     have c16b1 : decide (50 < (rd_L6 l0_0 x3_1).length) = true := decide_eq_true (by omega)
     clear c16
     obtain rfl := Option.some.inj H
     obtain ⟨hcz17_0, hfz17_0⟩ := bk1 BK124.out
     have p125 : 0 ≤ (x3_1 : Int) := DT
     have q125 : x3_1 < (l0_0.length : Int) := DT
     obtain ⟨ad125, A125_0, c125_0, e125, hx125_0, hl125_0, hi125_0⟩ := at_L6 HR0_0.out x3_1 p125 q125
     cases e125
     replace hx125_0 := BC HB.out hx125_0
     have HR125_0 := AM_ hi125_0
     have HC125_0 := AM_ hl125_0
     clear hi125_0 hl125_0
     replace p125 := eq_true p125
     replace q125 := eq_true q125
     go_wp2_with (first | ((with_reducible refine gate_callee (f := 136) rfl ?_); refine goesL_ (some 16) rfl rfl Try.func136 (by kernel_rfl) rfl #[.slice A125_0 (rd_L6 l0_0 x3_1).length c125_0] rfl (by (try simp only [List.map_toArray, List.map_cons, List.map_nil]); first | done | rfl | (simp only [List.length_drop, List.length_take]; rfl)) ?_; (with_reducible refine (spec_IsValidChain.calls k1 _ _ (rd_L6 l0_0 x3_1) true _ ?side1 ?side2 A5.out).mono ?_); (case side1 => exact CB HR125_0.out HB.out); (case side2 => exact HC125_0.out); rintro e w18 ⟨rfl, hb⟩; refine ⟨_, rfl, ?_⟩; replace BK124 := AM_ (BB BK124.out hb); replace HB := AM_ (below_step (BT HB.out) hb); (try clear hb); (try clear hb2); (try clear hk); (try clear hi); obtain ⟨hcz19_0, hfz19_0⟩ := bk1 BK124.out; have p127 : 0 ≤ (x3_1 : Int) := DT; have q127 : x3_1 < (l0_0.length : Int) := DT; obtain ⟨ad127, A127_0, c127_0, e127, hx127_0, hl127_0, hi127_0⟩ := at_L6 HR0_0.out x3_1 p127 q127; obtain rfl : ad125 = ad127 := (by injection e127); replace hx127_0 := BD HB.out hx127_0; have HR127_0 := AM_ hi127_0; have HC127_0 := AM_ hl127_0; clear hi127_0 hl127_0; replace p127 := eq_true p127; replace q127 := eq_true q127; have p128 : 0 ≤ (0 : Int) := (by omega); have q128 : 0 < ((rd_L6 l0_0 x3_1).length : Int) := DT; obtain ⟨ad128, e128, hx128_0, hx128_1, hx128_2, hx128_3, hx128_4⟩ := at_T76 HR127_0.out 0 p128 q128; cases e128; have qi128 : (0 < (rd_L6 l0_0 x3_1).length) = True := eq_true (by omega); (try rw [show ((0 : Int)).toNat = 0 from rfl] at hx128_0); (try rw [show 0 * 5 = 0 from rfl] at hx128_0); (try rw [Addr.add_zero'] at hx128_0); (try rw [show ((0 : Int)).toNat = 0 from rfl] at hx128_1); (try rw [show 0 * 5 = 0 from rfl] at hx128_1); (try rw [Addr.add_zero'] at hx128_1); (try rw [show ((0 : Int)).toNat = 0 from rfl] at hx128_2); (try rw [show 0 * 5 = 0 from rfl] at hx128_2); (try rw [Addr.add_zero'] at hx128_2); (try rw [show ((0 : Int)).toNat = 0 from rfl] at hx128_3); (try rw [show 0 * 5 = 0 from rfl] at hx128_3); (try rw [Addr.add_zero'] at hx128_3); (try rw [show ((0 : Int)).toNat = 0 from rfl] at hx128_4); (try rw [show 0 * 5 = 0 from rfl] at hx128_4); (try rw [Addr.add_zero'] at hx128_4); replace hx128_0 := BD HB.out hx128_0; replace hx128_1 := BD HB.out hx128_1; replace hx128_2 := BD HB.out hx128_2; replace hx128_3 := BD HB.out hx128_3; replace hx128_4 := BD HB.out hx128_4; replace p128 := eq_true p128; replace q128 := eq_true q128; have p131 : 0 ≤ (x3_1 : Int) := DT; have q131 : x3_1 < (l0_0.length : Int) := DT; obtain ⟨ad131, A131_0, c131_0, e131, hx131_0, hl131_0, hi131_0⟩ := at_L6 HR0_0.out x3_1 p131 q131; obtain rfl : ad125 = ad131 := (by injection e131); replace hx131_0 := BD HB.out hx131_0; have HR131_0 := AM_ hi131_0; have HC131_0 := AM_ hl131_0; clear hi131_0 hl131_0; replace p131 := eq_true p131; replace q131 := eq_true q131; have ea_ := Option.some.inj (hx127_0.symm.trans hx131_0); injection ea_ with ea_ en_ ec_; subst ea_; subst ec_; clear en_))
     go_ret
     exact QT (BT HB.out)
    rw [if_neg c16] at H
    have c16b0 : decide (50 < ((rd_L6 l0_0 x3_1).length : Int)) = false := decide_eq_false c16
    have c16b1 : decide (50 < (rd_L6 l0_0 x3_1).length) = false := decide_eq_false (by omega)
    clear c16
    have H' := AM_ H
    clear H
    obtain ⟨hcz20_0, hfz20_0⟩ := bk1 BK124.out
    have p125 : 0 ≤ (x3_1 : Int) := DT
    have q125 : x3_1 < (l0_0.length : Int) := DT
    obtain ⟨ad125, A125_0, c125_0, e125, hx125_0, hl125_0, hi125_0⟩ := at_L6 HR0_0.out x3_1 p125 q125
    cases e125
    replace hx125_0 := BC HB.out hx125_0
    have HR125_0 := AM_ hi125_0
    have HC125_0 := AM_ hl125_0
    clear hi125_0 hl125_0
    replace p125 := eq_true p125
    replace q125 := eq_true q125
    go_wp2_with (first | ((with_reducible refine gate_callee (f := 136) rfl ?_); refine goesL_ (some 16) rfl rfl Try.func136 (by kernel_rfl) rfl #[.slice A125_0 (rd_L6 l0_0 x3_1).length c125_0] rfl (by (try simp only [List.map_toArray, List.map_cons, List.map_nil]); first | done | rfl | (simp only [List.length_drop, List.length_take]; rfl)) ?_; (with_reducible refine (spec_IsValidChain.calls k1 _ _ (rd_L6 l0_0 x3_1) true _ ?side1 ?side2 A5.out).mono ?_); (case side1 => exact CB HR125_0.out HB.out); (case side2 => exact HC125_0.out); rintro e w21 ⟨rfl, hb⟩; refine ⟨_, rfl, ?_⟩; replace BK124 := AM_ (BB BK124.out hb); replace HB := AM_ (below_step (BT HB.out) hb); (try clear hb); (try clear hb2); (try clear hk); (try clear hi); obtain ⟨hcz22_0, hfz22_0⟩ := bk1 BK124.out; have p127 : 0 ≤ (x3_1 : Int) := DT; have q127 : x3_1 < (l0_0.length : Int) := DT; obtain ⟨ad127, A127_0, c127_0, e127, hx127_0, hl127_0, hi127_0⟩ := at_L6 HR0_0.out x3_1 p127 q127; obtain rfl : ad125 = ad127 := (by injection e127); replace hx127_0 := BD HB.out hx127_0; have HR127_0 := AM_ hi127_0; have HC127_0 := AM_ hl127_0; clear hi127_0 hl127_0; replace p127 := eq_true p127; replace q127 := eq_true q127; have p128 : 0 ≤ (0 : Int) := (by omega); have q128 : 0 < ((rd_L6 l0_0 x3_1).length : Int) := DT; obtain ⟨ad128, e128, hx128_0, hx128_1, hx128_2, hx128_3, hx128_4⟩ := at_T76 HR127_0.out 0 p128 q128; cases e128; have qi128 : (0 < (rd_L6 l0_0 x3_1).length) = True := eq_true (by omega); (try rw [show ((0 : Int)).toNat = 0 from rfl] at hx128_0); (try rw [show 0 * 5 = 0 from rfl] at hx128_0); (try rw [Addr.add_zero'] at hx128_0); (try rw [show ((0 : Int)).toNat = 0 from rfl] at hx128_1); (try rw [show 0 * 5 = 0 from rfl] at hx128_1); (try rw [Addr.add_zero'] at hx128_1); (try rw [show ((0 : Int)).toNat = 0 from rfl] at hx128_2); (try rw [show 0 * 5 = 0 from rfl] at hx128_2); (try rw [Addr.add_zero'] at hx128_2); (try rw [show ((0 : Int)).toNat = 0 from rfl] at hx128_3); (try rw [show 0 * 5 = 0 from rfl] at hx128_3); (try rw [Addr.add_zero'] at hx128_3); (try rw [show ((0 : Int)).toNat = 0 from rfl] at hx128_4); (try rw [show 0 * 5 = 0 from rfl] at hx128_4); (try rw [Addr.add_zero'] at hx128_4); replace hx128_0 := BD HB.out hx128_0; replace hx128_1 := BD HB.out hx128_1; replace hx128_2 := BD HB.out hx128_2; replace hx128_3 := BD HB.out hx128_3; replace hx128_4 := BD HB.out hx128_4; replace p128 := eq_true p128; replace q128 := eq_true q128; have p131 : 0 ≤ (x3_1 : Int) := DT; have q131 : x3_1 < (l0_0.length : Int) := DT; obtain ⟨ad131, A131_0, c131_0, e131, hx131_0, hl131_0, hi131_0⟩ := at_L6 HR0_0.out x3_1 p131 q131; obtain rfl : ad125 = ad131 := (by injection e131); replace hx131_0 := BD HB.out hx131_0; have HR131_0 := AM_ hi131_0; have HC131_0 := AM_ hl131_0; clear hi131_0 hl131_0; replace p131 := eq_true p131; replace q131 := eq_true q131; have ea_ := Option.some.inj (hx127_0.symm.trans hx131_0); injection ea_ with ea_ en_ ec_; subst ea_; subst ec_; clear en_))
    go_roundg k1
    case measure => have := HK1.out; omega
    case rel => exact ⟨(wrap64 (x3_1 + 1)), (by first | rfl | (simp; done) | (simp [*]; done)), H', ⟨by have := HK1.out; omega⟩, ⟨BH BK124.out⟩, ⟨BT HB.out⟩⟩
   rw [if_pos c8] at H
   have c8b0 : decide (0 < ((rd_T76 (rd_L6 l0_0 x3_1) 0).f2)) = true := decide_eq_true c8
   clear c8
   by_cases c9 : ((rd_L6 l0_0 x3_1).length : Int) > 50
   ·rw [if_pos c9] at H
    have c9b0 : decide (50 < ((rd_L6 l0_0 x3_1).length : Int)) = true := decide_eq_true c9
    have c9b1 : decide (50 < (rd_L6 l0_0 x3_1).length) = true := decide_eq_true (by omega)
    clear c9
    obtain rfl := Option.some.inj H
    obtain ⟨hcz10_0, hfz10_0⟩ := bk1 BK124.out
    have p125 : 0 ≤ (x3_1 : Int) := DT
    have q125 : x3_1 < (l0_0.length : Int) := DT
    obtain ⟨ad125, A125_0, c125_0, e125, hx125_0, hl125_0, hi125_0⟩ := at_L6 HR0_0.out x3_1 p125 q125
    cases e125
    replace hx125_0 := BC HB.out hx125_0
    have HR125_0 := AM_ hi125_0
    have HC125_0 := AM_ hl125_0
    clear hi125_0 hl125_0
    replace p125 := eq_true p125
    replace q125 := eq_true q125
    go_wp2_with (first | ((with_reducible refine gate_callee (f := 136) rfl ?_); refine goesL_ (some 16) rfl rfl Try.func136 (by kernel_rfl) rfl #[.slice A125_0 (rd_L6 l0_0 x3_1).length c125_0] rfl (by (try simp only [List.map_toArray, List.map_cons, List.map_nil]); first | done | rfl | (simp only [List.length_drop, List.length_take]; rfl)) ?_; (with_reducible refine (spec_IsValidChain.calls k1 _ _ (rd_L6 l0_0 x3_1) true _ ?side1 ?side2 A5.out).mono ?_); (case side1 => exact CB HR125_0.out HB.out); (case side2 => exact HC125_0.out); rintro e w11 ⟨rfl, hb⟩; refine ⟨_, rfl, ?_⟩; replace BK124 := AM_ (BB BK124.out hb); replace HB := AM_ (below_step (BT HB.out) hb); (try clear hb); (try clear hb2); (try clear hk); (try clear hi); obtain ⟨hcz12_0, hfz12_0⟩ := bk1 BK124.out; have p127 : 0 ≤ (x3_1 : Int) := DT; have q127 : x3_1 < (l0_0.length : Int) := DT; obtain ⟨ad127, A127_0, c127_0, e127, hx127_0, hl127_0, hi127_0⟩ := at_L6 HR0_0.out x3_1 p127 q127; obtain rfl : ad125 = ad127 := (by injection e127); replace hx127_0 := BD HB.out hx127_0; have HR127_0 := AM_ hi127_0; have HC127_0 := AM_ hl127_0; clear hi127_0 hl127_0; replace p127 := eq_true p127; replace q127 := eq_true q127; have p128 : 0 ≤ (0 : Int) := (by omega); have q128 : 0 < ((rd_L6 l0_0 x3_1).length : Int) := DT; obtain ⟨ad128, e128, hx128_0, hx128_1, hx128_2, hx128_3, hx128_4⟩ := at_T76 HR127_0.out 0 p128 q128; cases e128; have qi128 : (0 < (rd_L6 l0_0 x3_1).length) = True := eq_true (by omega); (try rw [show ((0 : Int)).toNat = 0 from rfl] at hx128_0); (try rw [show 0 * 5 = 0 from rfl] at hx128_0); (try rw [Addr.add_zero'] at hx128_0); (try rw [show ((0 : Int)).toNat = 0 from rfl] at hx128_1); (try rw [show 0 * 5 = 0 from rfl] at hx128_1); (try rw [Addr.add_zero'] at hx128_1); (try rw [show ((0 : Int)).toNat = 0 from rfl] at hx128_2); (try rw [show 0 * 5 = 0 from rfl] at hx128_2); (try rw [Addr.add_zero'] at hx128_2); (try rw [show ((0 : Int)).toNat = 0 from rfl] at hx128_3); (try rw [show 0 * 5 = 0 from rfl] at hx128_3); (try rw [Addr.add_zero'] at hx128_3); (try rw [show ((0 : Int)).toNat = 0 from rfl] at hx128_4); (try rw [show 0 * 5 = 0 from rfl] at hx128_4); (try rw [Addr.add_zero'] at hx128_4); replace hx128_0 := BD HB.out hx128_0; replace hx128_1 := BD HB.out hx128_1; replace hx128_2 := BD HB.out hx128_2; replace hx128_3 := BD HB.out hx128_3; replace hx128_4 := BD HB.out hx128_4; replace p128 := eq_true p128; replace q128 := eq_true q128; have p129 : 0 ≤ (x3_1 : Int) := DT; have q129 : x3_1 < (l0_0.length : Int) := DT; obtain ⟨ad129, A129_0, c129_0, e129, hx129_0, hl129_0, hi129_0⟩ := at_L6 HR0_0.out x3_1 p129 q129; obtain rfl : ad125 = ad129 := (by injection e129); replace hx129_0 := BD HB.out hx129_0; have HR129_0 := AM_ hi129_0; have HC129_0 := AM_ hl129_0; clear hi129_0 hl129_0; replace p129 := eq_true p129; replace q129 := eq_true q129; have ea_ := Option.some.inj (hx127_0.symm.trans hx129_0); injection ea_ with ea_ en_ ec_; subst ea_; subst ec_; clear en_))
    go_ret
    exact QT (BT HB.out)
   rw [if_neg c9] at H
   have c9b0 : decide (50 < ((rd_L6 l0_0 x3_1).length : Int)) = false := decide_eq_false c9
   have c9b1 : decide (50 < (rd_L6 l0_0 x3_1).length) = false := decide_eq_false (by omega)
   clear c9
   have H' := AM_ H
   clear H
   obtain ⟨hcz13_0, hfz13_0⟩ := bk1 BK124.out
   have p125 : 0 ≤ (x3_1 : Int) := DT
   have q125 : x3_1 < (l0_0.length : Int) := DT
   obtain ⟨ad125, A125_0, c125_0, e125, hx125_0, hl125_0, hi125_0⟩ := at_L6 HR0_0.out x3_1 p125 q125
   cases e125
   replace hx125_0 := BC HB.out hx125_0
   have HR125_0 := AM_ hi125_0
   have HC125_0 := AM_ hl125_0
   clear hi125_0 hl125_0
   replace p125 := eq_true p125
   replace q125 := eq_true q125
   go_wp2_with (first | ((with_reducible refine gate_callee (f := 136) rfl ?_); refine goesL_ (some 16) rfl rfl Try.func136 (by kernel_rfl) rfl #[.slice A125_0 (rd_L6 l0_0 x3_1).length c125_0] rfl (by (try simp only [List.map_toArray, List.map_cons, List.map_nil]); first | done | rfl | (simp only [List.length_drop, List.length_take]; rfl)) ?_; (with_reducible refine (spec_IsValidChain.calls k1 _ _ (rd_L6 l0_0 x3_1) true _ ?side1 ?side2 A5.out).mono ?_); (case side1 => exact CB HR125_0.out HB.out); (case side2 => exact HC125_0.out); rintro e w14 ⟨rfl, hb⟩; refine ⟨_, rfl, ?_⟩; replace BK124 := AM_ (BB BK124.out hb); replace HB := AM_ (below_step (BT HB.out) hb); (try clear hb); (try clear hb2); (try clear hk); (try clear hi); obtain ⟨hcz15_0, hfz15_0⟩ := bk1 BK124.out; have p127 : 0 ≤ (x3_1 : Int) := DT; have q127 : x3_1 < (l0_0.length : Int) := DT; obtain ⟨ad127, A127_0, c127_0, e127, hx127_0, hl127_0, hi127_0⟩ := at_L6 HR0_0.out x3_1 p127 q127; obtain rfl : ad125 = ad127 := (by injection e127); replace hx127_0 := BD HB.out hx127_0; have HR127_0 := AM_ hi127_0; have HC127_0 := AM_ hl127_0; clear hi127_0 hl127_0; replace p127 := eq_true p127; replace q127 := eq_true q127; have p128 : 0 ≤ (0 : Int) := (by omega); have q128 : 0 < ((rd_L6 l0_0 x3_1).length : Int) := DT; obtain ⟨ad128, e128, hx128_0, hx128_1, hx128_2, hx128_3, hx128_4⟩ := at_T76 HR127_0.out 0 p128 q128; cases e128; have qi128 : (0 < (rd_L6 l0_0 x3_1).length) = True := eq_true (by omega); (try rw [show ((0 : Int)).toNat = 0 from rfl] at hx128_0); (try rw [show 0 * 5 = 0 from rfl] at hx128_0); (try rw [Addr.add_zero'] at hx128_0); (try rw [show ((0 : Int)).toNat = 0 from rfl] at hx128_1); (try rw [show 0 * 5 = 0 from rfl] at hx128_1); (try rw [Addr.add_zero'] at hx128_1); (try rw [show ((0 : Int)).toNat = 0 from rfl] at hx128_2); (try rw [show 0 * 5 = 0 from rfl] at hx128_2); (try rw [Addr.add_zero'] at hx128_2); (try rw [show ((0 : Int)).toNat = 0 from rfl] at hx128_3); (try rw [show 0 * 5 = 0 from rfl] at hx128_3); (try rw [Addr.add_zero'] at hx128_3); (try rw [show ((0 : Int)).toNat = 0 from rfl] at hx128_4); (try rw [show 0 * 5 = 0 from rfl] at hx128_4); (try rw [Addr.add_zero'] at hx128_4); replace hx128_0 := BD HB.out hx128_0; replace hx128_1 := BD HB.out hx128_1; replace hx128_2 := BD HB.out hx128_2; replace hx128_3 := BD HB.out hx128_3; replace hx128_4 := BD HB.out hx128_4; replace p128 := eq_true p128; replace q128 := eq_true q128; have p129 : 0 ≤ (x3_1 : Int) := DT; have q129 : x3_1 < (l0_0.length : Int) := DT; obtain ⟨ad129, A129_0, c129_0, e129, hx129_0, hl129_0, hi129_0⟩ := at_L6 HR0_0.out x3_1 p129 q129; obtain rfl : ad125 = ad129 := (by injection e129); replace hx129_0 := BD HB.out hx129_0; have HR129_0 := AM_ hi129_0; have HC129_0 := AM_ hl129_0; clear hi129_0 hl129_0; replace p129 := eq_true p129; replace q129 := eq_true q129; have ea_ := Option.some.inj (hx127_0.symm.trans hx129_0); injection ea_ with ea_ en_ ec_; subst ea_; subst ec_; clear en_; have p130 : 0 ≤ (x3_1 : Int) := DT; have q130 : x3_1 < (l0_0.length : Int) := DT; obtain ⟨ad130, A130_0, c130_0, e130, hx130_0, hl130_0, hi130_0⟩ := at_L6 HR0_0.out x3_1 p130 q130; obtain rfl : ad125 = ad130 := (by injection e130); replace hx130_0 := BD HB.out hx130_0; have HR130_0 := AM_ hi130_0; have HC130_0 := AM_ hl130_0; clear hi130_0 hl130_0; replace p130 := eq_true p130; replace q130 := eq_true q130; have ea_ := Option.some.inj (hx127_0.symm.trans hx130_0); injection ea_ with ea_ en_ ec_; subst ea_; subst ec_; clear en_))
   go_roundg k1
   case measure => have := HK1.out; omega
   case rel => exact ⟨(wrap64 (x3_1 + 1)), (by first | rfl | (simp; done) | (simp [*]; done)), H', ⟨by have := HK1.out; omega⟩, ⟨BH BK124.out⟩, ⟨BT HB.out⟩⟩

/-! ### spec_l5Before: function 196 -/
def spec_l5Before.f (a0_0 : Int) (a0_1 : Int) (a1_0 : Int) (a1_1 : Int) : Option (Bool) := if a0_0 < a1_0 then (some true) else (if a0_0 = a1_0 then (some (decide (a0_1 < a1_1))) else (some false))
set_option maxHeartbeats 8000000 in
set_option maxRecDepth 100000 in
theorem spec_l5Before.calls (a0_0 : Int) (a0_1 : Int) (a1_0 : Int) (a1_1 : Int) (r : Bool) (w : World) (h : spec_l5Before.f a0_0 a0_1 a1_0 a1_1 = some r) :
  Calls Try.prog 196 #[.agg #[.int .i64 a0_0, .int .i64 a0_1], .agg #[.int .i64 a1_0, .int .i64 a1_1]] w fun e w' => e = .returned (.bool r) ∧ Below w.heap.size w w' := by
 have hu165 := Try.underlying165
 have HB := AM_ (Below.refl w.heap.size w)
 have H : (if a0_0 < a1_0 then (some true) else (if a0_0 = a1_0 then (some (decide (a0_1 < a1_1))) else (some false))) = some r := h
 clear h
 by_cases c3 : a0_0 < a1_0
 ·rw [if_pos c3] at H
  have c3b0 : decide (a0_0 < a1_0) = true := decide_eq_true c3
  clear c3
  obtain rfl := Option.some.inj H
  go_enter Try.func196, Try.ntmps196
  go_wp2_with (first | ((with_reducible refine gate_dst (N := 2) rfl ?_); refine box_event ?hg (N := 2) ?hd (cs := #[.int .i64 a0_0, .int .i64 a0_1]) (t := 165) ?hr ?_; (case hd => rfl); (case hg => rfl); (case hr => first | (go_simp; done) | (go_simp; rfl)); intro gb132 hg w4 hbox hb; have BK132 := AM_ (hbox); have GW132 := AM_ ((GS HB.out hg)); have GE132 := AM_ ((GS HB.out hg)); replace HB := AM_ (below_step (BT HB.out) hb); clear hb hbox hg) | ((with_reducible refine gate_dst (N := 3) rfl ?_); refine box_event ?hg (N := 3) ?hd (cs := #[.int .i64 a1_0, .int .i64 a1_1]) (t := 165) ?hr ?_; (case hd => rfl); (case hg => rfl); (case hr => first | (go_simp; done) | (go_simp; rfl)); intro gb133 hg w5 hbox hb; have BK133 := AM_ (hbox); have GW133 := AM_ ((GS HB.out hg)); have GE133 := AM_ ((GS HB.out hg)); replace HB := AM_ (below_step (BT HB.out) hb); have NB132_133 := AM_ ((NL BK132.out hg)); have NB133_132 := AM_ ((NG BK132.out hg)); replace BK132 := AM_ (BB BK132.out hb); clear hb hbox hg; have hnb6 := NB132_133.out; have hnc6 := NB133_132.out; obtain ⟨hcz7_0, hcz7_1, hfz7_0, hfz7_1⟩ := bk2 BK132.out; obtain ⟨hcz8_0, hcz8_1, hfz8_0, hfz8_1⟩ := bk2 BK133.out))
  go_ret
  exact QT (BT HB.out)
 rw [if_neg c3] at H
 have c3b0 : decide (a0_0 < a1_0) = false := decide_eq_false c3
 clear c3
 by_cases c9 : a0_0 = a1_0
 rotate_left
 ·rw [if_neg c9] at H
  have c9b0 : (a0_0 == a1_0) = false := beq_eq_false_iff_ne.mpr c9
  have c9b1 : (a0_0 != a1_0) = true := bne_iff_ne.mpr c9
  obtain rfl := Option.some.inj H
  go_enter Try.func196, Try.ntmps196
  go_wp2_with (first | ((with_reducible refine gate_dst (N := 2) rfl ?_); refine box_event ?hg (N := 2) ?hd (cs := #[.int .i64 a0_0, .int .i64 a0_1]) (t := 165) ?hr ?_; (case hd => rfl); (case hg => rfl); (case hr => first | (go_simp; done) | (go_simp; rfl)); intro gb132 hg w15 hbox hb; have BK132 := AM_ (hbox); have GW132 := AM_ ((GS HB.out hg)); have GE132 := AM_ ((GS HB.out hg)); replace HB := AM_ (below_step (BT HB.out) hb); clear hb hbox hg) | ((with_reducible refine gate_dst (N := 3) rfl ?_); refine box_event ?hg (N := 3) ?hd (cs := #[.int .i64 a1_0, .int .i64 a1_1]) (t := 165) ?hr ?_; (case hd => rfl); (case hg => rfl); (case hr => first | (go_simp; done) | (go_simp; rfl)); intro gb133 hg w16 hbox hb; have BK133 := AM_ (hbox); have GW133 := AM_ ((GS HB.out hg)); have GE133 := AM_ ((GS HB.out hg)); replace HB := AM_ (below_step (BT HB.out) hb); have NB132_133 := AM_ ((NL BK132.out hg)); have NB133_132 := AM_ ((NG BK132.out hg)); replace BK132 := AM_ (BB BK132.out hb); clear hb hbox hg; have hnb17 := NB132_133.out; have hnc17 := NB133_132.out; obtain ⟨hcz18_0, hcz18_1, hfz18_0, hfz18_1⟩ := bk2 BK132.out; obtain ⟨hcz19_0, hcz19_1, hfz19_0, hfz19_1⟩ := bk2 BK133.out))
  go_ret
  exact QT (BT HB.out)
 rw [if_pos c9] at H
 have c9b0 : (a0_0 == a1_0) = true := beq_iff_eq.mpr c9
 have c9b1 : (a0_0 != a1_0) = false := bne_eq_false_iff_eq.mpr c9
 clear c9
 obtain rfl := Option.some.inj H
 go_enter Try.func196, Try.ntmps196
 go_wp2_with (first | ((with_reducible refine gate_dst (N := 2) rfl ?_); refine box_event ?hg (N := 2) ?hd (cs := #[.int .i64 a0_0, .int .i64 a0_1]) (t := 165) ?hr ?_; (case hd => rfl); (case hg => rfl); (case hr => first | (go_simp; done) | (go_simp; rfl)); intro gb132 hg w10 hbox hb; have BK132 := AM_ (hbox); have GW132 := AM_ ((GS HB.out hg)); have GE132 := AM_ ((GS HB.out hg)); replace HB := AM_ (below_step (BT HB.out) hb); clear hb hbox hg) | ((with_reducible refine gate_dst (N := 3) rfl ?_); refine box_event ?hg (N := 3) ?hd (cs := #[.int .i64 a1_0, .int .i64 a1_1]) (t := 165) ?hr ?_; (case hd => rfl); (case hg => rfl); (case hr => first | (go_simp; done) | (go_simp; rfl)); intro gb133 hg w11 hbox hb; have BK133 := AM_ (hbox); have GW133 := AM_ ((GS HB.out hg)); have GE133 := AM_ ((GS HB.out hg)); replace HB := AM_ (below_step (BT HB.out) hb); have NB132_133 := AM_ ((NL BK132.out hg)); have NB133_132 := AM_ ((NG BK132.out hg)); replace BK132 := AM_ (BB BK132.out hb); clear hb hbox hg; have hnb12 := NB132_133.out; have hnc12 := NB133_132.out; obtain ⟨hcz13_0, hcz13_1, hfz13_0, hfz13_1⟩ := bk2 BK132.out; obtain ⟨hcz14_0, hcz14_1, hfz14_0, hfz14_1⟩ := bk2 BK133.out))
 go_ret
 exact QT (BT HB.out)

end Go.Proofs.Ytakpkmlbklahhaa.PFnExactCommitCode
