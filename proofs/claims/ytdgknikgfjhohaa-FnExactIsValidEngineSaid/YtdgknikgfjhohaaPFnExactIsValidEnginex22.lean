-- Printed by wip/myprint.py.
import Derived.Test.YtdgknikgfjhohaaPFnExactIsValidEnginex0
namespace Go.Proofs.Ytdgknikgfjhohaa.PFnExactIsValidEngine
open Go.RowKit Go.Proofs.YtdgknikgfjhohaaW.PrintWords Go.Proofs.YtdgknikgfjhohaaW.PrintLast Go.Proofs.YtdgknikgfjhohaaW.PrintMore
set_option maxHeartbeats 8000000
set_option maxRecDepth 100000
set_option linter.unusedVariables false
set_option linter.unusedSimpArgs false

/-! ### laws_eqVersion: function 134 -/
def laws_eqVersion.f (a0_0 : Int) (a0_1 : Int) (a0_2 : Int) (a0_3 : Int) (a0_4 : Int) (a1_0 : Int) (a1_1 : Int) (a1_2 : Int) (a1_3 : Int) (a1_4 : Int) : Option (Bool) := if a0_0 = a1_0 then (if a0_1 = a1_1 then (if a0_2 = a1_2 then (if a0_3 = a1_3 then (if a0_4 = a1_4 then (some true) else (some false)) else (some false)) else (some false)) else (some false)) else (some false)
theorem laws_eqVersion.calls (a0_0 : Int) (a0_1 : Int) (a0_2 : Int) (a0_3 : Int) (a0_4 : Int) (a1_0 : Int) (a1_1 : Int) (a1_2 : Int) (a1_3 : Int) (a1_4 : Int) (r : Bool) (w : World) (h : laws_eqVersion.f a0_0 a0_1 a0_2 a0_3 a0_4 a1_0 a1_1 a1_2 a1_3 a1_4 = some r) :
  Calls Try.prog 134 #[.agg #[.int .i64 a0_0, .int .i64 a0_1, .int .i64 a0_2, .int .i64 a0_3, .int .i64 a0_4], .agg #[.int .i64 a1_0, .int .i64 a1_1, .int .i64 a1_2, .int .i64 a1_3, .int .i64 a1_4]] w fun e w' => e = .returned (.bool r) ∧ Below w.heap.size w w' := by
 have hu52 := Try.underlying52
 have HB := AM_ (Below.refl w.heap.size w)
 unfold laws_eqVersion.f at h
 have H := h
 clear h
 by_cases c3 : a0_0 = a1_0
 rotate_left
 ·rw [if_neg c3] at H
  have c3b0 : (a0_0 == a1_0) = false := beq_eq_false_iff_ne.mpr c3
  have c3b1 : (a0_0 != a1_0) = true := bne_iff_ne.mpr c3
  obtain rfl := Option.some.inj H
  go_enter Try.func134, Try.ntmps134
  go_wp2_with (first | ((with_reducible refine G2 2 rfl ?_); refine BY 2 #[.int .i64 a0_0, .int .i64 a0_1, .int .i64 a0_2, .int .i64 a0_3, .int .i64 a0_4] 52 HB ?_; clear HB; intro gb433 w33 BK433 GW433 HB) | ((with_reducible refine G2 3 rfl ?_); refine BZ 3 #[.int .i64 a1_0, .int .i64 a1_1, .int .i64 a1_2, .int .i64 a1_3, .int .i64 a1_4] 52 HB ?_; clear HB; intro gb434 w34 hg hb BK434 GW434 HB; have NB433_434 := NP BK433 hg; have NB434_433 := NQ BK433 hg; replace BK433 := BV BK433 hb; clear hb hg; have hnb35 := NB433_434.out; have hnc35 := NB434_433.out; obtain ⟨hcz36_0, hcz36_1, hcz36_2, hcz36_3, hcz36_4, hfz36_0, hfz36_1, hfz36_2, hfz36_3, hfz36_4⟩ := bk5 BK433.out; obtain ⟨hcz37_0, hcz37_1, hcz37_2, hcz37_3, hcz37_4, hfz37_0, hfz37_1, hfz37_2, hfz37_3, hfz37_4⟩ := bk5 BK434.out))
  go_ret
  exact QT (BT HB.out)
 rw [if_pos c3] at H
 have c3b0 : (a0_0 == a1_0) = true := beq_iff_eq.mpr c3
 have c3b1 : (a0_0 != a1_0) = false := bne_eq_false_iff_eq.mpr c3
 clear c3
 by_cases c4 : a0_1 = a1_1
 rotate_left
 ·rw [if_neg c4] at H
  have c4b0 : (a0_1 == a1_1) = false := beq_eq_false_iff_ne.mpr c4
  have c4b1 : (a0_1 != a1_1) = true := bne_iff_ne.mpr c4
  obtain rfl := Option.some.inj H
  go_enter Try.func134, Try.ntmps134
  go_wp2_with (first | ((with_reducible refine G2 2 rfl ?_); refine BY 2 #[.int .i64 a0_0, .int .i64 a0_1, .int .i64 a0_2, .int .i64 a0_3, .int .i64 a0_4] 52 HB ?_; clear HB; intro gb433 w28 BK433 GW433 HB) | ((with_reducible refine G2 3 rfl ?_); refine BZ 3 #[.int .i64 a1_0, .int .i64 a1_1, .int .i64 a1_2, .int .i64 a1_3, .int .i64 a1_4] 52 HB ?_; clear HB; intro gb434 w29 hg hb BK434 GW434 HB; have NB433_434 := NP BK433 hg; have NB434_433 := NQ BK433 hg; replace BK433 := BV BK433 hb; clear hb hg; have hnb30 := NB433_434.out; have hnc30 := NB434_433.out; obtain ⟨hcz31_0, hcz31_1, hcz31_2, hcz31_3, hcz31_4, hfz31_0, hfz31_1, hfz31_2, hfz31_3, hfz31_4⟩ := bk5 BK433.out; obtain ⟨hcz32_0, hcz32_1, hcz32_2, hcz32_3, hcz32_4, hfz32_0, hfz32_1, hfz32_2, hfz32_3, hfz32_4⟩ := bk5 BK434.out))
  go_ret
  exact QT (BT HB.out)
 rw [if_pos c4] at H
 have c4b0 : (a0_1 == a1_1) = true := beq_iff_eq.mpr c4
 have c4b1 : (a0_1 != a1_1) = false := bne_eq_false_iff_eq.mpr c4
 clear c4
 by_cases c5 : a0_2 = a1_2
 rotate_left
 ·rw [if_neg c5] at H
  have c5b0 : (a0_2 == a1_2) = false := beq_eq_false_iff_ne.mpr c5
  have c5b1 : (a0_2 != a1_2) = true := bne_iff_ne.mpr c5
  obtain rfl := Option.some.inj H
  go_enter Try.func134, Try.ntmps134
  go_wp2_with (first | ((with_reducible refine G2 2 rfl ?_); refine BY 2 #[.int .i64 a0_0, .int .i64 a0_1, .int .i64 a0_2, .int .i64 a0_3, .int .i64 a0_4] 52 HB ?_; clear HB; intro gb433 w23 BK433 GW433 HB) | ((with_reducible refine G2 3 rfl ?_); refine BZ 3 #[.int .i64 a1_0, .int .i64 a1_1, .int .i64 a1_2, .int .i64 a1_3, .int .i64 a1_4] 52 HB ?_; clear HB; intro gb434 w24 hg hb BK434 GW434 HB; have NB433_434 := NP BK433 hg; have NB434_433 := NQ BK433 hg; replace BK433 := BV BK433 hb; clear hb hg; have hnb25 := NB433_434.out; have hnc25 := NB434_433.out; obtain ⟨hcz26_0, hcz26_1, hcz26_2, hcz26_3, hcz26_4, hfz26_0, hfz26_1, hfz26_2, hfz26_3, hfz26_4⟩ := bk5 BK433.out; obtain ⟨hcz27_0, hcz27_1, hcz27_2, hcz27_3, hcz27_4, hfz27_0, hfz27_1, hfz27_2, hfz27_3, hfz27_4⟩ := bk5 BK434.out))
  go_ret
  exact QT (BT HB.out)
 rw [if_pos c5] at H
 have c5b0 : (a0_2 == a1_2) = true := beq_iff_eq.mpr c5
 have c5b1 : (a0_2 != a1_2) = false := bne_eq_false_iff_eq.mpr c5
 clear c5
 by_cases c6 : a0_3 = a1_3
 rotate_left
 ·rw [if_neg c6] at H
  have c6b0 : (a0_3 == a1_3) = false := beq_eq_false_iff_ne.mpr c6
  have c6b1 : (a0_3 != a1_3) = true := bne_iff_ne.mpr c6
  obtain rfl := Option.some.inj H
  go_enter Try.func134, Try.ntmps134
  go_wp2_with (first | ((with_reducible refine G2 2 rfl ?_); refine BY 2 #[.int .i64 a0_0, .int .i64 a0_1, .int .i64 a0_2, .int .i64 a0_3, .int .i64 a0_4] 52 HB ?_; clear HB; intro gb433 w18 BK433 GW433 HB) | ((with_reducible refine G2 3 rfl ?_); refine BZ 3 #[.int .i64 a1_0, .int .i64 a1_1, .int .i64 a1_2, .int .i64 a1_3, .int .i64 a1_4] 52 HB ?_; clear HB; intro gb434 w19 hg hb BK434 GW434 HB; have NB433_434 := NP BK433 hg; have NB434_433 := NQ BK433 hg; replace BK433 := BV BK433 hb; clear hb hg; have hnb20 := NB433_434.out; have hnc20 := NB434_433.out; obtain ⟨hcz21_0, hcz21_1, hcz21_2, hcz21_3, hcz21_4, hfz21_0, hfz21_1, hfz21_2, hfz21_3, hfz21_4⟩ := bk5 BK433.out; obtain ⟨hcz22_0, hcz22_1, hcz22_2, hcz22_3, hcz22_4, hfz22_0, hfz22_1, hfz22_2, hfz22_3, hfz22_4⟩ := bk5 BK434.out))
  go_ret
  exact QT (BT HB.out)
 rw [if_pos c6] at H
 have c6b0 : (a0_3 == a1_3) = true := beq_iff_eq.mpr c6
 have c6b1 : (a0_3 != a1_3) = false := bne_eq_false_iff_eq.mpr c6
 clear c6
 by_cases c7 : a0_4 = a1_4
 rotate_left
 ·rw [if_neg c7] at H
  have c7b0 : (a0_4 == a1_4) = false := beq_eq_false_iff_ne.mpr c7
  have c7b1 : (a0_4 != a1_4) = true := bne_iff_ne.mpr c7
  obtain rfl := Option.some.inj H
  go_enter Try.func134, Try.ntmps134
  go_wp2_with (first | ((with_reducible refine G2 2 rfl ?_); refine BY 2 #[.int .i64 a0_0, .int .i64 a0_1, .int .i64 a0_2, .int .i64 a0_3, .int .i64 a0_4] 52 HB ?_; clear HB; intro gb433 w13 BK433 GW433 HB) | ((with_reducible refine G2 3 rfl ?_); refine BZ 3 #[.int .i64 a1_0, .int .i64 a1_1, .int .i64 a1_2, .int .i64 a1_3, .int .i64 a1_4] 52 HB ?_; clear HB; intro gb434 w14 hg hb BK434 GW434 HB; have NB433_434 := NP BK433 hg; have NB434_433 := NQ BK433 hg; replace BK433 := BV BK433 hb; clear hb hg; have hnb15 := NB433_434.out; have hnc15 := NB434_433.out; obtain ⟨hcz16_0, hcz16_1, hcz16_2, hcz16_3, hcz16_4, hfz16_0, hfz16_1, hfz16_2, hfz16_3, hfz16_4⟩ := bk5 BK433.out; obtain ⟨hcz17_0, hcz17_1, hcz17_2, hcz17_3, hcz17_4, hfz17_0, hfz17_1, hfz17_2, hfz17_3, hfz17_4⟩ := bk5 BK434.out))
  go_ret
  exact QT (BT HB.out)
 rw [if_pos c7] at H
 have c7b0 : (a0_4 == a1_4) = true := beq_iff_eq.mpr c7
 have c7b1 : (a0_4 != a1_4) = false := bne_eq_false_iff_eq.mpr c7
 clear c7
 obtain rfl := Option.some.inj H
 go_enter Try.func134, Try.ntmps134
 go_wp2_with (first | ((with_reducible refine G2 2 rfl ?_); refine BY 2 #[.int .i64 a0_0, .int .i64 a0_1, .int .i64 a0_2, .int .i64 a0_3, .int .i64 a0_4] 52 HB ?_; clear HB; intro gb433 w8 BK433 GW433 HB) | ((with_reducible refine G2 3 rfl ?_); refine BZ 3 #[.int .i64 a1_0, .int .i64 a1_1, .int .i64 a1_2, .int .i64 a1_3, .int .i64 a1_4] 52 HB ?_; clear HB; intro gb434 w9 hg hb BK434 GW434 HB; have NB433_434 := NP BK433 hg; have NB434_433 := NQ BK433 hg; replace BK433 := BV BK433 hb; clear hb hg; have hnb10 := NB433_434.out; have hnc10 := NB434_433.out; obtain ⟨hcz11_0, hcz11_1, hcz11_2, hcz11_3, hcz11_4, hfz11_0, hfz11_1, hfz11_2, hfz11_3, hfz11_4⟩ := bk5 BK433.out; obtain ⟨hcz12_0, hcz12_1, hcz12_2, hcz12_3, hcz12_4, hfz12_0, hfz12_1, hfz12_2, hfz12_3, hfz12_4⟩ := bk5 BK434.out))
 go_ret
 exact QT (BT HB.out)

/-! ### laws_eqVersionS: function 118 -/
def laws_eqVersionS.l0 : Nat → List (S52) → List (S52) → Int → Option (Bool)
 | 0, _, _, _ => none
 | k + 1, x0, x1, x5 => if x5 < (x0.length : Int) then (if 0 ≤ x5 then (if x5 < (x1.length : Int) then ((laws_eqVersion.f ((rd_T52 x0 x5).f0) ((rd_T52 x0 x5).f1) ((rd_T52 x0 x5).f2) ((rd_T52 x0 x5).f3) ((rd_T52 x0 x5).f4) ((rd_T52 x1 x5).f0) ((rd_T52 x1 x5).f1) ((rd_T52 x1 x5).f2) ((rd_T52 x1 x5).f3) ((rd_T52 x1 x5).f4)).bind fun t437 => (if t437 = true then (laws_eqVersionS.l0 k x0 x1 (wrap64 (x5 + 1))) else (some false))) else (none)) else (none)) else (some true)
def laws_eqVersionS.f (k : Nat) (l0 : List (S52)) (l1 : List (S52)) : Option (Bool) := if (l0.length : Int) = (l1.length : Int) then (laws_eqVersionS.l0 k l0 l1 0) else (some false)
theorem laws_eqVersionS.mono_l : ∀ k, (∀ y0 y1 y2, LeO (laws_eqVersionS.l0 k y0 y1 y2) (laws_eqVersionS.l0 (k + 1) y0 y1 y2))
 | 0 => fun _ _ _ r h => by simp [laws_eqVersionS.l0] at h
 | k + 1 => by
  have ih0 := laws_eqVersionS.mono_l k
  all_goals intros; unfold laws_eqVersionS.l0
  all_goals repeat' (with_reducible first | exact ih0 .. | exact LeO.refl _ | exact LeO.none _ | refine LeO.ite ?_ ?_ | refine LeO.bind ?_ (fun _ => ?_))
theorem laws_eqVersionS.mono : ∀ a0 a1 k, LeO (laws_eqVersionS.f k a0 a1) (laws_eqVersionS.f (k + 1) a0 a1) := by
 intro a0 a1 k
 have ih0 := laws_eqVersionS.mono_l k
 unfold laws_eqVersionS.f
 repeat' (with_reducible first | exact ih0 .. | exact LeO.refl _ | exact LeO.none _ | refine LeO.ite ?_ ?_ | refine LeO.bind ?_ (fun _ => ?_))
def laws_eqVersionS.T6 : Bool × List (List Nat × List Nat) := (true, [([], []), ([], []), ([0, 1], [0, 1]), ([2], [2]), ([], []), ([], []), ([4, 5], [4, 5]), ([6], [6]), ([3, 7], [3, 7]), ([8], [8])])
def laws_eqVersionS.B6 : List Nat := [0, 0, 3, 7, 0, 0, 48, 112, 255, 511]
theorem laws_eqVersionS.tab6 : rtab .any (opsOf Try.f118 6) = laws_eqVersionS.T6 := by kernel_rfl
theorem laws_eqVersionS.bits6 : waitsOk laws_eqVersionS.T6.2 laws_eqVersionS.B6 = true := by kernel_rfl
theorem laws_eqVersionS.calls (k : Nat) (A0 : Option Addr) (c0 : Nat) (l0 : List (S52)) (A1 : Option Addr) (c1 : Nat) (l1 : List (S52)) (r : Bool) (w : World) (hr0 : Kd.C k52 w A0 l0.length l0) (hc0 : l0.length ≤ c0) (hr1 : Kd.C k52 w A1 l1.length l1) (hc1 : l1.length ≤ c1) (h : laws_eqVersionS.f k l0 l1 = some r) :
  Calls Try.prog 118 #[.slice A0 l0.length c0, .slice A1 l1.length c1] w fun e w' => e = .returned (.bool r) ∧ Below w.heap.size w w' := by
 have hu52 := Try.underlying52
 have HR0 := AM_ hr0
 have HC0 := AM_ hc0
 clear hr0 hc0
 have HR1 := AM_ hr1
 have HC1 := AM_ hc1
 clear hr1 hc1
 have HB := AM_ (Below.refl w.heap.size w)
 unfold laws_eqVersionS.f at h
 have H := h
 clear h
 by_cases c3 : (l0.length : Int) = (l1.length : Int)
 rotate_left
 ·rw [if_neg c3] at H
  have c3b0 : ((l0.length : Int) == (l1.length : Int)) = false := beq_eq_false_iff_ne.mpr c3
  have c3b1 : ((l0.length : Int) != (l1.length : Int)) = true := bne_iff_ne.mpr c3
  have c3b2 : (l0.length == l1.length) = false := by first | simpa using c3 | (simp at c3 ⊢; omega)
  obtain rfl := Option.some.inj H
  go_enter Try.func118, Try.ntmps118
  go_wp2
  go_ret
  exact QT (BT HB.out)
 rw [if_pos c3] at H
 have c3b0 : ((l0.length : Int) == (l1.length : Int)) = true := beq_iff_eq.mpr c3
 have c3b1 : ((l0.length : Int) != (l1.length : Int)) = false := bne_eq_false_iff_eq.mpr c3
 have c3b2 : (l0.length == l1.length) = true := by first | simpa using c3 | (simp at c3 ⊢; omega)
 clear c3
 have H' := AM_ H
 clear H
 go_enter Try.func118, Try.ntmps118
 go_wp2
 go_loopg [5] k (fun kq v5 w' => ∃ (x5_1 : Int), v5 = .int .i64 x5_1 ∧ Aside0 (laws_eqVersionS.l0 kq l0 l1 x5_1 = some r) ∧ Aside0 (kq ≤ k) ∧ Aside0 (Below w.heap.size w w'))
 case atStart => exact ⟨(0), (by first | rfl | (simp; done) | (simp [*]; done)), H', ⟨Nat.le_refl _⟩, ⟨BT HB.out⟩⟩
 case round =>
  clear H'
  try clear c1
  try clear c3
  try clear c3b0
  try clear c3b1
  try clear c3b2
  obtain ⟨x5_1, rfl, HA, HK1, HB⟩ := hrel
  cases gk with
  | zero => exact absurd HA.out (by simp [laws_eqVersionS.l0])
  | succ k1 =>
   have H := HA.out
   clear HA
   simp only [laws_eqVersionS.l0] at H
   by_cases c4 : x5_1 < (l0.length : Int)
   rotate_left
   ·rw [if_neg c4] at H
    have c4b0 := decide_eq_false c4
    clear c4
    obtain rfl := Option.some.inj H
    go_wp2
    go_ret
    exact QT (BT HB.out)
   rw [if_pos c4] at H
   have c4b0 := decide_eq_true c4
   clear c4
   replace H := HI H
   obtain ⟨c5, H⟩ := H
   have c5b0 := decide_eq_true c5
   clear c5
   replace H := HI H
   obtain ⟨c6, H⟩ := H
   have c6b0 := decide_eq_true c6
   clear c6
   obtain ⟨t437, A7, H⟩ := OB H
   try go_wp2
   replace HB := BD2 HB
   have p435 : 0 ≤ (x5_1 : Int) := DT
   have q435 : x5_1 < (l0.length : Int) := DT
   obtain ⟨ad435, e435, hx435_0, hx435_1, hx435_2, hx435_3, hx435_4⟩ := at_T52 HR0.out x5_1 p435 q435
   have hw435_4 := hx435_4
   have hw435_3 := hx435_3
   have hw435_2 := hx435_2
   have hw435_1 := hx435_1
   have hw435_0 := hx435_0
   cases e435
   replace hx435_0 := BC HB.out hx435_0
   replace hx435_1 := BC HB.out hx435_1
   replace hx435_2 := BC HB.out hx435_2
   replace hx435_3 := BC HB.out hx435_3
   replace hx435_4 := BC HB.out hx435_4
   replace p435 := eq_true p435
   replace q435 := eq_true q435
   have p436 : 0 ≤ (x5_1 : Int) := DT
   have q436 : x5_1 < (l1.length : Int) := DT
   obtain ⟨ad436, e436, hx436_0, hx436_1, hx436_2, hx436_3, hx436_4⟩ := at_T52 HR1.out x5_1 p436 q436
   have hw436_4 := hx436_4
   have hw436_3 := hx436_3
   have hw436_2 := hx436_2
   have hw436_1 := hx436_1
   have hw436_0 := hx436_0
   cases e436
   replace hx436_0 := BC HB.out hx436_0
   replace hx436_1 := BC HB.out hx436_1
   replace hx436_2 := BC HB.out hx436_2
   replace hx436_3 := BC HB.out hx436_3
   replace hx436_4 := BC HB.out hx436_4
   replace p436 := eq_true p436
   replace q436 := eq_true q436
   refine start_ (n := 10) (S := fun w' => w'.cell? (ad435.add ((x5_1).toNat * 5)) = some (.int .i64 ((rd_T52 l0 x5_1).f0)) ∧ w'.cell? ⟨(ad435.add ((x5_1).toNat * 5)).block, (ad435.add ((x5_1).toNat * 5)).off + 1, none⟩ = some (.int .i64 ((rd_T52 l0 x5_1).f1)) ∧ w'.cell? ⟨(ad435.add ((x5_1).toNat * 5)).block, (ad435.add ((x5_1).toNat * 5)).off + 2, none⟩ = some (.int .i64 ((rd_T52 l0 x5_1).f2)) ∧ w'.cell? ⟨(ad435.add ((x5_1).toNat * 5)).block, (ad435.add ((x5_1).toNat * 5)).off + 3, none⟩ = some (.int .i64 ((rd_T52 l0 x5_1).f3)) ∧ w'.cell? ⟨(ad435.add ((x5_1).toNat * 5)).block, (ad435.add ((x5_1).toNat * 5)).off + 4, none⟩ = some (.int .i64 ((rd_T52 l0 x5_1).f4)) ∧ w'.cell? (ad436.add ((x5_1).toNat * 5)) = some (.int .i64 ((rd_T52 l1 x5_1).f0)) ∧ w'.cell? ⟨(ad436.add ((x5_1).toNat * 5)).block, (ad436.add ((x5_1).toNat * 5)).off + 1, none⟩ = some (.int .i64 ((rd_T52 l1 x5_1).f1)) ∧ w'.cell? ⟨(ad436.add ((x5_1).toNat * 5)).block, (ad436.add ((x5_1).toNat * 5)).off + 2, none⟩ = some (.int .i64 ((rd_T52 l1 x5_1).f2)) ∧ w'.cell? ⟨(ad436.add ((x5_1).toNat * 5)).block, (ad436.add ((x5_1).toNat * 5)).off + 3, none⟩ = some (.int .i64 ((rd_T52 l1 x5_1).f3)) ∧ w'.cell? ⟨(ad436.add ((x5_1).toNat * 5)).block, (ad436.add ((x5_1).toNat * 5)).off + 4, none⟩ = some (.int .i64 ((rd_T52 l1 x5_1).f4))) (ds := []) (lo 0 10) (by kernel_rfl) rfl rfl ⟨(BD HB.out hw435_0), (BD HB.out hw435_1), (BD HB.out hw435_2), (BD HB.out hw435_3), (BD HB.out hw435_4), (BD HB.out hw436_0), (BD HB.out hw436_1), (BD HB.out hw436_2), (BD HB.out hw436_3), (BD HB.out hw436_4)⟩ (fun hHeld => ?_); refine with_tabW laws_eqVersionS.tab6 laws_eqVersionS.bits6 (fun HT_ HW_ => ?_)
   generalize wr.drew = w9 at HB hx435_0 hx435_1 hx435_2 hx435_3 hx435_4 hx436_0 hx436_1 hx436_2 hx436_3 hx436_4 hHeld ⊢
   iterate 3 refine PS HT_ ?_
   refine PV 4 (some 21) (bs 23 10) HT_ ?_
   refine PV 5 (some 22) (bs 55 10) HT_ ?_
   refine PV 6 (some 23) (bs 119 10) HT_ ?_
   refine TX 3 (some 20) (lo 7 10) HT_ HW_ hHeld ?_
   refine TS HT_ HW_ hHeld ?_
   refine OS HT_ (fun K hK => ?_)
   refine GO Try.func134 #[.agg #[.int .i64 ((rd_T52 l0 x5_1).f0), .int .i64 ((rd_T52 l0 x5_1).f1), .int .i64 ((rd_T52 l0 x5_1).f2), .int .i64 ((rd_T52 l0 x5_1).f3), .int .i64 ((rd_T52 l0 x5_1).f4)], .agg #[.int .i64 ((rd_T52 l1 x5_1).f0), .int .i64 ((rd_T52 l1 x5_1).f1), .int .i64 ((rd_T52 l1 x5_1).f2), .int .i64 ((rd_T52 l1 x5_1).f3), .int .i64 ((rd_T52 l1 x5_1).f4)]] ?_
   with_reducible refine MB (laws_eqVersion.calls ((rd_T52 l0 x5_1).f0) ((rd_T52 l0 x5_1).f1) ((rd_T52 l0 x5_1).f2) ((rd_T52 l0 x5_1).f3) ((rd_T52 l0 x5_1).f4) ((rd_T52 l1 x5_1).f0) ((rd_T52 l1 x5_1).f1) ((rd_T52 l1 x5_1).f2) ((rd_T52 l1 x5_1).f3) ((rd_T52 l1 x5_1).f4) t437 _ A7.out) ?_
   intro w10 hb
   replace HB := BW HB hb
   (try clear hb)
   refine hK.out _ _ ⟨(BD HB.out hw435_0), (BD HB.out hw435_1), (BD HB.out hw435_2), (BD HB.out hw435_3), (BD HB.out hw435_4), (BD HB.out hw436_0), (BD HB.out hw436_1), (BD HB.out hw436_2), (BD HB.out hw436_3), (BD HB.out hw436_4)⟩ (fun hHeld => ?_)
   clear hK K
   refine NM 25 ?_
   by_cases c8 : t437 = true
   rotate_left
   ·replace c8 := Bool.eq_false_iff.mpr c8
    subst c8
    replace H := HF H
    obtain rfl := Option.some.inj H
    refine PS HT_ ?_
    refine done_ (done_of HT_.out (by kernel_rfl)) ?_
    try go_wp2
    go_ret
    exact QT (BT HB.out)
   subst c8
   replace H := HT H
   have H' := AM_ H
   clear H
   refine PS HT_ ?_
   refine done_ (done_of HT_.out (by kernel_rfl)) ?_
   try go_wp2
   go_roundg k1
   case measure => have := HK1.out; omega
   case rel => exact ⟨(wrap64 (x5_1 + 1)), (by first | rfl | (simp; done) | (simp [*]; done)), H', ⟨by have := HK1.out; omega⟩, ⟨BT HB.out⟩⟩

/-! ### laws_eqVersionSS: function 83 -/
def laws_eqVersionSS.l0 : Nat → List (List (S52)) → List (List (S52)) → Int → Option (Bool)
 | 0, _, _, _ => none
 | k + 1, x0, x1, x5 => if x5 < (x0.length : Int) then (if 0 ≤ x5 then (if x5 < (x1.length : Int) then ((laws_eqVersionS.f k (rd_L11 x0 x5) (rd_L11 x1 x5)).bind fun t440 => (if t440 = true then (laws_eqVersionSS.l0 k x0 x1 (wrap64 (x5 + 1))) else (some false))) else (none)) else (none)) else (some true)
def laws_eqVersionSS.f (k : Nat) (l0 : List (List (S52))) (l1 : List (List (S52))) : Option (Bool) := if (l0.length : Int) = (l1.length : Int) then (laws_eqVersionSS.l0 k l0 l1 0) else (some false)
theorem laws_eqVersionSS.mono_l : ∀ k, (∀ y0 y1 y2, LeO (laws_eqVersionSS.l0 k y0 y1 y2) (laws_eqVersionSS.l0 (k + 1) y0 y1 y2))
 | 0 => fun _ _ _ r h => by simp [laws_eqVersionSS.l0] at h
 | k + 1 => by
  have ih0 := laws_eqVersionSS.mono_l k
  all_goals intros; unfold laws_eqVersionSS.l0
  all_goals repeat' (with_reducible first | exact ih0 .. | exact laws_eqVersionS.mono .. | exact LeO.refl _ | exact LeO.none _ | refine LeO.ite ?_ ?_ | refine LeO.bind ?_ (fun _ => ?_))
theorem laws_eqVersionSS.mono : ∀ a0 a1 k, LeO (laws_eqVersionSS.f k a0 a1) (laws_eqVersionSS.f (k + 1) a0 a1) := by
 intro a0 a1 k
 have ih0 := laws_eqVersionSS.mono_l k
 unfold laws_eqVersionSS.f
 repeat' (with_reducible first | exact ih0 .. | exact laws_eqVersionS.mono .. | exact LeO.refl _ | exact LeO.none _ | refine LeO.ite ?_ ?_ | refine LeO.bind ?_ (fun _ => ?_))
def laws_eqVersionSS.T6 : Bool × List (List Nat × List Nat) := (true, [([], []), ([], []), ([0, 1], [0, 1]), ([2], [2]), ([], []), ([], []), ([4, 5], [4, 5]), ([6], [6]), ([3, 7], [3, 7]), ([8], [8])])
def laws_eqVersionSS.B6 : List Nat := [0, 0, 3, 7, 0, 0, 48, 112, 255, 511]
theorem laws_eqVersionSS.tab6 : rtab .any (opsOf Try.f83 6) = laws_eqVersionSS.T6 := by kernel_rfl
theorem laws_eqVersionSS.bits6 : waitsOk laws_eqVersionSS.T6.2 laws_eqVersionSS.B6 = true := by kernel_rfl
theorem laws_eqVersionSS.calls (k : Nat) (A0 : Option Addr) (c0 : Nat) (l0 : List (List (S52))) (A1 : Option Addr) (c1 : Nat) (l1 : List (List (S52))) (r : Bool) (w : World) (hr0 : Kd.C (Kd.slice 52 k52) w A0 l0.length l0) (hc0 : l0.length ≤ c0) (hr1 : Kd.C (Kd.slice 52 k52) w A1 l1.length l1) (hc1 : l1.length ≤ c1) (h : laws_eqVersionSS.f k l0 l1 = some r) :
  Calls Try.prog 83 #[.slice A0 l0.length c0, .slice A1 l1.length c1] w fun e w' => e = .returned (.bool r) ∧ Below w.heap.size w w' := by
 have HR0 := AM_ hr0
 have HC0 := AM_ hc0
 clear hr0 hc0
 have HR1 := AM_ hr1
 have HC1 := AM_ hc1
 clear hr1 hc1
 have HB := AM_ (Below.refl w.heap.size w)
 unfold laws_eqVersionSS.f at h
 have H := h
 clear h
 by_cases c3 : (l0.length : Int) = (l1.length : Int)
 rotate_left
 ·rw [if_neg c3] at H
  have c3b0 : ((l0.length : Int) == (l1.length : Int)) = false := beq_eq_false_iff_ne.mpr c3
  have c3b1 : ((l0.length : Int) != (l1.length : Int)) = true := bne_iff_ne.mpr c3
  have c3b2 : (l0.length == l1.length) = false := by first | simpa using c3 | (simp at c3 ⊢; omega)
  obtain rfl := Option.some.inj H
  go_enter Try.func83, Try.ntmps83
  go_wp2
  go_ret
  exact QT (BT HB.out)
 rw [if_pos c3] at H
 have c3b0 : ((l0.length : Int) == (l1.length : Int)) = true := beq_iff_eq.mpr c3
 have c3b1 : ((l0.length : Int) != (l1.length : Int)) = false := bne_eq_false_iff_eq.mpr c3
 have c3b2 : (l0.length == l1.length) = true := by first | simpa using c3 | (simp at c3 ⊢; omega)
 clear c3
 have H' := AM_ H
 clear H
 go_enter Try.func83, Try.ntmps83
 go_wp2
 go_loopg [5] k (fun kq v5 w' => ∃ (x5_1 : Int), v5 = .int .i64 x5_1 ∧ Aside0 (laws_eqVersionSS.l0 kq l0 l1 x5_1 = some r) ∧ Aside0 (kq ≤ k) ∧ Aside0 (Below w.heap.size w w'))
 case atStart => exact ⟨(0), (by first | rfl | (simp; done) | (simp [*]; done)), H', ⟨Nat.le_refl _⟩, ⟨BT HB.out⟩⟩
 case round =>
  clear H'
  try clear c1
  try clear c3
  try clear c3b0
  try clear c3b1
  try clear c3b2
  obtain ⟨x5_1, rfl, HA, HK1, HB⟩ := hrel
  cases gk with
  | zero => exact absurd HA.out (by simp [laws_eqVersionSS.l0])
  | succ k1 =>
   have H := HA.out
   clear HA
   simp only [laws_eqVersionSS.l0] at H
   by_cases c4 : x5_1 < (l0.length : Int)
   rotate_left
   ·rw [if_neg c4] at H
    have c4b0 := decide_eq_false c4
    clear c4
    obtain rfl := Option.some.inj H
    go_wp2
    go_ret
    exact QT (BT HB.out)
   rw [if_pos c4] at H
   have c4b0 := decide_eq_true c4
   clear c4
   replace H := HI H
   obtain ⟨c5, H⟩ := H
   have c5b0 := decide_eq_true c5
   clear c5
   replace H := HI H
   obtain ⟨c6, H⟩ := H
   have c6b0 := decide_eq_true c6
   clear c6
   obtain ⟨t440, A7, H⟩ := OB H
   try go_wp2
   replace HB := BD2 HB
   have p438 : 0 ≤ (x5_1 : Int) := DT
   have q438 : x5_1 < (l0.length : Int) := DT
   obtain ⟨ad438, A438_0, c438_0, e438, hx438_0, hl438_0, hi438_0⟩ := at_L11 HR0.out x5_1 p438 q438
   have hw438_0 := hx438_0
   cases e438
   replace hx438_0 := BC HB.out hx438_0
   have HR438_0 := AM_ hi438_0
   have HC438_0 := AM_ hl438_0
   clear hi438_0 hl438_0
   replace p438 := eq_true p438
   replace q438 := eq_true q438
   have p439 : 0 ≤ (x5_1 : Int) := DT
   have q439 : x5_1 < (l1.length : Int) := DT
   obtain ⟨ad439, A439_0, c439_0, e439, hx439_0, hl439_0, hi439_0⟩ := at_L11 HR1.out x5_1 p439 q439
   have hw439_0 := hx439_0
   cases e439
   replace hx439_0 := BC HB.out hx439_0
   have HR439_0 := AM_ hi439_0
   have HC439_0 := AM_ hl439_0
   clear hi439_0 hl439_0
   replace p439 := eq_true p439
   replace q439 := eq_true q439
   refine start_ (n := 10) (S := fun w' => w'.cell? (ad438.add (x5_1).toNat) = some (.slice A438_0 (rd_L11 l0 x5_1).length c438_0) ∧ w'.cell? (ad439.add (x5_1).toNat) = some (.slice A439_0 (rd_L11 l1 x5_1).length c439_0)) (ds := []) (lo 0 10) (by kernel_rfl) rfl rfl ⟨(BD HB.out hw438_0), (BD HB.out hw439_0)⟩ (fun hHeld => ?_); refine with_tabW laws_eqVersionSS.tab6 laws_eqVersionSS.bits6 (fun HT_ HW_ => ?_)
   generalize wr.drew = w9 at HB HR438_0 HR439_0 hx438_0 hx439_0 hHeld ⊢
   iterate 3 refine PS HT_ ?_
   refine PV 4 (some 21) (bs 23 10) HT_ ?_
   refine PV 5 (some 22) (bs 55 10) HT_ ?_
   refine PV 6 (some 23) (bs 119 10) HT_ ?_
   refine TX 3 (some 20) (lo 7 10) HT_ HW_ hHeld ?_
   refine TS HT_ HW_ hHeld ?_
   refine OS HT_ (fun K hK => ?_)
   refine GO Try.func118 #[.slice A438_0 (rd_L11 l0 x5_1).length c438_0, .slice A439_0 (rd_L11 l1 x5_1).length c439_0] ?_
   with_reducible refine MB (laws_eqVersionS.calls k1 _ _ (rd_L11 l0 x5_1) _ _ (rd_L11 l1 x5_1) t440 _ (CC HR438_0 HB) HC438_0.out (CC HR439_0 HB) HC439_0.out A7.out) ?_
   intro w10 hb
   replace HB := BW HB hb
   (try clear hb)
   refine hK.out _ _ ⟨(BD HB.out hw438_0), (BD HB.out hw439_0)⟩ (fun hHeld => ?_)
   clear hK K
   refine NM 25 ?_
   by_cases c8 : t440 = true
   rotate_left
   ·replace c8 := Bool.eq_false_iff.mpr c8
    subst c8
    replace H := HF H
    obtain rfl := Option.some.inj H
    refine PS HT_ ?_
    refine done_ (done_of HT_.out (by kernel_rfl)) ?_
    try go_wp2
    go_ret
    exact QT (BT HB.out)
   subst c8
   replace H := HT H
   have H' := AM_ H
   clear H
   refine PS HT_ ?_
   refine done_ (done_of HT_.out (by kernel_rfl)) ?_
   try go_wp2
   go_roundg k1
   case measure => have := HK1.out; omega
   case rel => exact ⟨(wrap64 (x5_1 + 1)), (by first | rfl | (simp; done) | (simp [*]; done)), H', ⟨by have := HK1.out; omega⟩, ⟨BT HB.out⟩⟩

end Go.Proofs.Ytdgknikgfjhohaa.PFnExactIsValidEngine
