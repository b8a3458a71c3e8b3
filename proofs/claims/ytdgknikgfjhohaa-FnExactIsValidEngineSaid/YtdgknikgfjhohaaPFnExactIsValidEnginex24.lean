-- Printed by wip/myprint.py.
import Derived.Test.YtdgknikgfjhohaaPFnExactIsValidEnginex23
namespace Go.Proofs.Ytdgknikgfjhohaa.PFnExactIsValidEngine
open Go.RowKit Go.Proofs.YtdgknikgfjhohaaW.PrintWords Go.Proofs.YtdgknikgfjhohaaW.PrintLast Go.Proofs.YtdgknikgfjhohaaW.PrintMore
set_option maxHeartbeats 8000000
set_option maxRecDepth 100000
set_option linter.unusedVariables false
set_option linter.unusedSimpArgs false

/-! ### laws_eqTransaction: function 84 -/
def laws_eqTransaction.f (k : Nat) (a0_0 : Int) (a0_1 : Int) (a0_2 : Int) (a0_3 : Int) (a0_4 : Int) (a0_5 : Int) (a0_6 : Int) (l0_7 : List (S116)) (l0_8 : List (S103)) (a1_0 : Int) (a1_1 : Int) (a1_2 : Int) (a1_3 : Int) (a1_4 : Int) (a1_5 : Int) (a1_6 : Int) (l1_7 : List (S116)) (l1_8 : List (S103)) : Option (Bool) := if a0_0 = a1_0 then (if a0_1 = a1_1 then (if a0_2 = a1_2 then (if a0_3 = a1_3 then (if a0_4 = a1_4 then (if a0_5 = a1_5 then (if a0_6 = a1_6 then ((laws_eqReadMarkS.f k l0_7 l1_7).bind fun t456 => (if t456 = true then ((laws_eqWriteS.f k l0_8 l1_8).bind fun t457 => (if t457 = true then (some true) else (some false))) else (some false))) else (some false)) else (some false)) else (some false)) else (some false)) else (some false)) else (some false)) else (some false)
theorem laws_eqTransaction.mono : ∀ a0 a1 a2 a3 a4 a5 a6 a7 a8 a9 a10 a11 a12 a13 a14 a15 a16 a17 k, LeO (laws_eqTransaction.f k a0 a1 a2 a3 a4 a5 a6 a7 a8 a9 a10 a11 a12 a13 a14 a15 a16 a17) (laws_eqTransaction.f (k + 1) a0 a1 a2 a3 a4 a5 a6 a7 a8 a9 a10 a11 a12 a13 a14 a15 a16 a17) := by
 intro a0 a1 a2 a3 a4 a5 a6 a7 a8 a9 a10 a11 a12 a13 a14 a15 a16 a17 k
 unfold laws_eqTransaction.f
 repeat' (with_reducible first | exact laws_eqReadMarkS.mono .. | exact laws_eqWriteS.mono .. | exact LeO.refl _ | exact LeO.none _ | refine LeO.ite ?_ ?_ | refine LeO.bind ?_ (fun _ => ?_))
theorem laws_eqTransaction.calls (k : Nat) (a0_0 : Int) (a0_1 : Int) (a0_2 : Int) (a0_3 : Int) (a0_4 : Int) (a0_5 : Int) (a0_6 : Int) (A0_7 : Option Addr) (c0_7 : Nat) (l0_7 : List (S116)) (A0_8 : Option Addr) (c0_8 : Nat) (l0_8 : List (S103)) (a1_0 : Int) (a1_1 : Int) (a1_2 : Int) (a1_3 : Int) (a1_4 : Int) (a1_5 : Int) (a1_6 : Int) (A1_7 : Option Addr) (c1_7 : Nat) (l1_7 : List (S116)) (A1_8 : Option Addr) (c1_8 : Nat) (l1_8 : List (S103)) (r : Bool) (w : World) (hr0_7 : Kd.C k116 w A0_7 l0_7.length l0_7) (hc0_7 : l0_7.length ≤ c0_7) (hr0_8 : Kd.C k103 w A0_8 l0_8.length l0_8) (hc0_8 : l0_8.length ≤ c0_8) (hr1_7 : Kd.C k116 w A1_7 l1_7.length l1_7) (hc1_7 : l1_7.length ≤ c1_7) (hr1_8 : Kd.C k103 w A1_8 l1_8.length l1_8) (hc1_8 : l1_8.length ≤ c1_8) (h : laws_eqTransaction.f k a0_0 a0_1 a0_2 a0_3 a0_4 a0_5 a0_6 l0_7 l0_8 a1_0 a1_1 a1_2 a1_3 a1_4 a1_5 a1_6 l1_7 l1_8 = some r) :
  Calls Try.prog 84 #[.agg #[.int .i64 a0_0, .int .i64 a0_1, .int .i64 a0_2, .int .i64 a0_3, .int .i64 a0_4, .int .i64 a0_5, .int .i64 a0_6, .slice A0_7 l0_7.length c0_7, .slice A0_8 l0_8.length c0_8], .agg #[.int .i64 a1_0, .int .i64 a1_1, .int .i64 a1_2, .int .i64 a1_3, .int .i64 a1_4, .int .i64 a1_5, .int .i64 a1_6, .slice A1_7 l1_7.length c1_7, .slice A1_8 l1_8.length c1_8]] w fun e w' => e = .returned (.bool r) ∧ Below w.heap.size w w' := by
 have hu48 := Try.underlying48
 have HR0_7 := AM_ hr0_7
 have HC0_7 := AM_ hc0_7
 clear hr0_7 hc0_7
 have HR0_8 := AM_ hr0_8
 have HC0_8 := AM_ hc0_8
 clear hr0_8 hc0_8
 have HR1_7 := AM_ hr1_7
 have HC1_7 := AM_ hc1_7
 clear hr1_7 hc1_7
 have HR1_8 := AM_ hr1_8
 have HC1_8 := AM_ hc1_8
 clear hr1_8 hc1_8
 have HB := AM_ (Below.refl w.heap.size w)
 unfold laws_eqTransaction.f at h
 have H := h
 clear h
 by_cases c3 : a0_0 = a1_0
 rotate_left
 ·rw [if_neg c3] at H
  have c3b0 : (a0_0 == a1_0) = false := beq_eq_false_iff_ne.mpr c3
  have c3b1 : (a0_0 != a1_0) = true := bne_iff_ne.mpr c3
  obtain rfl := Option.some.inj H
  go_enter Try.func84, Try.ntmps84
  go_wp2_with (first | ((with_reducible refine G2 2 rfl ?_); refine BY 2 #[.int .i64 a0_0, .int .i64 a0_1, .int .i64 a0_2, .int .i64 a0_3, .int .i64 a0_4, .int .i64 a0_5, .int .i64 a0_6, .slice A0_7 l0_7.length c0_7, .slice A0_8 l0_8.length c0_8] 48 HB ?_; clear HB; intro gb454 w68 BK454 GW454 HB) | ((with_reducible refine G2 3 rfl ?_); refine BZ 3 #[.int .i64 a1_0, .int .i64 a1_1, .int .i64 a1_2, .int .i64 a1_3, .int .i64 a1_4, .int .i64 a1_5, .int .i64 a1_6, .slice A1_7 l1_7.length c1_7, .slice A1_8 l1_8.length c1_8] 48 HB ?_; clear HB; intro gb455 w69 hg hb BK455 GW455 HB; have NB454_455 := NP BK454 hg; have NB455_454 := NQ BK454 hg; replace BK454 := BV BK454 hb; clear hb hg; have hnb70 := NB454_455.out; have hnc70 := NB455_454.out; obtain ⟨hcz71_0, hcz71_1, hcz71_2, hcz71_3, hcz71_4, hcz71_5, hcz71_6, hcz71_7, hcz71_8, hfz71_0, hfz71_1, hfz71_2, hfz71_3, hfz71_4, hfz71_5, hfz71_6, hfz71_7, hfz71_8⟩ := bk9 BK454.out; obtain ⟨hcz72_0, hcz72_1, hcz72_2, hcz72_3, hcz72_4, hcz72_5, hcz72_6, hcz72_7, hcz72_8, hfz72_0, hfz72_1, hfz72_2, hfz72_3, hfz72_4, hfz72_5, hfz72_6, hfz72_7, hfz72_8⟩ := bk9 BK455.out))
  go_ret
  exact QT (BT HB.out)
 rw [if_pos c3] at H
 have c3b0 : (a0_0 == a1_0) = true := beq_iff_eq.mpr c3
 have c3b1 : (a0_0 != a1_0) = false := bne_eq_false_iff_eq.mpr c3
 clear c3
 by_cases c4 : a0_1 = a1_1
 rotate_left
 ·rw [if_neg c4] at H
  have c4b0 : (a0_1 == a1_1) = false := beq_eq_false_iff_ne.mpr c4
  have c4b1 : (a0_1 != a1_1) = true := bne_iff_ne.mpr c4
  obtain rfl := Option.some.inj H
  go_enter Try.func84, Try.ntmps84
  go_wp2_with (first | ((with_reducible refine G2 2 rfl ?_); refine BY 2 #[.int .i64 a0_0, .int .i64 a0_1, .int .i64 a0_2, .int .i64 a0_3, .int .i64 a0_4, .int .i64 a0_5, .int .i64 a0_6, .slice A0_7 l0_7.length c0_7, .slice A0_8 l0_8.length c0_8] 48 HB ?_; clear HB; intro gb454 w63 BK454 GW454 HB) | ((with_reducible refine G2 3 rfl ?_); refine BZ 3 #[.int .i64 a1_0, .int .i64 a1_1, .int .i64 a1_2, .int .i64 a1_3, .int .i64 a1_4, .int .i64 a1_5, .int .i64 a1_6, .slice A1_7 l1_7.length c1_7, .slice A1_8 l1_8.length c1_8] 48 HB ?_; clear HB; intro gb455 w64 hg hb BK455 GW455 HB; have NB454_455 := NP BK454 hg; have NB455_454 := NQ BK454 hg; replace BK454 := BV BK454 hb; clear hb hg; have hnb65 := NB454_455.out; have hnc65 := NB455_454.out; obtain ⟨hcz66_0, hcz66_1, hcz66_2, hcz66_3, hcz66_4, hcz66_5, hcz66_6, hcz66_7, hcz66_8, hfz66_0, hfz66_1, hfz66_2, hfz66_3, hfz66_4, hfz66_5, hfz66_6, hfz66_7, hfz66_8⟩ := bk9 BK454.out; obtain ⟨hcz67_0, hcz67_1, hcz67_2, hcz67_3, hcz67_4, hcz67_5, hcz67_6, hcz67_7, hcz67_8, hfz67_0, hfz67_1, hfz67_2, hfz67_3, hfz67_4, hfz67_5, hfz67_6, hfz67_7, hfz67_8⟩ := bk9 BK455.out))
  go_ret
  exact QT (BT HB.out)
 rw [if_pos c4] at H
 have c4b0 : (a0_1 == a1_1) = true := beq_iff_eq.mpr c4
 have c4b1 : (a0_1 != a1_1) = false := bne_eq_false_iff_eq.mpr c4
 clear c4
 by_cases c5 : a0_2 = a1_2
 rotate_left
 ·rw [if_neg c5] at H
  have c5b0 : (a0_2 == a1_2) = false := beq_eq_false_iff_ne.mpr c5
  have c5b1 : (a0_2 != a1_2) = true := bne_iff_ne.mpr c5
  obtain rfl := Option.some.inj H
  go_enter Try.func84, Try.ntmps84
  go_wp2_with (first | ((with_reducible refine G2 2 rfl ?_); refine BY 2 #[.int .i64 a0_0, .int .i64 a0_1, .int .i64 a0_2, .int .i64 a0_3, .int .i64 a0_4, .int .i64 a0_5, .int .i64 a0_6, .slice A0_7 l0_7.length c0_7, .slice A0_8 l0_8.length c0_8] 48 HB ?_; clear HB; intro gb454 w58 BK454 GW454 HB) | ((with_reducible refine G2 3 rfl ?_); refine BZ 3 #[.int .i64 a1_0, .int .i64 a1_1, .int .i64 a1_2, .int .i64 a1_3, .int .i64 a1_4, .int .i64 a1_5, .int .i64 a1_6, .slice A1_7 l1_7.length c1_7, .slice A1_8 l1_8.length c1_8] 48 HB ?_; clear HB; intro gb455 w59 hg hb BK455 GW455 HB; have NB454_455 := NP BK454 hg; have NB455_454 := NQ BK454 hg; replace BK454 := BV BK454 hb; clear hb hg; have hnb60 := NB454_455.out; have hnc60 := NB455_454.out; obtain ⟨hcz61_0, hcz61_1, hcz61_2, hcz61_3, hcz61_4, hcz61_5, hcz61_6, hcz61_7, hcz61_8, hfz61_0, hfz61_1, hfz61_2, hfz61_3, hfz61_4, hfz61_5, hfz61_6, hfz61_7, hfz61_8⟩ := bk9 BK454.out; obtain ⟨hcz62_0, hcz62_1, hcz62_2, hcz62_3, hcz62_4, hcz62_5, hcz62_6, hcz62_7, hcz62_8, hfz62_0, hfz62_1, hfz62_2, hfz62_3, hfz62_4, hfz62_5, hfz62_6, hfz62_7, hfz62_8⟩ := bk9 BK455.out))
  go_ret
  exact QT (BT HB.out)
 rw [if_pos c5] at H
 have c5b0 : (a0_2 == a1_2) = true := beq_iff_eq.mpr c5
 have c5b1 : (a0_2 != a1_2) = false := bne_eq_false_iff_eq.mpr c5
 clear c5
 by_cases c6 : a0_3 = a1_3
 rotate_left
 ·rw [if_neg c6] at H
  have c6b0 : (a0_3 == a1_3) = false := beq_eq_false_iff_ne.mpr c6
  have c6b1 : (a0_3 != a1_3) = true := bne_iff_ne.mpr c6
  obtain rfl := Option.some.inj H
  go_enter Try.func84, Try.ntmps84
  go_wp2_with (first | ((with_reducible refine G2 2 rfl ?_); refine BY 2 #[.int .i64 a0_0, .int .i64 a0_1, .int .i64 a0_2, .int .i64 a0_3, .int .i64 a0_4, .int .i64 a0_5, .int .i64 a0_6, .slice A0_7 l0_7.length c0_7, .slice A0_8 l0_8.length c0_8] 48 HB ?_; clear HB; intro gb454 w53 BK454 GW454 HB) | ((with_reducible refine G2 3 rfl ?_); refine BZ 3 #[.int .i64 a1_0, .int .i64 a1_1, .int .i64 a1_2, .int .i64 a1_3, .int .i64 a1_4, .int .i64 a1_5, .int .i64 a1_6, .slice A1_7 l1_7.length c1_7, .slice A1_8 l1_8.length c1_8] 48 HB ?_; clear HB; intro gb455 w54 hg hb BK455 GW455 HB; have NB454_455 := NP BK454 hg; have NB455_454 := NQ BK454 hg; replace BK454 := BV BK454 hb; clear hb hg; have hnb55 := NB454_455.out; have hnc55 := NB455_454.out; obtain ⟨hcz56_0, hcz56_1, hcz56_2, hcz56_3, hcz56_4, hcz56_5, hcz56_6, hcz56_7, hcz56_8, hfz56_0, hfz56_1, hfz56_2, hfz56_3, hfz56_4, hfz56_5, hfz56_6, hfz56_7, hfz56_8⟩ := bk9 BK454.out; obtain ⟨hcz57_0, hcz57_1, hcz57_2, hcz57_3, hcz57_4, hcz57_5, hcz57_6, hcz57_7, hcz57_8, hfz57_0, hfz57_1, hfz57_2, hfz57_3, hfz57_4, hfz57_5, hfz57_6, hfz57_7, hfz57_8⟩ := bk9 BK455.out))
  go_ret
  exact QT (BT HB.out)
 rw [if_pos c6] at H
 have c6b0 : (a0_3 == a1_3) = true := beq_iff_eq.mpr c6
 have c6b1 : (a0_3 != a1_3) = false := bne_eq_false_iff_eq.mpr c6
 clear c6
 by_cases c7 : a0_4 = a1_4
 rotate_left
 ·rw [if_neg c7] at H
  have c7b0 : (a0_4 == a1_4) = false := beq_eq_false_iff_ne.mpr c7
  have c7b1 : (a0_4 != a1_4) = true := bne_iff_ne.mpr c7
  obtain rfl := Option.some.inj H
  go_enter Try.func84, Try.ntmps84
  go_wp2_with (first | ((with_reducible refine G2 2 rfl ?_); refine BY 2 #[.int .i64 a0_0, .int .i64 a0_1, .int .i64 a0_2, .int .i64 a0_3, .int .i64 a0_4, .int .i64 a0_5, .int .i64 a0_6, .slice A0_7 l0_7.length c0_7, .slice A0_8 l0_8.length c0_8] 48 HB ?_; clear HB; intro gb454 w48 BK454 GW454 HB) | ((with_reducible refine G2 3 rfl ?_); refine BZ 3 #[.int .i64 a1_0, .int .i64 a1_1, .int .i64 a1_2, .int .i64 a1_3, .int .i64 a1_4, .int .i64 a1_5, .int .i64 a1_6, .slice A1_7 l1_7.length c1_7, .slice A1_8 l1_8.length c1_8] 48 HB ?_; clear HB; intro gb455 w49 hg hb BK455 GW455 HB; have NB454_455 := NP BK454 hg; have NB455_454 := NQ BK454 hg; replace BK454 := BV BK454 hb; clear hb hg; have hnb50 := NB454_455.out; have hnc50 := NB455_454.out; obtain ⟨hcz51_0, hcz51_1, hcz51_2, hcz51_3, hcz51_4, hcz51_5, hcz51_6, hcz51_7, hcz51_8, hfz51_0, hfz51_1, hfz51_2, hfz51_3, hfz51_4, hfz51_5, hfz51_6, hfz51_7, hfz51_8⟩ := bk9 BK454.out; obtain ⟨hcz52_0, hcz52_1, hcz52_2, hcz52_3, hcz52_4, hcz52_5, hcz52_6, hcz52_7, hcz52_8, hfz52_0, hfz52_1, hfz52_2, hfz52_3, hfz52_4, hfz52_5, hfz52_6, hfz52_7, hfz52_8⟩ := bk9 BK455.out))
  go_ret
  exact QT (BT HB.out)
 rw [if_pos c7] at H
 have c7b0 : (a0_4 == a1_4) = true := beq_iff_eq.mpr c7
 have c7b1 : (a0_4 != a1_4) = false := bne_eq_false_iff_eq.mpr c7
 clear c7
 by_cases c8 : a0_5 = a1_5
 rotate_left
 ·rw [if_neg c8] at H
  have c8b0 : (a0_5 == a1_5) = false := beq_eq_false_iff_ne.mpr c8
  have c8b1 : (a0_5 != a1_5) = true := bne_iff_ne.mpr c8
  obtain rfl := Option.some.inj H
  go_enter Try.func84, Try.ntmps84
  go_wp2_with (first | ((with_reducible refine G2 2 rfl ?_); refine BY 2 #[.int .i64 a0_0, .int .i64 a0_1, .int .i64 a0_2, .int .i64 a0_3, .int .i64 a0_4, .int .i64 a0_5, .int .i64 a0_6, .slice A0_7 l0_7.length c0_7, .slice A0_8 l0_8.length c0_8] 48 HB ?_; clear HB; intro gb454 w43 BK454 GW454 HB) | ((with_reducible refine G2 3 rfl ?_); refine BZ 3 #[.int .i64 a1_0, .int .i64 a1_1, .int .i64 a1_2, .int .i64 a1_3, .int .i64 a1_4, .int .i64 a1_5, .int .i64 a1_6, .slice A1_7 l1_7.length c1_7, .slice A1_8 l1_8.length c1_8] 48 HB ?_; clear HB; intro gb455 w44 hg hb BK455 GW455 HB; have NB454_455 := NP BK454 hg; have NB455_454 := NQ BK454 hg; replace BK454 := BV BK454 hb; clear hb hg; have hnb45 := NB454_455.out; have hnc45 := NB455_454.out; obtain ⟨hcz46_0, hcz46_1, hcz46_2, hcz46_3, hcz46_4, hcz46_5, hcz46_6, hcz46_7, hcz46_8, hfz46_0, hfz46_1, hfz46_2, hfz46_3, hfz46_4, hfz46_5, hfz46_6, hfz46_7, hfz46_8⟩ := bk9 BK454.out; obtain ⟨hcz47_0, hcz47_1, hcz47_2, hcz47_3, hcz47_4, hcz47_5, hcz47_6, hcz47_7, hcz47_8, hfz47_0, hfz47_1, hfz47_2, hfz47_3, hfz47_4, hfz47_5, hfz47_6, hfz47_7, hfz47_8⟩ := bk9 BK455.out))
  go_ret
  exact QT (BT HB.out)
 rw [if_pos c8] at H
 have c8b0 : (a0_5 == a1_5) = true := beq_iff_eq.mpr c8
 have c8b1 : (a0_5 != a1_5) = false := bne_eq_false_iff_eq.mpr c8
 clear c8
 by_cases c9 : a0_6 = a1_6
 rotate_left
 ·rw [if_neg c9] at H
  have c9b0 : (a0_6 == a1_6) = false := beq_eq_false_iff_ne.mpr c9
  have c9b1 : (a0_6 != a1_6) = true := bne_iff_ne.mpr c9
  obtain rfl := Option.some.inj H
  go_enter Try.func84, Try.ntmps84
  go_wp2_with (first | ((with_reducible refine G2 2 rfl ?_); refine BY 2 #[.int .i64 a0_0, .int .i64 a0_1, .int .i64 a0_2, .int .i64 a0_3, .int .i64 a0_4, .int .i64 a0_5, .int .i64 a0_6, .slice A0_7 l0_7.length c0_7, .slice A0_8 l0_8.length c0_8] 48 HB ?_; clear HB; intro gb454 w38 BK454 GW454 HB) | ((with_reducible refine G2 3 rfl ?_); refine BZ 3 #[.int .i64 a1_0, .int .i64 a1_1, .int .i64 a1_2, .int .i64 a1_3, .int .i64 a1_4, .int .i64 a1_5, .int .i64 a1_6, .slice A1_7 l1_7.length c1_7, .slice A1_8 l1_8.length c1_8] 48 HB ?_; clear HB; intro gb455 w39 hg hb BK455 GW455 HB; have NB454_455 := NP BK454 hg; have NB455_454 := NQ BK454 hg; replace BK454 := BV BK454 hb; clear hb hg; have hnb40 := NB454_455.out; have hnc40 := NB455_454.out; obtain ⟨hcz41_0, hcz41_1, hcz41_2, hcz41_3, hcz41_4, hcz41_5, hcz41_6, hcz41_7, hcz41_8, hfz41_0, hfz41_1, hfz41_2, hfz41_3, hfz41_4, hfz41_5, hfz41_6, hfz41_7, hfz41_8⟩ := bk9 BK454.out; obtain ⟨hcz42_0, hcz42_1, hcz42_2, hcz42_3, hcz42_4, hcz42_5, hcz42_6, hcz42_7, hcz42_8, hfz42_0, hfz42_1, hfz42_2, hfz42_3, hfz42_4, hfz42_5, hfz42_6, hfz42_7, hfz42_8⟩ := bk9 BK455.out))
  go_ret
  exact QT (BT HB.out)
 rw [if_pos c9] at H
 have c9b0 : (a0_6 == a1_6) = true := beq_iff_eq.mpr c9
 have c9b1 : (a0_6 != a1_6) = false := bne_eq_false_iff_eq.mpr c9
 clear c9
 obtain ⟨t456, A10, H⟩ := OB H
 by_cases c11 : t456 = true
 rotate_left
 ·replace c11 := Bool.eq_false_iff.mpr c11
  subst c11
  replace H := HF H
  obtain rfl := Option.some.inj H
  go_enter Try.func84, Try.ntmps84
  go_wp2_with (first | ((with_reducible refine G2 2 rfl ?_); refine BY 2 #[.int .i64 a0_0, .int .i64 a0_1, .int .i64 a0_2, .int .i64 a0_3, .int .i64 a0_4, .int .i64 a0_5, .int .i64 a0_6, .slice A0_7 l0_7.length c0_7, .slice A0_8 l0_8.length c0_8] 48 HB ?_; clear HB; intro gb454 w32 BK454 GW454 HB) | ((with_reducible refine G2 3 rfl ?_); refine BZ 3 #[.int .i64 a1_0, .int .i64 a1_1, .int .i64 a1_2, .int .i64 a1_3, .int .i64 a1_4, .int .i64 a1_5, .int .i64 a1_6, .slice A1_7 l1_7.length c1_7, .slice A1_8 l1_8.length c1_8] 48 HB ?_; clear HB; intro gb455 w33 hg hb BK455 GW455 HB; have NB454_455 := NP BK454 hg; have NB455_454 := NQ BK454 hg; replace BK454 := BV BK454 hb; clear hb hg; have hnb34 := NB454_455.out; have hnc34 := NB455_454.out; obtain ⟨hcz35_0, hcz35_1, hcz35_2, hcz35_3, hcz35_4, hcz35_5, hcz35_6, hcz35_7, hcz35_8, hfz35_0, hfz35_1, hfz35_2, hfz35_3, hfz35_4, hfz35_5, hfz35_6, hfz35_7, hfz35_8⟩ := bk9 BK454.out; obtain ⟨hcz36_0, hcz36_1, hcz36_2, hcz36_3, hcz36_4, hcz36_5, hcz36_6, hcz36_7, hcz36_8, hfz36_0, hfz36_1, hfz36_2, hfz36_3, hfz36_4, hfz36_5, hfz36_6, hfz36_7, hfz36_8⟩ := bk9 BK455.out) | ((with_reducible refine G1 119 rfl ?_); refine GC (some 44) Try.func119 #[.slice A0_7 l0_7.length c0_7, .slice A1_7 l1_7.length c1_7] ?_; (with_reducible refine MB (laws_eqReadMarkS.calls k _ _ l0_7 _ _ l1_7 false _ (CC HR0_7 HB) HC0_7.out (CC HR1_7 HB) HC1_7.out A10.out) ?_); intro w37 hb; replace BK454 := BV BK454 hb; replace BK455 := BV BK455 hb; replace HB := BW HB hb; (try clear hb)))
  go_ret
  exact QT (BT HB.out)
 subst c11
 replace H := HT H
 obtain ⟨t457, A12, H⟩ := OB H
 by_cases c13 : t457 = true
 ·subst c13
  replace H := HT H
  obtain rfl := Option.some.inj H
  go_enter Try.func84, Try.ntmps84
  go_wp2_with (first | ((with_reducible refine G2 2 rfl ?_); refine BY 2 #[.int .i64 a0_0, .int .i64 a0_1, .int .i64 a0_2, .int .i64 a0_3, .int .i64 a0_4, .int .i64 a0_5, .int .i64 a0_6, .slice A0_7 l0_7.length c0_7, .slice A0_8 l0_8.length c0_8] 48 HB ?_; clear HB; intro gb454 w14 BK454 GW454 HB) | ((with_reducible refine G2 3 rfl ?_); refine BZ 3 #[.int .i64 a1_0, .int .i64 a1_1, .int .i64 a1_2, .int .i64 a1_3, .int .i64 a1_4, .int .i64 a1_5, .int .i64 a1_6, .slice A1_7 l1_7.length c1_7, .slice A1_8 l1_8.length c1_8] 48 HB ?_; clear HB; intro gb455 w15 hg hb BK455 GW455 HB; have NB454_455 := NP BK454 hg; have NB455_454 := NQ BK454 hg; replace BK454 := BV BK454 hb; clear hb hg; have hnb16 := NB454_455.out; have hnc16 := NB455_454.out; obtain ⟨hcz17_0, hcz17_1, hcz17_2, hcz17_3, hcz17_4, hcz17_5, hcz17_6, hcz17_7, hcz17_8, hfz17_0, hfz17_1, hfz17_2, hfz17_3, hfz17_4, hfz17_5, hfz17_6, hfz17_7, hfz17_8⟩ := bk9 BK454.out; obtain ⟨hcz18_0, hcz18_1, hcz18_2, hcz18_3, hcz18_4, hcz18_5, hcz18_6, hcz18_7, hcz18_8, hfz18_0, hfz18_1, hfz18_2, hfz18_3, hfz18_4, hfz18_5, hfz18_6, hfz18_7, hfz18_8⟩ := bk9 BK455.out) | ((with_reducible refine G1 119 rfl ?_); refine GC (some 44) Try.func119 #[.slice A0_7 l0_7.length c0_7, .slice A1_7 l1_7.length c1_7] ?_; (with_reducible refine MB (laws_eqReadMarkS.calls k _ _ l0_7 _ _ l1_7 true _ (CC HR0_7 HB) HC0_7.out (CC HR1_7 HB) HC1_7.out A10.out) ?_); intro w19 hb; replace BK454 := BV BK454 hb; replace BK455 := BV BK455 hb; replace HB := BW HB hb; (try clear hb); obtain ⟨hcz20_0, hcz20_1, hcz20_2, hcz20_3, hcz20_4, hcz20_5, hcz20_6, hcz20_7, hcz20_8, hfz20_0, hfz20_1, hfz20_2, hfz20_3, hfz20_4, hfz20_5, hfz20_6, hfz20_7, hfz20_8⟩ := bk9 BK454.out; obtain ⟨hcz21_0, hcz21_1, hcz21_2, hcz21_3, hcz21_4, hcz21_5, hcz21_6, hcz21_7, hcz21_8, hfz21_0, hfz21_1, hfz21_2, hfz21_3, hfz21_4, hfz21_5, hfz21_6, hfz21_7, hfz21_8⟩ := bk9 BK455.out) | ((with_reducible refine G1 120 rfl ?_); refine GC (some 50) Try.func120 #[.slice A0_8 l0_8.length c0_8, .slice A1_8 l1_8.length c1_8] ?_; (with_reducible refine MB (laws_eqWriteS.calls k _ _ l0_8 _ _ l1_8 true _ (CC HR0_8 HB) HC0_8.out (CC HR1_8 HB) HC1_8.out A12.out) ?_); intro w22 hb; replace BK454 := BV BK454 hb; replace BK455 := BV BK455 hb; replace HB := BW HB hb; (try clear hb)))
  go_ret
  exact QT (BT HB.out)
 replace c13 := Bool.eq_false_iff.mpr c13
 subst c13
 replace H := HF H
 obtain rfl := Option.some.inj H
 go_enter Try.func84, Try.ntmps84
 go_wp2_with (first | ((with_reducible refine G2 2 rfl ?_); refine BY 2 #[.int .i64 a0_0, .int .i64 a0_1, .int .i64 a0_2, .int .i64 a0_3, .int .i64 a0_4, .int .i64 a0_5, .int .i64 a0_6, .slice A0_7 l0_7.length c0_7, .slice A0_8 l0_8.length c0_8] 48 HB ?_; clear HB; intro gb454 w23 BK454 GW454 HB) | ((with_reducible refine G2 3 rfl ?_); refine BZ 3 #[.int .i64 a1_0, .int .i64 a1_1, .int .i64 a1_2, .int .i64 a1_3, .int .i64 a1_4, .int .i64 a1_5, .int .i64 a1_6, .slice A1_7 l1_7.length c1_7, .slice A1_8 l1_8.length c1_8] 48 HB ?_; clear HB; intro gb455 w24 hg hb BK455 GW455 HB; have NB454_455 := NP BK454 hg; have NB455_454 := NQ BK454 hg; replace BK454 := BV BK454 hb; clear hb hg; have hnb25 := NB454_455.out; have hnc25 := NB455_454.out; obtain ⟨hcz26_0, hcz26_1, hcz26_2, hcz26_3, hcz26_4, hcz26_5, hcz26_6, hcz26_7, hcz26_8, hfz26_0, hfz26_1, hfz26_2, hfz26_3, hfz26_4, hfz26_5, hfz26_6, hfz26_7, hfz26_8⟩ := bk9 BK454.out; obtain ⟨hcz27_0, hcz27_1, hcz27_2, hcz27_3, hcz27_4, hcz27_5, hcz27_6, hcz27_7, hcz27_8, hfz27_0, hfz27_1, hfz27_2, hfz27_3, hfz27_4, hfz27_5, hfz27_6, hfz27_7, hfz27_8⟩ := bk9 BK455.out) | ((with_reducible refine G1 119 rfl ?_); refine GC (some 44) Try.func119 #[.slice A0_7 l0_7.length c0_7, .slice A1_7 l1_7.length c1_7] ?_; (with_reducible refine MB (laws_eqReadMarkS.calls k _ _ l0_7 _ _ l1_7 true _ (CC HR0_7 HB) HC0_7.out (CC HR1_7 HB) HC1_7.out A10.out) ?_); intro w28 hb; replace BK454 := BV BK454 hb; replace BK455 := BV BK455 hb; replace HB := BW HB hb; (try clear hb); obtain ⟨hcz29_0, hcz29_1, hcz29_2, hcz29_3, hcz29_4, hcz29_5, hcz29_6, hcz29_7, hcz29_8, hfz29_0, hfz29_1, hfz29_2, hfz29_3, hfz29_4, hfz29_5, hfz29_6, hfz29_7, hfz29_8⟩ := bk9 BK454.out; obtain ⟨hcz30_0, hcz30_1, hcz30_2, hcz30_3, hcz30_4, hcz30_5, hcz30_6, hcz30_7, hcz30_8, hfz30_0, hfz30_1, hfz30_2, hfz30_3, hfz30_4, hfz30_5, hfz30_6, hfz30_7, hfz30_8⟩ := bk9 BK455.out) | ((with_reducible refine G1 120 rfl ?_); refine GC (some 50) Try.func120 #[.slice A0_8 l0_8.length c0_8, .slice A1_8 l1_8.length c1_8] ?_; (with_reducible refine MB (laws_eqWriteS.calls k _ _ l0_8 _ _ l1_8 false _ (CC HR0_8 HB) HC0_8.out (CC HR1_8 HB) HC1_8.out A12.out) ?_); intro w31 hb; replace BK454 := BV BK454 hb; replace BK455 := BV BK455 hb; replace HB := BW HB hb; (try clear hb)))
 go_ret
 exact QT (BT HB.out)

/-! ### laws_eqTransactionS: function 50 -/
def laws_eqTransactionS.l0 : Nat → List (S48) → List (S48) → Int → Option (Bool)
 | 0, _, _, _ => none
 | k + 1, x0, x1, x5 => if x5 < (x0.length : Int) then (if 0 ≤ x5 then (if x5 < (x1.length : Int) then ((laws_eqTransaction.f k ((rd_T48 x0 x5).f0) ((rd_T48 x0 x5).f1) ((rd_T48 x0 x5).f2) ((rd_T48 x0 x5).f3) ((rd_T48 x0 x5).f4) ((rd_T48 x0 x5).f5) ((rd_T48 x0 x5).f6) ((rd_T48 x0 x5).f7) ((rd_T48 x0 x5).f8) ((rd_T48 x1 x5).f0) ((rd_T48 x1 x5).f1) ((rd_T48 x1 x5).f2) ((rd_T48 x1 x5).f3) ((rd_T48 x1 x5).f4) ((rd_T48 x1 x5).f5) ((rd_T48 x1 x5).f6) ((rd_T48 x1 x5).f7) ((rd_T48 x1 x5).f8)).bind fun t460 => (if t460 = true then (laws_eqTransactionS.l0 k x0 x1 (wrap64 (x5 + 1))) else (some false))) else (none)) else (none)) else (some true)
def laws_eqTransactionS.f (k : Nat) (l0 : List (S48)) (l1 : List (S48)) : Option (Bool) := if (l0.length : Int) = (l1.length : Int) then (laws_eqTransactionS.l0 k l0 l1 0) else (some false)
theorem laws_eqTransactionS.mono_l : ∀ k, (∀ y0 y1 y2, LeO (laws_eqTransactionS.l0 k y0 y1 y2) (laws_eqTransactionS.l0 (k + 1) y0 y1 y2))
 | 0 => fun _ _ _ r h => by simp [laws_eqTransactionS.l0] at h
 | k + 1 => by
  have ih0 := laws_eqTransactionS.mono_l k
  all_goals intros; unfold laws_eqTransactionS.l0
  all_goals repeat' (with_reducible first | exact ih0 .. | exact laws_eqTransaction.mono .. | exact LeO.refl _ | exact LeO.none _ | refine LeO.ite ?_ ?_ | refine LeO.bind ?_ (fun _ => ?_))
theorem laws_eqTransactionS.mono : ∀ a0 a1 k, LeO (laws_eqTransactionS.f k a0 a1) (laws_eqTransactionS.f (k + 1) a0 a1) := by
 intro a0 a1 k
 have ih0 := laws_eqTransactionS.mono_l k
 unfold laws_eqTransactionS.f
 repeat' (with_reducible first | exact ih0 .. | exact laws_eqTransaction.mono .. | exact LeO.refl _ | exact LeO.none _ | refine LeO.ite ?_ ?_ | refine LeO.bind ?_ (fun _ => ?_))
def laws_eqTransactionS.T6 : Bool × List (List Nat × List Nat) := (true, [([], []), ([], []), ([0, 1], [0, 1]), ([2], [2]), ([], []), ([], []), ([4, 5], [4, 5]), ([6], [6]), ([3, 7], [3, 7]), ([8], [8])])
def laws_eqTransactionS.B6 : List Nat := [0, 0, 3, 7, 0, 0, 48, 112, 255, 511]
theorem laws_eqTransactionS.tab6 : rtab .any (opsOf Try.f50 6) = laws_eqTransactionS.T6 := by kernel_rfl
theorem laws_eqTransactionS.bits6 : waitsOk laws_eqTransactionS.T6.2 laws_eqTransactionS.B6 = true := by kernel_rfl
theorem laws_eqTransactionS.calls (k : Nat) (A0 : Option Addr) (c0 : Nat) (l0 : List (S48)) (A1 : Option Addr) (c1 : Nat) (l1 : List (S48)) (r : Bool) (w : World) (hr0 : Kd.C k48 w A0 l0.length l0) (hc0 : l0.length ≤ c0) (hr1 : Kd.C k48 w A1 l1.length l1) (hc1 : l1.length ≤ c1) (h : laws_eqTransactionS.f k l0 l1 = some r) :
  Calls Try.prog 50 #[.slice A0 l0.length c0, .slice A1 l1.length c1] w fun e w' => e = .returned (.bool r) ∧ Below w.heap.size w w' := by
 have hu48 := Try.underlying48
 have HR0 := AM_ hr0
 have HC0 := AM_ hc0
 clear hr0 hc0
 have HR1 := AM_ hr1
 have HC1 := AM_ hc1
 clear hr1 hc1
 have HB := AM_ (Below.refl w.heap.size w)
 unfold laws_eqTransactionS.f at h
 have H := h
 clear h
 by_cases c3 : (l0.length : Int) = (l1.length : Int)
 rotate_left
 ·rw [if_neg c3] at H
  have c3b0 : ((l0.length : Int) == (l1.length : Int)) = false := beq_eq_false_iff_ne.mpr c3
  have c3b1 : ((l0.length : Int) != (l1.length : Int)) = true := bne_iff_ne.mpr c3
  have c3b2 : (l0.length == l1.length) = false := by first | simpa using c3 | (simp at c3 ⊢; omega)
  obtain rfl := Option.some.inj H
  go_enter Try.func50, Try.ntmps50
  go_wp2
  go_ret
  exact QT (BT HB.out)
 rw [if_pos c3] at H
 have c3b0 : ((l0.length : Int) == (l1.length : Int)) = true := beq_iff_eq.mpr c3
 have c3b1 : ((l0.length : Int) != (l1.length : Int)) = false := bne_eq_false_iff_eq.mpr c3
 have c3b2 : (l0.length == l1.length) = true := by first | simpa using c3 | (simp at c3 ⊢; omega)
 clear c3
 have H' := AM_ H
 clear H
 go_enter Try.func50, Try.ntmps50
 go_wp2
 go_loopg [5] k (fun kq v5 w' => ∃ (x5_1 : Int), v5 = .int .i64 x5_1 ∧ Aside0 (laws_eqTransactionS.l0 kq l0 l1 x5_1 = some r) ∧ Aside0 (kq ≤ k) ∧ Aside0 (Below w.heap.size w w'))
 case atStart => exact ⟨(0), (by first | rfl | (simp; done) | (simp [*]; done)), H', ⟨Nat.le_refl _⟩, ⟨BT HB.out⟩⟩
 case round =>
  clear H'
  try clear c1
  try clear c3
  try clear c3b0
  try clear c3b1
  try clear c3b2
  obtain ⟨x5_1, rfl, HA, HK1, HB⟩ := hrel
  cases gk with
  | zero => exact absurd HA.out (by simp [laws_eqTransactionS.l0])
  | succ k1 =>
   have H := HA.out
   clear HA
   simp only [laws_eqTransactionS.l0] at H
   by_cases c4 : x5_1 < (l0.length : Int)
   rotate_left
   ·rw [if_neg c4] at H
    have c4b0 := decide_eq_false c4
    clear c4
    obtain rfl := Option.some.inj H
    go_wp2
    go_ret
    exact QT (BT HB.out)
   rw [if_pos c4] at H
   have c4b0 := decide_eq_true c4
   clear c4
   replace H := HI H
   obtain ⟨c5, H⟩ := H
   have c5b0 := decide_eq_true c5
   clear c5
   replace H := HI H
   obtain ⟨c6, H⟩ := H
   have c6b0 := decide_eq_true c6
   clear c6
   obtain ⟨t460, A7, H⟩ := OB H
   try go_wp2
   replace HB := BD2 HB
   have p458 : 0 ≤ (x5_1 : Int) := DT
   have q458 : x5_1 < (l0.length : Int) := DT
   obtain ⟨ad458, A458_7, c458_7, A458_8, c458_8, e458, hx458_0, hx458_1, hx458_2, hx458_3, hx458_4, hx458_5, hx458_6, hx458_7, hx458_8, hl458_7, hi458_7, hl458_8, hi458_8⟩ := at_T48 HR0.out x5_1 p458 q458
   have hw458_8 := hx458_8
   have hw458_7 := hx458_7
   have hw458_6 := hx458_6
   have hw458_5 := hx458_5
   have hw458_4 := hx458_4
   have hw458_3 := hx458_3
   have hw458_2 := hx458_2
   have hw458_1 := hx458_1
   have hw458_0 := hx458_0
   cases e458
   replace hx458_0 := BC HB.out hx458_0
   replace hx458_1 := BC HB.out hx458_1
   replace hx458_2 := BC HB.out hx458_2
   replace hx458_3 := BC HB.out hx458_3
   replace hx458_4 := BC HB.out hx458_4
   replace hx458_5 := BC HB.out hx458_5
   replace hx458_6 := BC HB.out hx458_6
   replace hx458_7 := BC HB.out hx458_7
   replace hx458_8 := BC HB.out hx458_8
   have HR458_7 := AM_ hi458_7
   have HC458_7 := AM_ hl458_7
   clear hi458_7 hl458_7
   have HR458_8 := AM_ hi458_8
   have HC458_8 := AM_ hl458_8
   clear hi458_8 hl458_8
   replace p458 := eq_true p458
   replace q458 := eq_true q458
   have p459 : 0 ≤ (x5_1 : Int) := DT
   have q459 : x5_1 < (l1.length : Int) := DT
   obtain ⟨ad459, A459_7, c459_7, A459_8, c459_8, e459, hx459_0, hx459_1, hx459_2, hx459_3, hx459_4, hx459_5, hx459_6, hx459_7, hx459_8, hl459_7, hi459_7, hl459_8, hi459_8⟩ := at_T48 HR1.out x5_1 p459 q459
   have hw459_8 := hx459_8
   have hw459_7 := hx459_7
   have hw459_6 := hx459_6
   have hw459_5 := hx459_5
   have hw459_4 := hx459_4
   have hw459_3 := hx459_3
   have hw459_2 := hx459_2
   have hw459_1 := hx459_1
   have hw459_0 := hx459_0
   cases e459
   replace hx459_0 := BC HB.out hx459_0
   replace hx459_1 := BC HB.out hx459_1
   replace hx459_2 := BC HB.out hx459_2
   replace hx459_3 := BC HB.out hx459_3
   replace hx459_4 := BC HB.out hx459_4
   replace hx459_5 := BC HB.out hx459_5
   replace hx459_6 := BC HB.out hx459_6
   replace hx459_7 := BC HB.out hx459_7
   replace hx459_8 := BC HB.out hx459_8
   have HR459_7 := AM_ hi459_7
   have HC459_7 := AM_ hl459_7
   clear hi459_7 hl459_7
   have HR459_8 := AM_ hi459_8
   have HC459_8 := AM_ hl459_8
   clear hi459_8 hl459_8
   replace p459 := eq_true p459
   replace q459 := eq_true q459
   refine start_ (n := 10) (S := fun w' => w'.cell? (ad458.add ((x5_1).toNat * 9)) = some (.int .i64 ((rd_T48 l0 x5_1).f0)) ∧ w'.cell? ⟨(ad458.add ((x5_1).toNat * 9)).block, (ad458.add ((x5_1).toNat * 9)).off + 1, none⟩ = some (.int .i64 ((rd_T48 l0 x5_1).f1)) ∧ w'.cell? ⟨(ad458.add ((x5_1).toNat * 9)).block, (ad458.add ((x5_1).toNat * 9)).off + 2, none⟩ = some (.int .i64 ((rd_T48 l0 x5_1).f2)) ∧ w'.cell? ⟨(ad458.add ((x5_1).toNat * 9)).block, (ad458.add ((x5_1).toNat * 9)).off + 3, none⟩ = some (.int .i64 ((rd_T48 l0 x5_1).f3)) ∧ w'.cell? ⟨(ad458.add ((x5_1).toNat * 9)).block, (ad458.add ((x5_1).toNat * 9)).off + 4, none⟩ = some (.int .i64 ((rd_T48 l0 x5_1).f4)) ∧ w'.cell? ⟨(ad458.add ((x5_1).toNat * 9)).block, (ad458.add ((x5_1).toNat * 9)).off + 5, none⟩ = some (.int .i64 ((rd_T48 l0 x5_1).f5)) ∧ w'.cell? ⟨(ad458.add ((x5_1).toNat * 9)).block, (ad458.add ((x5_1).toNat * 9)).off + 6, none⟩ = some (.int .i64 ((rd_T48 l0 x5_1).f6)) ∧ w'.cell? ⟨(ad458.add ((x5_1).toNat * 9)).block, (ad458.add ((x5_1).toNat * 9)).off + 7, none⟩ = some (.slice A458_7 ((rd_T48 l0 x5_1).f7).length c458_7) ∧ w'.cell? ⟨(ad458.add ((x5_1).toNat * 9)).block, (ad458.add ((x5_1).toNat * 9)).off + 8, none⟩ = some (.slice A458_8 ((rd_T48 l0 x5_1).f8).length c458_8) ∧ w'.cell? (ad459.add ((x5_1).toNat * 9)) = some (.int .i64 ((rd_T48 l1 x5_1).f0)) ∧ w'.cell? ⟨(ad459.add ((x5_1).toNat * 9)).block, (ad459.add ((x5_1).toNat * 9)).off + 1, none⟩ = some (.int .i64 ((rd_T48 l1 x5_1).f1)) ∧ w'.cell? ⟨(ad459.add ((x5_1).toNat * 9)).block, (ad459.add ((x5_1).toNat * 9)).off + 2, none⟩ = some (.int .i64 ((rd_T48 l1 x5_1).f2)) ∧ w'.cell? ⟨(ad459.add ((x5_1).toNat * 9)).block, (ad459.add ((x5_1).toNat * 9)).off + 3, none⟩ = some (.int .i64 ((rd_T48 l1 x5_1).f3)) ∧ w'.cell? ⟨(ad459.add ((x5_1).toNat * 9)).block, (ad459.add ((x5_1).toNat * 9)).off + 4, none⟩ = some (.int .i64 ((rd_T48 l1 x5_1).f4)) ∧ w'.cell? ⟨(ad459.add ((x5_1).toNat * 9)).block, (ad459.add ((x5_1).toNat * 9)).off + 5, none⟩ = some (.int .i64 ((rd_T48 l1 x5_1).f5)) ∧ w'.cell? ⟨(ad459.add ((x5_1).toNat * 9)).block, (ad459.add ((x5_1).toNat * 9)).off + 6, none⟩ = some (.int .i64 ((rd_T48 l1 x5_1).f6)) ∧ w'.cell? ⟨(ad459.add ((x5_1).toNat * 9)).block, (ad459.add ((x5_1).toNat * 9)).off + 7, none⟩ = some (.slice A459_7 ((rd_T48 l1 x5_1).f7).length c459_7) ∧ w'.cell? ⟨(ad459.add ((x5_1).toNat * 9)).block, (ad459.add ((x5_1).toNat * 9)).off + 8, none⟩ = some (.slice A459_8 ((rd_T48 l1 x5_1).f8).length c459_8)) (ds := []) (lo 0 10) (by kernel_rfl) rfl rfl ⟨(BD HB.out hw458_0), (BD HB.out hw458_1), (BD HB.out hw458_2), (BD HB.out hw458_3), (BD HB.out hw458_4), (BD HB.out hw458_5), (BD HB.out hw458_6), (BD HB.out hw458_7), (BD HB.out hw458_8), (BD HB.out hw459_0), (BD HB.out hw459_1), (BD HB.out hw459_2), (BD HB.out hw459_3), (BD HB.out hw459_4), (BD HB.out hw459_5), (BD HB.out hw459_6), (BD HB.out hw459_7), (BD HB.out hw459_8)⟩ (fun hHeld => ?_); refine with_tabW laws_eqTransactionS.tab6 laws_eqTransactionS.bits6 (fun HT_ HW_ => ?_)
   generalize wr.drew = w9 at HB HR458_7 HR458_8 HR459_7 HR459_8 hx458_0 hx458_1 hx458_2 hx458_3 hx458_4 hx458_5 hx458_6 hx458_7 hx458_8 hx459_0 hx459_1 hx459_2 hx459_3 hx459_4 hx459_5 hx459_6 hx459_7 hx459_8 hHeld ⊢
   iterate 3 refine PS HT_ ?_
   refine PV 4 (some 21) (bs 23 10) HT_ ?_
   refine PV 5 (some 22) (bs 55 10) HT_ ?_
   refine PV 6 (some 23) (bs 119 10) HT_ ?_
   refine TX 3 (some 20) (lo 7 10) HT_ HW_ hHeld ?_
   refine TS HT_ HW_ hHeld ?_
   refine OS HT_ (fun K hK => ?_)
   refine GO Try.func84 #[.agg #[.int .i64 ((rd_T48 l0 x5_1).f0), .int .i64 ((rd_T48 l0 x5_1).f1), .int .i64 ((rd_T48 l0 x5_1).f2), .int .i64 ((rd_T48 l0 x5_1).f3), .int .i64 ((rd_T48 l0 x5_1).f4), .int .i64 ((rd_T48 l0 x5_1).f5), .int .i64 ((rd_T48 l0 x5_1).f6), .slice A458_7 ((rd_T48 l0 x5_1).f7).length c458_7, .slice A458_8 ((rd_T48 l0 x5_1).f8).length c458_8], .agg #[.int .i64 ((rd_T48 l1 x5_1).f0), .int .i64 ((rd_T48 l1 x5_1).f1), .int .i64 ((rd_T48 l1 x5_1).f2), .int .i64 ((rd_T48 l1 x5_1).f3), .int .i64 ((rd_T48 l1 x5_1).f4), .int .i64 ((rd_T48 l1 x5_1).f5), .int .i64 ((rd_T48 l1 x5_1).f6), .slice A459_7 ((rd_T48 l1 x5_1).f7).length c459_7, .slice A459_8 ((rd_T48 l1 x5_1).f8).length c459_8]] ?_
   with_reducible refine MB (laws_eqTransaction.calls k1 ((rd_T48 l0 x5_1).f0) ((rd_T48 l0 x5_1).f1) ((rd_T48 l0 x5_1).f2) ((rd_T48 l0 x5_1).f3) ((rd_T48 l0 x5_1).f4) ((rd_T48 l0 x5_1).f5) ((rd_T48 l0 x5_1).f6) _ _ ((rd_T48 l0 x5_1).f7) _ _ ((rd_T48 l0 x5_1).f8) ((rd_T48 l1 x5_1).f0) ((rd_T48 l1 x5_1).f1) ((rd_T48 l1 x5_1).f2) ((rd_T48 l1 x5_1).f3) ((rd_T48 l1 x5_1).f4) ((rd_T48 l1 x5_1).f5) ((rd_T48 l1 x5_1).f6) _ _ ((rd_T48 l1 x5_1).f7) _ _ ((rd_T48 l1 x5_1).f8) t460 _ (CC HR458_7 HB) HC458_7.out (CC HR458_8 HB) HC458_8.out (CC HR459_7 HB) HC459_7.out (CC HR459_8 HB) HC459_8.out A7.out) ?_
   intro w10 hb
   replace HB := BW HB hb
   (try clear hb)
   refine hK.out _ _ ⟨(BD HB.out hw458_0), (BD HB.out hw458_1), (BD HB.out hw458_2), (BD HB.out hw458_3), (BD HB.out hw458_4), (BD HB.out hw458_5), (BD HB.out hw458_6), (BD HB.out hw458_7), (BD HB.out hw458_8), (BD HB.out hw459_0), (BD HB.out hw459_1), (BD HB.out hw459_2), (BD HB.out hw459_3), (BD HB.out hw459_4), (BD HB.out hw459_5), (BD HB.out hw459_6), (BD HB.out hw459_7), (BD HB.out hw459_8)⟩ (fun hHeld => ?_)
   clear hK K
   refine NM 25 ?_
   by_cases c8 : t460 = true
   rotate_left
   ·replace c8 := Bool.eq_false_iff.mpr c8
    subst c8
    replace H := HF H
    obtain rfl := Option.some.inj H
    refine PS HT_ ?_
    refine done_ (done_of HT_.out (by kernel_rfl)) ?_
    try go_wp2
    go_ret
    exact QT (BT HB.out)
   subst c8
   replace H := HT H
   have H' := AM_ H
   clear H
   refine PS HT_ ?_
   refine done_ (done_of HT_.out (by kernel_rfl)) ?_
   try go_wp2
   go_roundg k1
   case measure => have := HK1.out; omega
   case rel => exact ⟨(wrap64 (x5_1 + 1)), (by first | rfl | (simp; done) | (simp [*]; done)), H', ⟨by have := HK1.out; omega⟩, ⟨BT HB.out⟩⟩

/-! ### laws_eqLock: function 85 -/
def laws_eqLock.f (a0_0 : Int) (a0_1 : Int) (a1_0 : Int) (a1_1 : Int) : Option (Bool) := if a0_0 = a1_0 then (if a0_1 = a1_1 then (some true) else (some false)) else (some false)
theorem laws_eqLock.calls (a0_0 : Int) (a0_1 : Int) (a1_0 : Int) (a1_1 : Int) (r : Bool) (w : World) (h : laws_eqLock.f a0_0 a0_1 a1_0 a1_1 = some r) :
  Calls Try.prog 85 #[.agg #[.int .i64 a0_0, .int .i64 a0_1], .agg #[.int .i64 a1_0, .int .i64 a1_1]] w fun e w' => e = .returned (.bool r) ∧ Below w.heap.size w w' := by
 have hu76 := Try.underlying76
 have HB := AM_ (Below.refl w.heap.size w)
 unfold laws_eqLock.f at h
 have H := h
 clear h
 by_cases c3 : a0_0 = a1_0
 rotate_left
 ·rw [if_neg c3] at H
  have c3b0 : (a0_0 == a1_0) = false := beq_eq_false_iff_ne.mpr c3
  have c3b1 : (a0_0 != a1_0) = true := bne_iff_ne.mpr c3
  obtain rfl := Option.some.inj H
  go_enter Try.func85, Try.ntmps85
  go_wp2_with (first | ((with_reducible refine G2 2 rfl ?_); refine BY 2 #[.int .i64 a0_0, .int .i64 a0_1] 76 HB ?_; clear HB; intro gb461 w15 BK461 GW461 HB) | ((with_reducible refine G2 3 rfl ?_); refine BZ 3 #[.int .i64 a1_0, .int .i64 a1_1] 76 HB ?_; clear HB; intro gb462 w16 hg hb BK462 GW462 HB; have NB461_462 := NP BK461 hg; have NB462_461 := NQ BK461 hg; replace BK461 := BV BK461 hb; clear hb hg; have hnb17 := NB461_462.out; have hnc17 := NB462_461.out; obtain ⟨hcz18_0, hcz18_1, hfz18_0, hfz18_1⟩ := bk2 BK461.out; obtain ⟨hcz19_0, hcz19_1, hfz19_0, hfz19_1⟩ := bk2 BK462.out))
  go_ret
  exact QT (BT HB.out)
 rw [if_pos c3] at H
 have c3b0 : (a0_0 == a1_0) = true := beq_iff_eq.mpr c3
 have c3b1 : (a0_0 != a1_0) = false := bne_eq_false_iff_eq.mpr c3
 clear c3
 by_cases c4 : a0_1 = a1_1
 ·rw [if_pos c4] at H
  have c4b0 : (a0_1 == a1_1) = true := beq_iff_eq.mpr c4
  have c4b1 : (a0_1 != a1_1) = false := bne_eq_false_iff_eq.mpr c4
  clear c4
  obtain rfl := Option.some.inj H
  go_enter Try.func85, Try.ntmps85
  go_wp2_with (first | ((with_reducible refine G2 2 rfl ?_); refine BY 2 #[.int .i64 a0_0, .int .i64 a0_1] 76 HB ?_; clear HB; intro gb461 w5 BK461 GW461 HB) | ((with_reducible refine G2 3 rfl ?_); refine BZ 3 #[.int .i64 a1_0, .int .i64 a1_1] 76 HB ?_; clear HB; intro gb462 w6 hg hb BK462 GW462 HB; have NB461_462 := NP BK461 hg; have NB462_461 := NQ BK461 hg; replace BK461 := BV BK461 hb; clear hb hg; have hnb7 := NB461_462.out; have hnc7 := NB462_461.out; obtain ⟨hcz8_0, hcz8_1, hfz8_0, hfz8_1⟩ := bk2 BK461.out; obtain ⟨hcz9_0, hcz9_1, hfz9_0, hfz9_1⟩ := bk2 BK462.out))
  go_ret
  exact QT (BT HB.out)
 rw [if_neg c4] at H
 have c4b0 : (a0_1 == a1_1) = false := beq_eq_false_iff_ne.mpr c4
 have c4b1 : (a0_1 != a1_1) = true := bne_iff_ne.mpr c4
 obtain rfl := Option.some.inj H
 go_enter Try.func85, Try.ntmps85
 go_wp2_with (first | ((with_reducible refine G2 2 rfl ?_); refine BY 2 #[.int .i64 a0_0, .int .i64 a0_1] 76 HB ?_; clear HB; intro gb461 w10 BK461 GW461 HB) | ((with_reducible refine G2 3 rfl ?_); refine BZ 3 #[.int .i64 a1_0, .int .i64 a1_1] 76 HB ?_; clear HB; intro gb462 w11 hg hb BK462 GW462 HB; have NB461_462 := NP BK461 hg; have NB462_461 := NQ BK461 hg; replace BK461 := BV BK461 hb; clear hb hg; have hnb12 := NB461_462.out; have hnc12 := NB462_461.out; obtain ⟨hcz13_0, hcz13_1, hfz13_0, hfz13_1⟩ := bk2 BK461.out; obtain ⟨hcz14_0, hcz14_1, hfz14_0, hfz14_1⟩ := bk2 BK462.out))
 go_ret
 exact QT (BT HB.out)

end Go.Proofs.Ytdgknikgfjhohaa.PFnExactIsValidEngine
