-- Printed by wip/myprint.py.
import Derived.Test.YtdgknikgfjhohaaPFnExactIsValidEnginex8
import Derived.Test.YtdgknikgfjhohaaPFnExactIsValidEnginex21
import Derived.Test.YtdgknikgfjhohaaPFnExactIsValidEnginex25
namespace Go.Proofs.Ytdgknikgfjhohaa.PFnExactIsValidEngine
open Go.RowKit Go.Proofs.YtdgknikgfjhohaaW.PrintWords Go.Proofs.YtdgknikgfjhohaaW.PrintLast Go.Proofs.YtdgknikgfjhohaaW.PrintMore
set_option maxHeartbeats 8000000
set_option maxRecDepth 100000
set_option linter.unusedVariables false
set_option linter.unusedSimpArgs false

/-! ### laws_eqEngine: function 9 -/
def laws_eqEngine.f (k : Nat) (a0_0 : Bool) (l0_1 : List (List (S52))) (l0_2 : List (S48)) (l0_3 : List (S76)) (l0_4 : List (S78)) (a0_5 : Int) (a1_0 : Bool) (l1_1 : List (List (S52))) (l1_2 : List (S48)) (l1_3 : List (S76)) (l1_4 : List (S78)) (a1_5 : Int) : Option (Bool) := if (a0_0 != a1_0) = true then (some false) else ((laws_eqStore.f k l0_1 l1_1).bind fun t473 => (if t473 = true then ((laws_eqTransactionS.f k l0_2 l1_2).bind fun t474 => (if t474 = true then ((laws_eqLockS.f k l0_3 l1_3).bind fun t475 => (if t475 = true then ((laws_eqWaitS.f k l0_4 l1_4).bind fun t476 => (if t476 = true then (if a0_5 = a1_5 then (some true) else (some false)) else (some false))) else (some false))) else (some false))) else (some false)))
theorem laws_eqEngine.mono : ∀ a0 a1 a2 a3 a4 a5 a6 a7 a8 a9 a10 a11 k, LeO (laws_eqEngine.f k a0 a1 a2 a3 a4 a5 a6 a7 a8 a9 a10 a11) (laws_eqEngine.f (k + 1) a0 a1 a2 a3 a4 a5 a6 a7 a8 a9 a10 a11) := by
 intro a0 a1 a2 a3 a4 a5 a6 a7 a8 a9 a10 a11 k
 unfold laws_eqEngine.f
 repeat' (with_reducible first | exact laws_eqLockS.mono .. | exact laws_eqStore.mono .. | exact laws_eqTransactionS.mono .. | exact laws_eqWaitS.mono .. | exact LeO.refl _ | exact LeO.none _ | refine LeO.ite ?_ ?_ | refine LeO.bind ?_ (fun _ => ?_))
theorem laws_eqEngine.calls (k : Nat) (a0_0 : Bool) (A0_1 : Option Addr) (c0_1 : Nat) (l0_1 : List (List (S52))) (A0_2 : Option Addr) (c0_2 : Nat) (l0_2 : List (S48)) (A0_3 : Option Addr) (c0_3 : Nat) (l0_3 : List (S76)) (A0_4 : Option Addr) (c0_4 : Nat) (l0_4 : List (S78)) (a0_5 : Int) (a1_0 : Bool) (A1_1 : Option Addr) (c1_1 : Nat) (l1_1 : List (List (S52))) (A1_2 : Option Addr) (c1_2 : Nat) (l1_2 : List (S48)) (A1_3 : Option Addr) (c1_3 : Nat) (l1_3 : List (S76)) (A1_4 : Option Addr) (c1_4 : Nat) (l1_4 : List (S78)) (a1_5 : Int) (r : Bool) (w : World) (hr0_1 : Kd.C (Kd.slice 52 k52) w A0_1 l0_1.length l0_1) (hc0_1 : l0_1.length ≤ c0_1) (hr0_2 : Kd.C k48 w A0_2 l0_2.length l0_2) (hc0_2 : l0_2.length ≤ c0_2) (hr0_3 : Kd.C k76 w A0_3 l0_3.length l0_3) (hc0_3 : l0_3.length ≤ c0_3) (hr0_4 : Kd.C k78 w A0_4 l0_4.length l0_4) (hc0_4 : l0_4.length ≤ c0_4) (hr1_1 : Kd.C (Kd.slice 52 k52) w A1_1 l1_1.length l1_1) (hc1_1 : l1_1.length ≤ c1_1) (hr1_2 : Kd.C k48 w A1_2 l1_2.length l1_2) (hc1_2 : l1_2.length ≤ c1_2) (hr1_3 : Kd.C k76 w A1_3 l1_3.length l1_3) (hc1_3 : l1_3.length ≤ c1_3) (hr1_4 : Kd.C k78 w A1_4 l1_4.length l1_4) (hc1_4 : l1_4.length ≤ c1_4) (h : laws_eqEngine.f k a0_0 l0_1 l0_2 l0_3 l0_4 a0_5 a1_0 l1_1 l1_2 l1_3 l1_4 a1_5 = some r) :
  Calls Try.prog 9 #[.agg #[.bool a0_0, .slice A0_1 l0_1.length c0_1, .slice A0_2 l0_2.length c0_2, .slice A0_3 l0_3.length c0_3, .slice A0_4 l0_4.length c0_4, .int .i64 a0_5], .agg #[.bool a1_0, .slice A1_1 l1_1.length c1_1, .slice A1_2 l1_2.length c1_2, .slice A1_3 l1_3.length c1_3, .slice A1_4 l1_4.length c1_4, .int .i64 a1_5]] w fun e w' => e = .returned (.bool r) ∧ Below w.heap.size w w' := by
 have hu39 := Try.underlying39
 have hu34 := Try.underlying34
 have HR0_1 := AM_ hr0_1
 have HC0_1 := AM_ hc0_1
 clear hr0_1 hc0_1
 have HR0_2 := AM_ hr0_2
 have HC0_2 := AM_ hc0_2
 clear hr0_2 hc0_2
 have HR0_3 := AM_ hr0_3
 have HC0_3 := AM_ hc0_3
 clear hr0_3 hc0_3
 have HR0_4 := AM_ hr0_4
 have HC0_4 := AM_ hc0_4
 clear hr0_4 hc0_4
 have HR1_1 := AM_ hr1_1
 have HC1_1 := AM_ hc1_1
 clear hr1_1 hc1_1
 have HR1_2 := AM_ hr1_2
 have HC1_2 := AM_ hc1_2
 clear hr1_2 hc1_2
 have HR1_3 := AM_ hr1_3
 have HC1_3 := AM_ hc1_3
 clear hr1_3 hc1_3
 have HR1_4 := AM_ hr1_4
 have HC1_4 := AM_ hc1_4
 clear hr1_4 hc1_4
 have HB := AM_ (Below.refl w.heap.size w)
 unfold laws_eqEngine.f at h
 have H := h
 clear h
 by_cases c3 : (a0_0 != a1_0) = true
 ·rw [if_pos c3] at H
  have c3b0 : (a0_0 != a1_0) = true := c3
  (try (have c3b1 : decide (a0_0 = a1_0) = false := by simpa using c3))
  (try (have c3b2 : (a0_0 == a1_0) = false := by simpa using c3))
  (try (have c3b3 : ¬ (a0_0 = a1_0) := by simpa using c3))
  clear c3
  obtain rfl := Option.some.inj H
  go_enter Try.func9, Try.ntmps9
  go_wp2_with (first | ((with_reducible refine G2 2 rfl ?_); refine BY 2 #[.bool a0_0, .slice A0_1 l0_1.length c0_1, .slice A0_2 l0_2.length c0_2, .slice A0_3 l0_3.length c0_3, .slice A0_4 l0_4.length c0_4, .int .i64 a0_5] 39 HB ?_; clear HB; intro gb471 w4 BK471 GW471 HB) | ((with_reducible refine G2 3 rfl ?_); refine BZ 3 #[.bool a1_0, .slice A1_1 l1_1.length c1_1, .slice A1_2 l1_2.length c1_2, .slice A1_3 l1_3.length c1_3, .slice A1_4 l1_4.length c1_4, .int .i64 a1_5] 39 HB ?_; clear HB; intro gb472 w5 hg hb BK472 GW472 HB; have NB471_472 := NP BK471 hg; have NB472_471 := NQ BK471 hg; replace BK471 := BV BK471 hb; clear hb hg; have hnb6 := NB471_472.out; have hnc6 := NB472_471.out; obtain ⟨hcz7_0, hcz7_1, hcz7_2, hcz7_3, hcz7_4, hcz7_5, hfz7_0, hfz7_1, hfz7_2, hfz7_3, hfz7_4, hfz7_5⟩ := bk6 BK471.out; obtain ⟨hcz8_0, hcz8_1, hcz8_2, hcz8_3, hcz8_4, hcz8_5, hfz8_0, hfz8_1, hfz8_2, hfz8_3, hfz8_4, hfz8_5⟩ := bk6 BK472.out))
  go_ret
  exact QT (BT HB.out)
 rw [if_neg c3] at H
 have c3b0 : (a0_0 != a1_0) = false := by simpa using c3
 (try (have c3b1 : decide (a0_0 = a1_0) = true := by simpa using c3))
 (try (have c3b2 : (a0_0 == a1_0) = true := by simpa using c3))
 clear c3
 obtain ⟨t473, A9, H⟩ := OB H
 by_cases c10 : t473 = true
 rotate_left
 ·replace c10 := Bool.eq_false_iff.mpr c10
  subst c10
  replace H := HF H
  obtain rfl := Option.some.inj H
  go_enter Try.func9, Try.ntmps9
  go_wp2_with (first | ((with_reducible refine G2 2 rfl ?_); refine BY 2 #[.bool a0_0, .slice A0_1 l0_1.length c0_1, .slice A0_2 l0_2.length c0_2, .slice A0_3 l0_3.length c0_3, .slice A0_4 l0_4.length c0_4, .int .i64 a0_5] 39 HB ?_; clear HB; intro gb471 w88 BK471 GW471 HB) | ((with_reducible refine G2 3 rfl ?_); refine BZ 3 #[.bool a1_0, .slice A1_1 l1_1.length c1_1, .slice A1_2 l1_2.length c1_2, .slice A1_3 l1_3.length c1_3, .slice A1_4 l1_4.length c1_4, .int .i64 a1_5] 39 HB ?_; clear HB; intro gb472 w89 hg hb BK472 GW472 HB; have NB471_472 := NP BK471 hg; have NB472_471 := NQ BK471 hg; replace BK471 := BV BK471 hb; clear hb hg; have hnb90 := NB471_472.out; have hnc90 := NB472_471.out; obtain ⟨hcz91_0, hcz91_1, hcz91_2, hcz91_3, hcz91_4, hcz91_5, hfz91_0, hfz91_1, hfz91_2, hfz91_3, hfz91_4, hfz91_5⟩ := bk6 BK471.out; obtain ⟨hcz92_0, hcz92_1, hcz92_2, hcz92_3, hcz92_4, hcz92_5, hfz92_0, hfz92_1, hfz92_2, hfz92_3, hfz92_4, hfz92_5⟩ := bk6 BK472.out) | ((with_reducible refine G1 49 rfl ?_); refine GC (some 14) Try.func49 #[.agg #[.slice A0_1 l0_1.length c0_1], .agg #[.slice A1_1 l1_1.length c1_1]] ?_; (with_reducible refine MB (laws_eqStore.calls k _ _ l0_1 _ _ l1_1 false _ (CC HR0_1 HB) HC0_1.out (CC HR1_1 HB) HC1_1.out A9.out) ?_); intro w93 hb; replace BK471 := BV BK471 hb; replace BK472 := BV BK472 hb; replace HB := BW HB hb; (try clear hb)))
  go_ret
  exact QT (BT HB.out)
 subst c10
 replace H := HT H
 obtain ⟨t474, A11, H⟩ := OB H
 by_cases c12 : t474 = true
 rotate_left
 ·replace c12 := Bool.eq_false_iff.mpr c12
  subst c12
  replace H := HF H
  obtain rfl := Option.some.inj H
  go_enter Try.func9, Try.ntmps9
  go_wp2_with (first | ((with_reducible refine G2 2 rfl ?_); refine BY 2 #[.bool a0_0, .slice A0_1 l0_1.length c0_1, .slice A0_2 l0_2.length c0_2, .slice A0_3 l0_3.length c0_3, .slice A0_4 l0_4.length c0_4, .int .i64 a0_5] 39 HB ?_; clear HB; intro gb471 w79 BK471 GW471 HB) | ((with_reducible refine G2 3 rfl ?_); refine BZ 3 #[.bool a1_0, .slice A1_1 l1_1.length c1_1, .slice A1_2 l1_2.length c1_2, .slice A1_3 l1_3.length c1_3, .slice A1_4 l1_4.length c1_4, .int .i64 a1_5] 39 HB ?_; clear HB; intro gb472 w80 hg hb BK472 GW472 HB; have NB471_472 := NP BK471 hg; have NB472_471 := NQ BK471 hg; replace BK471 := BV BK471 hb; clear hb hg; have hnb81 := NB471_472.out; have hnc81 := NB472_471.out; obtain ⟨hcz82_0, hcz82_1, hcz82_2, hcz82_3, hcz82_4, hcz82_5, hfz82_0, hfz82_1, hfz82_2, hfz82_3, hfz82_4, hfz82_5⟩ := bk6 BK471.out; obtain ⟨hcz83_0, hcz83_1, hcz83_2, hcz83_3, hcz83_4, hcz83_5, hfz83_0, hfz83_1, hfz83_2, hfz83_3, hfz83_4, hfz83_5⟩ := bk6 BK472.out) | ((with_reducible refine G1 49 rfl ?_); refine GC (some 14) Try.func49 #[.agg #[.slice A0_1 l0_1.length c0_1], .agg #[.slice A1_1 l1_1.length c1_1]] ?_; (with_reducible refine MB (laws_eqStore.calls k _ _ l0_1 _ _ l1_1 true _ (CC HR0_1 HB) HC0_1.out (CC HR1_1 HB) HC1_1.out A9.out) ?_); intro w84 hb; replace BK471 := BV BK471 hb; replace BK472 := BV BK472 hb; replace HB := BW HB hb; (try clear hb); obtain ⟨hcz85_0, hcz85_1, hcz85_2, hcz85_3, hcz85_4, hcz85_5, hfz85_0, hfz85_1, hfz85_2, hfz85_3, hfz85_4, hfz85_5⟩ := bk6 BK471.out; obtain ⟨hcz86_0, hcz86_1, hcz86_2, hcz86_3, hcz86_4, hcz86_5, hfz86_0, hfz86_1, hfz86_2, hfz86_3, hfz86_4, hfz86_5⟩ := bk6 BK472.out) | ((with_reducible refine G1 50 rfl ?_); refine GC (some 20) Try.func50 #[.slice A0_2 l0_2.length c0_2, .slice A1_2 l1_2.length c1_2] ?_; (with_reducible refine MB (laws_eqTransactionS.calls k _ _ l0_2 _ _ l1_2 false _ (CC HR0_2 HB) HC0_2.out (CC HR1_2 HB) HC1_2.out A11.out) ?_); intro w87 hb; replace BK471 := BV BK471 hb; replace BK472 := BV BK472 hb; replace HB := BW HB hb; (try clear hb)))
  go_ret
  exact QT (BT HB.out)
 subst c12
 replace H := HT H
 obtain ⟨t475, A13, H⟩ := OB H
 by_cases c14 : t475 = true
 rotate_left
 ·replace c14 := Bool.eq_false_iff.mpr c14
  subst c14
  replace H := HF H
  obtain rfl := Option.some.inj H
  go_enter Try.func9, Try.ntmps9
  go_wp2_with (first | ((with_reducible refine G2 2 rfl ?_); refine BY 2 #[.bool a0_0, .slice A0_1 l0_1.length c0_1, .slice A0_2 l0_2.length c0_2, .slice A0_3 l0_3.length c0_3, .slice A0_4 l0_4.length c0_4, .int .i64 a0_5] 39 HB ?_; clear HB; intro gb471 w67 BK471 GW471 HB) | ((with_reducible refine G2 3 rfl ?_); refine BZ 3 #[.bool a1_0, .slice A1_1 l1_1.length c1_1, .slice A1_2 l1_2.length c1_2, .slice A1_3 l1_3.length c1_3, .slice A1_4 l1_4.length c1_4, .int .i64 a1_5] 39 HB ?_; clear HB; intro gb472 w68 hg hb BK472 GW472 HB; have NB471_472 := NP BK471 hg; have NB472_471 := NQ BK471 hg; replace BK471 := BV BK471 hb; clear hb hg; have hnb69 := NB471_472.out; have hnc69 := NB472_471.out; obtain ⟨hcz70_0, hcz70_1, hcz70_2, hcz70_3, hcz70_4, hcz70_5, hfz70_0, hfz70_1, hfz70_2, hfz70_3, hfz70_4, hfz70_5⟩ := bk6 BK471.out; obtain ⟨hcz71_0, hcz71_1, hcz71_2, hcz71_3, hcz71_4, hcz71_5, hfz71_0, hfz71_1, hfz71_2, hfz71_3, hfz71_4, hfz71_5⟩ := bk6 BK472.out) | ((with_reducible refine G1 49 rfl ?_); refine GC (some 14) Try.func49 #[.agg #[.slice A0_1 l0_1.length c0_1], .agg #[.slice A1_1 l1_1.length c1_1]] ?_; (with_reducible refine MB (laws_eqStore.calls k _ _ l0_1 _ _ l1_1 true _ (CC HR0_1 HB) HC0_1.out (CC HR1_1 HB) HC1_1.out A9.out) ?_); intro w72 hb; replace BK471 := BV BK471 hb; replace BK472 := BV BK472 hb; replace HB := BW HB hb; (try clear hb); obtain ⟨hcz73_0, hcz73_1, hcz73_2, hcz73_3, hcz73_4, hcz73_5, hfz73_0, hfz73_1, hfz73_2, hfz73_3, hfz73_4, hfz73_5⟩ := bk6 BK471.out; obtain ⟨hcz74_0, hcz74_1, hcz74_2, hcz74_3, hcz74_4, hcz74_5, hfz74_0, hfz74_1, hfz74_2, hfz74_3, hfz74_4, hfz74_5⟩ := bk6 BK472.out) | ((with_reducible refine G1 50 rfl ?_); refine GC (some 20) Try.func50 #[.slice A0_2 l0_2.length c0_2, .slice A1_2 l1_2.length c1_2] ?_; (with_reducible refine MB (laws_eqTransactionS.calls k _ _ l0_2 _ _ l1_2 true _ (CC HR0_2 HB) HC0_2.out (CC HR1_2 HB) HC1_2.out A11.out) ?_); intro w75 hb; replace BK471 := BV BK471 hb; replace BK472 := BV BK472 hb; replace HB := BW HB hb; (try clear hb); obtain ⟨hcz76_0, hcz76_1, hcz76_2, hcz76_3, hcz76_4, hcz76_5, hfz76_0, hfz76_1, hfz76_2, hfz76_3, hfz76_4, hfz76_5⟩ := bk6 BK471.out; obtain ⟨hcz77_0, hcz77_1, hcz77_2, hcz77_3, hcz77_4, hcz77_5, hfz77_0, hfz77_1, hfz77_2, hfz77_3, hfz77_4, hfz77_5⟩ := bk6 BK472.out) | ((with_reducible refine G1 51 rfl ?_); refine GC (some 26) Try.func51 #[.slice A0_3 l0_3.length c0_3, .slice A1_3 l1_3.length c1_3] ?_; (with_reducible refine MB (laws_eqLockS.calls k _ _ l0_3 _ _ l1_3 false _ (CC HR0_3 HB) HC0_3.out (CC HR1_3 HB) HC1_3.out A13.out) ?_); intro w78 hb; replace BK471 := BV BK471 hb; replace BK472 := BV BK472 hb; replace HB := BW HB hb; (try clear hb)))
  go_ret
  exact QT (BT HB.out)
 subst c14
 replace H := HT H
 obtain ⟨t476, A15, H⟩ := OB H
 by_cases c16 : t476 = true
 rotate_left
 ·replace c16 := Bool.eq_false_iff.mpr c16
  subst c16
  replace H := HF H
  obtain rfl := Option.some.inj H
  go_enter Try.func9, Try.ntmps9
  go_wp2_with (first | ((with_reducible refine G2 2 rfl ?_); refine BY 2 #[.bool a0_0, .slice A0_1 l0_1.length c0_1, .slice A0_2 l0_2.length c0_2, .slice A0_3 l0_3.length c0_3, .slice A0_4 l0_4.length c0_4, .int .i64 a0_5] 39 HB ?_; clear HB; intro gb471 w52 BK471 GW471 HB) | ((with_reducible refine G2 3 rfl ?_); refine BZ 3 #[.bool a1_0, .slice A1_1 l1_1.length c1_1, .slice A1_2 l1_2.length c1_2, .slice A1_3 l1_3.length c1_3, .slice A1_4 l1_4.length c1_4, .int .i64 a1_5] 39 HB ?_; clear HB; intro gb472 w53 hg hb BK472 GW472 HB; have NB471_472 := NP BK471 hg; have NB472_471 := NQ BK471 hg; replace BK471 := BV BK471 hb; clear hb hg; have hnb54 := NB471_472.out; have hnc54 := NB472_471.out; obtain ⟨hcz55_0, hcz55_1, hcz55_2, hcz55_3, hcz55_4, hcz55_5, hfz55_0, hfz55_1, hfz55_2, hfz55_3, hfz55_4, hfz55_5⟩ := bk6 BK471.out; obtain ⟨hcz56_0, hcz56_1, hcz56_2, hcz56_3, hcz56_4, hcz56_5, hfz56_0, hfz56_1, hfz56_2, hfz56_3, hfz56_4, hfz56_5⟩ := bk6 BK472.out) | ((with_reducible refine G1 49 rfl ?_); refine GC (some 14) Try.func49 #[.agg #[.slice A0_1 l0_1.length c0_1], .agg #[.slice A1_1 l1_1.length c1_1]] ?_; (with_reducible refine MB (laws_eqStore.calls k _ _ l0_1 _ _ l1_1 true _ (CC HR0_1 HB) HC0_1.out (CC HR1_1 HB) HC1_1.out A9.out) ?_); intro w57 hb; replace BK471 := BV BK471 hb; replace BK472 := BV BK472 hb; replace HB := BW HB hb; (try clear hb); obtain ⟨hcz58_0, hcz58_1, hcz58_2, hcz58_3, hcz58_4, hcz58_5, hfz58_0, hfz58_1, hfz58_2, hfz58_3, hfz58_4, hfz58_5⟩ := bk6 BK471.out; obtain ⟨hcz59_0, hcz59_1, hcz59_2, hcz59_3, hcz59_4, hcz59_5, hfz59_0, hfz59_1, hfz59_2, hfz59_3, hfz59_4, hfz59_5⟩ := bk6 BK472.out) | ((with_reducible refine G1 50 rfl ?_); refine GC (some 20) Try.func50 #[.slice A0_2 l0_2.length c0_2, .slice A1_2 l1_2.length c1_2] ?_; (with_reducible refine MB (laws_eqTransactionS.calls k _ _ l0_2 _ _ l1_2 true _ (CC HR0_2 HB) HC0_2.out (CC HR1_2 HB) HC1_2.out A11.out) ?_); intro w60 hb; replace BK471 := BV BK471 hb; replace BK472 := BV BK472 hb; replace HB := BW HB hb; (try clear hb); obtain ⟨hcz61_0, hcz61_1, hcz61_2, hcz61_3, hcz61_4, hcz61_5, hfz61_0, hfz61_1, hfz61_2, hfz61_3, hfz61_4, hfz61_5⟩ := bk6 BK471.out; obtain ⟨hcz62_0, hcz62_1, hcz62_2, hcz62_3, hcz62_4, hcz62_5, hfz62_0, hfz62_1, hfz62_2, hfz62_3, hfz62_4, hfz62_5⟩ := bk6 BK472.out) | ((with_reducible refine G1 51 rfl ?_); refine GC (some 26) Try.func51 #[.slice A0_3 l0_3.length c0_3, .slice A1_3 l1_3.length c1_3] ?_; (with_reducible refine MB (laws_eqLockS.calls k _ _ l0_3 _ _ l1_3 true _ (CC HR0_3 HB) HC0_3.out (CC HR1_3 HB) HC1_3.out A13.out) ?_); intro w63 hb; replace BK471 := BV BK471 hb; replace BK472 := BV BK472 hb; replace HB := BW HB hb; (try clear hb); obtain ⟨hcz64_0, hcz64_1, hcz64_2, hcz64_3, hcz64_4, hcz64_5, hfz64_0, hfz64_1, hfz64_2, hfz64_3, hfz64_4, hfz64_5⟩ := bk6 BK471.out; obtain ⟨hcz65_0, hcz65_1, hcz65_2, hcz65_3, hcz65_4, hcz65_5, hfz65_0, hfz65_1, hfz65_2, hfz65_3, hfz65_4, hfz65_5⟩ := bk6 BK472.out) | ((with_reducible refine G1 52 rfl ?_); refine GC (some 32) Try.func52 #[.slice A0_4 l0_4.length c0_4, .slice A1_4 l1_4.length c1_4] ?_; (with_reducible refine MB (laws_eqWaitS.calls k _ _ l0_4 _ _ l1_4 false _ (CC HR0_4 HB) HC0_4.out (CC HR1_4 HB) HC1_4.out A15.out) ?_); intro w66 hb; replace BK471 := BV BK471 hb; replace BK472 := BV BK472 hb; replace HB := BW HB hb; (try clear hb)))
  go_ret
  exact QT (BT HB.out)
 subst c16
 replace H := HT H
 by_cases c17 : a0_5 = a1_5
 rotate_left
 ·rw [if_neg c17] at H
  have c17b0 : (a0_5 == a1_5) = false := beq_eq_false_iff_ne.mpr c17
  have c17b1 : (a0_5 != a1_5) = true := bne_iff_ne.mpr c17
  obtain rfl := Option.some.inj H
  go_enter Try.func9, Try.ntmps9
  go_wp2_with (first | ((with_reducible refine G2 2 rfl ?_); refine BY 2 #[.bool a0_0, .slice A0_1 l0_1.length c0_1, .slice A0_2 l0_2.length c0_2, .slice A0_3 l0_3.length c0_3, .slice A0_4 l0_4.length c0_4, .int .i64 a0_5] 39 HB ?_; clear HB; intro gb471 w35 BK471 GW471 HB) | ((with_reducible refine G2 3 rfl ?_); refine BZ 3 #[.bool a1_0, .slice A1_1 l1_1.length c1_1, .slice A1_2 l1_2.length c1_2, .slice A1_3 l1_3.length c1_3, .slice A1_4 l1_4.length c1_4, .int .i64 a1_5] 39 HB ?_; clear HB; intro gb472 w36 hg hb BK472 GW472 HB; have NB471_472 := NP BK471 hg; have NB472_471 := NQ BK471 hg; replace BK471 := BV BK471 hb; clear hb hg; have hnb37 := NB471_472.out; have hnc37 := NB472_471.out; obtain ⟨hcz38_0, hcz38_1, hcz38_2, hcz38_3, hcz38_4, hcz38_5, hfz38_0, hfz38_1, hfz38_2, hfz38_3, hfz38_4, hfz38_5⟩ := bk6 BK471.out; obtain ⟨hcz39_0, hcz39_1, hcz39_2, hcz39_3, hcz39_4, hcz39_5, hfz39_0, hfz39_1, hfz39_2, hfz39_3, hfz39_4, hfz39_5⟩ := bk6 BK472.out) | ((with_reducible refine G1 49 rfl ?_); refine GC (some 14) Try.func49 #[.agg #[.slice A0_1 l0_1.length c0_1], .agg #[.slice A1_1 l1_1.length c1_1]] ?_; (with_reducible refine MB (laws_eqStore.calls k _ _ l0_1 _ _ l1_1 true _ (CC HR0_1 HB) HC0_1.out (CC HR1_1 HB) HC1_1.out A9.out) ?_); intro w40 hb; replace BK471 := BV BK471 hb; replace BK472 := BV BK472 hb; replace HB := BW HB hb; (try clear hb); obtain ⟨hcz41_0, hcz41_1, hcz41_2, hcz41_3, hcz41_4, hcz41_5, hfz41_0, hfz41_1, hfz41_2, hfz41_3, hfz41_4, hfz41_5⟩ := bk6 BK471.out; obtain ⟨hcz42_0, hcz42_1, hcz42_2, hcz42_3, hcz42_4, hcz42_5, hfz42_0, hfz42_1, hfz42_2, hfz42_3, hfz42_4, hfz42_5⟩ := bk6 BK472.out) | ((with_reducible refine G1 50 rfl ?_); refine GC (some 20) Try.func50 #[.slice A0_2 l0_2.length c0_2, .slice A1_2 l1_2.length c1_2] ?_; (with_reducible refine MB (laws_eqTransactionS.calls k _ _ l0_2 _ _ l1_2 true _ (CC HR0_2 HB) HC0_2.out (CC HR1_2 HB) HC1_2.out A11.out) ?_); intro w43 hb; replace BK471 := BV BK471 hb; replace BK472 := BV BK472 hb; replace HB := BW HB hb; (try clear hb); obtain ⟨hcz44_0, hcz44_1, hcz44_2, hcz44_3, hcz44_4, hcz44_5, hfz44_0, hfz44_1, hfz44_2, hfz44_3, hfz44_4, hfz44_5⟩ := bk6 BK471.out; obtain ⟨hcz45_0, hcz45_1, hcz45_2, hcz45_3, hcz45_4, hcz45_5, hfz45_0, hfz45_1, hfz45_2, hfz45_3, hfz45_4, hfz45_5⟩ := bk6 BK472.out) | ((with_reducible refine G1 51 rfl ?_); refine GC (some 26) Try.func51 #[.slice A0_3 l0_3.length c0_3, .slice A1_3 l1_3.length c1_3] ?_; (with_reducible refine MB (laws_eqLockS.calls k _ _ l0_3 _ _ l1_3 true _ (CC HR0_3 HB) HC0_3.out (CC HR1_3 HB) HC1_3.out A13.out) ?_); intro w46 hb; replace BK471 := BV BK471 hb; replace BK472 := BV BK472 hb; replace HB := BW HB hb; (try clear hb); obtain ⟨hcz47_0, hcz47_1, hcz47_2, hcz47_3, hcz47_4, hcz47_5, hfz47_0, hfz47_1, hfz47_2, hfz47_3, hfz47_4, hfz47_5⟩ := bk6 BK471.out; obtain ⟨hcz48_0, hcz48_1, hcz48_2, hcz48_3, hcz48_4, hcz48_5, hfz48_0, hfz48_1, hfz48_2, hfz48_3, hfz48_4, hfz48_5⟩ := bk6 BK472.out) | ((with_reducible refine G1 52 rfl ?_); refine GC (some 32) Try.func52 #[.slice A0_4 l0_4.length c0_4, .slice A1_4 l1_4.length c1_4] ?_; (with_reducible refine MB (laws_eqWaitS.calls k _ _ l0_4 _ _ l1_4 true _ (CC HR0_4 HB) HC0_4.out (CC HR1_4 HB) HC1_4.out A15.out) ?_); intro w49 hb; replace BK471 := BV BK471 hb; replace BK472 := BV BK472 hb; replace HB := BW HB hb; (try clear hb); obtain ⟨hcz50_0, hcz50_1, hcz50_2, hcz50_3, hcz50_4, hcz50_5, hfz50_0, hfz50_1, hfz50_2, hfz50_3, hfz50_4, hfz50_5⟩ := bk6 BK471.out; obtain ⟨hcz51_0, hcz51_1, hcz51_2, hcz51_3, hcz51_4, hcz51_5, hfz51_0, hfz51_1, hfz51_2, hfz51_3, hfz51_4, hfz51_5⟩ := bk6 BK472.out))
  go_ret
  exact QT (BT HB.out)
 rw [if_pos c17] at H
 have c17b0 : (a0_5 == a1_5) = true := beq_iff_eq.mpr c17
 have c17b1 : (a0_5 != a1_5) = false := bne_eq_false_iff_eq.mpr c17
 clear c17
 obtain rfl := Option.some.inj H
 go_enter Try.func9, Try.ntmps9
 go_wp2_with (first | ((with_reducible refine G2 2 rfl ?_); refine BY 2 #[.bool a0_0, .slice A0_1 l0_1.length c0_1, .slice A0_2 l0_2.length c0_2, .slice A0_3 l0_3.length c0_3, .slice A0_4 l0_4.length c0_4, .int .i64 a0_5] 39 HB ?_; clear HB; intro gb471 w18 BK471 GW471 HB) | ((with_reducible refine G2 3 rfl ?_); refine BZ 3 #[.bool a1_0, .slice A1_1 l1_1.length c1_1, .slice A1_2 l1_2.length c1_2, .slice A1_3 l1_3.length c1_3, .slice A1_4 l1_4.length c1_4, .int .i64 a1_5] 39 HB ?_; clear HB; intro gb472 w19 hg hb BK472 GW472 HB; have NB471_472 := NP BK471 hg; have NB472_471 := NQ BK471 hg; replace BK471 := BV BK471 hb; clear hb hg; have hnb20 := NB471_472.out; have hnc20 := NB472_471.out; obtain ⟨hcz21_0, hcz21_1, hcz21_2, hcz21_3, hcz21_4, hcz21_5, hfz21_0, hfz21_1, hfz21_2, hfz21_3, hfz21_4, hfz21_5⟩ := bk6 BK471.out; obtain ⟨hcz22_0, hcz22_1, hcz22_2, hcz22_3, hcz22_4, hcz22_5, hfz22_0, hfz22_1, hfz22_2, hfz22_3, hfz22_4, hfz22_5⟩ := bk6 BK472.out) | ((with_reducible refine G1 49 rfl ?_); refine GC (some 14) Try.func49 #[.agg #[.slice A0_1 l0_1.length c0_1], .agg #[.slice A1_1 l1_1.length c1_1]] ?_; (with_reducible refine MB (laws_eqStore.calls k _ _ l0_1 _ _ l1_1 true _ (CC HR0_1 HB) HC0_1.out (CC HR1_1 HB) HC1_1.out A9.out) ?_); intro w23 hb; replace BK471 := BV BK471 hb; replace BK472 := BV BK472 hb; replace HB := BW HB hb; (try clear hb); obtain ⟨hcz24_0, hcz24_1, hcz24_2, hcz24_3, hcz24_4, hcz24_5, hfz24_0, hfz24_1, hfz24_2, hfz24_3, hfz24_4, hfz24_5⟩ := bk6 BK471.out; obtain ⟨hcz25_0, hcz25_1, hcz25_2, hcz25_3, hcz25_4, hcz25_5, hfz25_0, hfz25_1, hfz25_2, hfz25_3, hfz25_4, hfz25_5⟩ := bk6 BK472.out) | ((with_reducible refine G1 50 rfl ?_); refine GC (some 20) Try.func50 #[.slice A0_2 l0_2.length c0_2, .slice A1_2 l1_2.length c1_2] ?_; (with_reducible refine MB (laws_eqTransactionS.calls k _ _ l0_2 _ _ l1_2 true _ (CC HR0_2 HB) HC0_2.out (CC HR1_2 HB) HC1_2.out A11.out) ?_); intro w26 hb; replace BK471 := BV BK471 hb; replace BK472 := BV BK472 hb; replace HB := BW HB hb; (try clear hb); obtain ⟨hcz27_0, hcz27_1, hcz27_2, hcz27_3, hcz27_4, hcz27_5, hfz27_0, hfz27_1, hfz27_2, hfz27_3, hfz27_4, hfz27_5⟩ := bk6 BK471.out; obtain ⟨hcz28_0, hcz28_1, hcz28_2, hcz28_3, hcz28_4, hcz28_5, hfz28_0, hfz28_1, hfz28_2, hfz28_3, hfz28_4, hfz28_5⟩ := bk6 BK472.out) | ((with_reducible refine G1 51 rfl ?_); refine GC (some 26) Try.func51 #[.slice A0_3 l0_3.length c0_3, .slice A1_3 l1_3.length c1_3] ?_; (with_reducible refine MB (laws_eqLockS.calls k _ _ l0_3 _ _ l1_3 true _ (CC HR0_3 HB) HC0_3.out (CC HR1_3 HB) HC1_3.out A13.out) ?_); intro w29 hb; replace BK471 := BV BK471 hb; replace BK472 := BV BK472 hb; replace HB := BW HB hb; (try clear hb); obtain ⟨hcz30_0, hcz30_1, hcz30_2, hcz30_3, hcz30_4, hcz30_5, hfz30_0, hfz30_1, hfz30_2, hfz30_3, hfz30_4, hfz30_5⟩ := bk6 BK471.out; obtain ⟨hcz31_0, hcz31_1, hcz31_2, hcz31_3, hcz31_4, hcz31_5, hfz31_0, hfz31_1, hfz31_2, hfz31_3, hfz31_4, hfz31_5⟩ := bk6 BK472.out) | ((with_reducible refine G1 52 rfl ?_); refine GC (some 32) Try.func52 #[.slice A0_4 l0_4.length c0_4, .slice A1_4 l1_4.length c1_4] ?_; (with_reducible refine MB (laws_eqWaitS.calls k _ _ l0_4 _ _ l1_4 true _ (CC HR0_4 HB) HC0_4.out (CC HR1_4 HB) HC1_4.out A15.out) ?_); intro w32 hb; replace BK471 := BV BK471 hb; replace BK472 := BV BK472 hb; replace HB := BW HB hb; (try clear hb); obtain ⟨hcz33_0, hcz33_1, hcz33_2, hcz33_3, hcz33_4, hcz33_5, hfz33_0, hfz33_1, hfz33_2, hfz33_3, hfz33_4, hfz33_5⟩ := bk6 BK471.out; obtain ⟨hcz34_0, hcz34_1, hcz34_2, hcz34_3, hcz34_4, hcz34_5, hfz34_0, hfz34_1, hfz34_2, hfz34_3, hfz34_4, hfz34_5⟩ := bk6 BK472.out))
 go_ret
 exact QT (BT HB.out)

/-! ### laws_FnExactIsValidEngine: function 3 -/
def laws_FnExactIsValidEngine.f (k : Nat) (a0_0 : Bool) (l0_1 : List (List (S171))) (l0_2 : List (S114)) (l0_3 : List (S123)) (l0_4 : List (S125)) (a0_5 : Int) : Option (Bool) := (laws_szEngine.f k a0_0 l0_1 l0_2 l0_3 l0_4 a0_5 1048576).bind fun t478 => (if t478 < 0 then (some true) else ((laws_toEngine.f k a0_0 l0_1 l0_2 l0_3 l0_4 a0_5).bind fun bt479 => ((spec_IsValidEngine.f k bt479.1 bt479.2.1 bt479.2.2.1 bt479.2.2.2.1 bt479.2.2.2.2.1 bt479.2.2.2.2.2).bind fun t493 => ((laws_toEngine.f k a0_0 l0_1 l0_2 l0_3 l0_4 a0_5).bind fun bt494 => ((impl_IsValidEngine.f k bt494.1 bt494.2.1 bt494.2.2.1 bt494.2.2.2.1 bt494.2.2.2.2.1 bt494.2.2.2.2.2).bind fun t509 => (if (t509 != t493) = true then (some false) else ((laws_toEngine.f k a0_0 l0_1 l0_2 l0_3 l0_4 a0_5).bind fun bt510 => ((laws_eqEngine.f k bt494.1 bt494.2.1 bt494.2.2.1 bt494.2.2.2.1 bt494.2.2.2.2.1 bt494.2.2.2.2.2 bt510.1 bt510.2.1 bt510.2.2.1 bt510.2.2.2.1 bt510.2.2.2.2.1 bt510.2.2.2.2.2).bind fun t524 => (if t524 = true then (some true) else (some false))))))))))
theorem laws_FnExactIsValidEngine.mono : ∀ a0 a1 a2 a3 a4 a5 k, LeO (laws_FnExactIsValidEngine.f k a0 a1 a2 a3 a4 a5) (laws_FnExactIsValidEngine.f (k + 1) a0 a1 a2 a3 a4 a5) := by
 intro a0 a1 a2 a3 a4 a5 k
 unfold laws_FnExactIsValidEngine.f
 repeat' (with_reducible first | exact impl_IsValidEngine.mono .. | exact laws_eqEngine.mono .. | exact laws_szEngine.mono .. | exact laws_toEngine.mono .. | exact spec_IsValidEngine.mono .. | exact LeO.refl _ | exact LeO.none _ | refine LeO.ite ?_ ?_ | refine LeO.bind ?_ (fun _ => ?_))
theorem laws_FnExactIsValidEngine.calls (k : Nat) (a0_0 : Bool) (A0_1 : Option Addr) (c0_1 : Nat) (l0_1 : List (List (S171))) (A0_2 : Option Addr) (c0_2 : Nat) (l0_2 : List (S114)) (A0_3 : Option Addr) (c0_3 : Nat) (l0_3 : List (S123)) (A0_4 : Option Addr) (c0_4 : Nat) (l0_4 : List (S125)) (a0_5 : Int) (r : Bool) (w : World) (hr0_1 : Kd.C (Kd.slice 171 k171) w A0_1 l0_1.length l0_1) (hc0_1 : l0_1.length ≤ c0_1) (hr0_2 : Kd.C k114 w A0_2 l0_2.length l0_2) (hc0_2 : l0_2.length ≤ c0_2) (hr0_3 : Kd.C k123 w A0_3 l0_3.length l0_3) (hc0_3 : l0_3.length ≤ c0_3) (hr0_4 : Kd.C k125 w A0_4 l0_4.length l0_4) (hc0_4 : l0_4.length ≤ c0_4) (h : laws_FnExactIsValidEngine.f k a0_0 l0_1 l0_2 l0_3 l0_4 a0_5 = some r) :
  Calls Try.prog 3 #[.agg #[.bool a0_0, .slice A0_1 l0_1.length c0_1, .slice A0_2 l0_2.length c0_2, .slice A0_3 l0_3.length c0_3, .slice A0_4 l0_4.length c0_4, .int .i64 a0_5]] w fun e w' => e = .returned (.bool r) ∧ Below w.heap.size w w' := by
 have hu29 := Try.underlying29
 have hu39 := Try.underlying39
 have HR0_1 := AM_ hr0_1
 have HC0_1 := AM_ hc0_1
 clear hr0_1 hc0_1
 have HR0_2 := AM_ hr0_2
 have HC0_2 := AM_ hc0_2
 clear hr0_2 hc0_2
 have HR0_3 := AM_ hr0_3
 have HC0_3 := AM_ hc0_3
 clear hr0_3 hc0_3
 have HR0_4 := AM_ hr0_4
 have HC0_4 := AM_ hc0_4
 clear hr0_4 hc0_4
 have HB := AM_ (Below.refl w.heap.size w)
 unfold laws_FnExactIsValidEngine.f at h
 have H := h
 clear h
 obtain ⟨t478, A2, H⟩ := OB H
 by_cases c3 : t478 < 0
 ·rw [if_pos c3] at H
  have c3b0 := decide_eq_true c3
  clear c3
  obtain rfl := Option.some.inj H
  go_enter Try.func3, Try.ntmps3
  go_wp2_with (first | ((with_reducible refine G2 1 rfl ?_); refine BY 1 #[.bool a0_0, .slice A0_1 l0_1.length c0_1, .slice A0_2 l0_2.length c0_2, .slice A0_3 l0_3.length c0_3, .slice A0_4 l0_4.length c0_4, .int .i64 a0_5] 29 HB ?_; clear HB; intro gb477 w4 BK477 GW477 HB; obtain ⟨hcz5_0, hcz5_1, hcz5_2, hcz5_3, hcz5_4, hcz5_5, hfz5_0, hfz5_1, hfz5_2, hfz5_3, hfz5_4, hfz5_5⟩ := bk6 BK477.out) | ((with_reducible refine G1 5 rfl ?_); refine GC (some 9) Try.func5 #[.agg #[.bool a0_0, .slice A0_1 l0_1.length c0_1, .slice A0_2 l0_2.length c0_2, .slice A0_3 l0_3.length c0_3, .slice A0_4 l0_4.length c0_4, .int .i64 a0_5], .int .i64 1048576] ?_; (with_reducible refine MB (laws_szEngine.calls k a0_0 _ _ l0_1 _ _ l0_2 _ _ l0_3 _ _ l0_4 a0_5 1048576 t478 _ (CC HR0_1 HB) HC0_1.out (CC HR0_2 HB) HC0_2.out (CC HR0_3 HB) HC0_3.out (CC HR0_4 HB) HC0_4.out A2.out) ?_); intro w6 hb; replace BK477 := BV BK477 hb; replace HB := BW HB hb; (try clear hb)))
  go_ret
  exact QT (BT HB.out)
 rw [if_neg c3] at H
 have c3b0 := decide_eq_false c3
 clear c3
 obtain ⟨⟨t479, t480, t483, t486, t489, t492⟩, A7, H⟩ := OB H
 obtain ⟨t493, A8, H⟩ := OB H
 obtain ⟨⟨t494, t495, t498, t501, t504, t507⟩, A9, H⟩ := OB H
 obtain ⟨t509, A10, H⟩ := OB H
 by_cases c11 : (t509 != t493) = true
 ·rw [if_pos c11] at H
  have c11b0 : (t509 != t493) = true := c11
  (try (have c11b1 : decide (t509 = t493) = false := by simpa using c11))
  (try (have c11b2 : (t509 == t493) = false := by simpa using c11))
  (try (have c11b3 : ¬ (t509 = t493) := by simpa using c11))
  clear c11
  obtain rfl := Option.some.inj H
  go_enter Try.func3, Try.ntmps3
  go_wp2_with (first | ((with_reducible refine G2 1 rfl ?_); refine BY 1 #[.bool a0_0, .slice A0_1 l0_1.length c0_1, .slice A0_2 l0_2.length c0_2, .slice A0_3 l0_3.length c0_3, .slice A0_4 l0_4.length c0_4, .int .i64 a0_5] 29 HB ?_; clear HB; intro gb477 w12 BK477 GW477 HB; obtain ⟨hcz13_0, hcz13_1, hcz13_2, hcz13_3, hcz13_4, hcz13_5, hfz13_0, hfz13_1, hfz13_2, hfz13_3, hfz13_4, hfz13_5⟩ := bk6 BK477.out) | ((with_reducible refine G1 5 rfl ?_); refine GC (some 9) Try.func5 #[.agg #[.bool a0_0, .slice A0_1 l0_1.length c0_1, .slice A0_2 l0_2.length c0_2, .slice A0_3 l0_3.length c0_3, .slice A0_4 l0_4.length c0_4, .int .i64 a0_5], .int .i64 1048576] ?_; (with_reducible refine MB (laws_szEngine.calls k a0_0 _ _ l0_1 _ _ l0_2 _ _ l0_3 _ _ l0_4 a0_5 1048576 t478 _ (CC HR0_1 HB) HC0_1.out (CC HR0_2 HB) HC0_2.out (CC HR0_3 HB) HC0_3.out (CC HR0_4 HB) HC0_4.out A2.out) ?_); intro w14 hb; replace BK477 := BV BK477 hb; replace HB := BW HB hb; (try clear hb); obtain ⟨hcz15_0, hcz15_1, hcz15_2, hcz15_3, hcz15_4, hcz15_5, hfz15_0, hfz15_1, hfz15_2, hfz15_3, hfz15_4, hfz15_5⟩ := bk6 BK477.out) | ((with_reducible refine G1 7 rfl ?_); refine GC (some 13) Try.func7 #[.agg #[.bool a0_0, .slice A0_1 l0_1.length c0_1, .slice A0_2 l0_2.length c0_2, .slice A0_3 l0_3.length c0_3, .slice A0_4 l0_4.length c0_4, .int .i64 a0_5]] ?_; (with_reducible refine (laws_toEngine.calls k a0_0 _ _ l0_1 _ _ l0_2 _ _ l0_3 _ _ l0_4 a0_5 t479 t480 t483 t486 t489 t492 _ ?side1 ?side2 ?side3 ?side4 ?side5 ?side6 ?side7 ?side8 A7.out).mono ?_); (case side1 => exact CB HR0_1.out HB.out); (case side2 => exact HC0_1.out); (case side3 => exact CB HR0_2.out HB.out); (case side4 => exact HC0_2.out); (case side5 => exact CB HR0_3.out HB.out); (case side6 => exact HC0_3.out); (case side7 => exact CB HR0_4.out HB.out); (case side8 => exact HC0_4.out); rintro e w16 ⟨v481, v484, v487, v490, rfl, ho0, ho1, ho2, ho3, hb⟩; refine ⟨_, rfl, ?_⟩; have HO482 := AM_ (Kd.S_lower ho0 (below_size (BT HB.out))); have HO485 := AM_ (Kd.S_lower ho1 (below_size (BT HB.out))); have HO488 := AM_ (Kd.R_lower ho2 (below_size (BT HB.out))); have HO491 := AM_ (Kd.R_lower ho3 (below_size (BT HB.out))); replace BK477 := BV BK477 hb; replace HB := BW HB hb; (try clear hb); (try clear ho0); (try clear ho1); (try clear ho2); (try clear ho3); obtain ⟨Ao17, co17, eo17⟩ := Kd.S_slice HO482.out; subst eo17; obtain ⟨Ao18, co18, eo18⟩ := Kd.S_slice HO485.out; subst eo18; obtain ⟨Ao19, co19, eo19⟩ := Kd.R_slice HO488.out; subst eo19; obtain ⟨Ao20, co20, eo20⟩ := Kd.R_slice HO491.out; subst eo20) | ((with_reducible refine G1 6 rfl ?_); refine GC (some 14) Try.func6 #[.agg #[.bool t479, .slice Ao17 t480.length co17, .slice Ao18 t483.length co18, .slice Ao19 t486.length co19, .slice Ao20 t489.length co20, .int .i64 t492]] ?_; (with_reducible refine (spec_IsValidEngine.calls k t479 _ _ t480 _ _ t483 _ _ t486 _ _ t489 t492 t493 _ ?side1 ?side2 ?side3 ?side4 ?side5 ?side6 ?side7 ?side8 A8.out).mono ?_); (case side1 => exact Kd.C_below (Kd.S_reads' HO482.out).2.2 (BL (Below.refl _ _) rfl rfl rfl rfl)); (case side2 => exact (Kd.S_reads' HO482.out).2.1); (case side3 => exact Kd.C_below (Kd.S_reads' HO485.out).2.2 (BL (Below.refl _ _) rfl rfl rfl rfl)); (case side4 => exact (Kd.S_reads' HO485.out).2.1); (case side5 => exact Kd.C_below (Kd.R_reads' HO488.out).2.2 (BL (Below.refl _ _) rfl rfl rfl rfl)); (case side6 => exact (Kd.R_reads' HO488.out).2.1); (case side7 => exact Kd.C_below (Kd.R_reads' HO491.out).2.2 (BL (Below.refl _ _) rfl rfl rfl rfl)); (case side8 => exact (Kd.R_reads' HO491.out).2.1); rintro e w21 ⟨rfl, hb⟩; refine ⟨_, rfl, ?_⟩; replace HO482 := AM_ (Kd.S_below (ST HO482.out) hb); replace HO485 := AM_ (Kd.S_below (ST HO485.out) hb); replace HO488 := AM_ (Kd.R_below (RT HO488.out) hb); replace HO491 := AM_ (Kd.R_below (RT HO491.out) hb); replace BK477 := BV BK477 hb; replace HB := BW HB hb; (try clear hb); obtain ⟨hcz22_0, hcz22_1, hcz22_2, hcz22_3, hcz22_4, hcz22_5, hfz22_0, hfz22_1, hfz22_2, hfz22_3, hfz22_4, hfz22_5⟩ := bk6 BK477.out) | ((with_reducible refine G1 7 rfl ?_); refine GC (some 16) Try.func7 #[.agg #[.bool a0_0, .slice A0_1 l0_1.length c0_1, .slice A0_2 l0_2.length c0_2, .slice A0_3 l0_3.length c0_3, .slice A0_4 l0_4.length c0_4, .int .i64 a0_5]] ?_; (with_reducible refine (laws_toEngine.calls k a0_0 _ _ l0_1 _ _ l0_2 _ _ l0_3 _ _ l0_4 a0_5 t494 t495 t498 t501 t504 t507 _ ?side1 ?side2 ?side3 ?side4 ?side5 ?side6 ?side7 ?side8 A9.out).mono ?_); (case side1 => exact CB HR0_1.out HB.out); (case side2 => exact HC0_1.out); (case side3 => exact CB HR0_2.out HB.out); (case side4 => exact HC0_2.out); (case side5 => exact CB HR0_3.out HB.out); (case side6 => exact HC0_3.out); (case side7 => exact CB HR0_4.out HB.out); (case side8 => exact HC0_4.out); rintro e w23 ⟨v496, v499, v502, v505, rfl, ho0, ho1, ho2, ho3, hb⟩; refine ⟨_, rfl, ?_⟩; have HO497 := AM_ (Kd.S_lower (Kd.S_new' ho0 (Kd.S_lt (ST HO482.out))) (below_size (BT HB.out))); replace HO482 := AM_ (Kd.S_elder' (ST HO482.out) (Kd.S_base ho0) hb); have HO500 := AM_ (Kd.S_lower (Kd.S_new' ho1 (Kd.S_lt (ST HO485.out))) (below_size (BT HB.out))); replace HO485 := AM_ (Kd.S_elder' (ST HO485.out) (Kd.S_base ho1) hb); have HO503 := AM_ (Kd.R_lower (Kd.R_new' ho2 (Kd.R_lt (RT HO488.out))) (below_size (BT HB.out))); replace HO488 := AM_ (Kd.R_elder' (RT HO488.out) (Kd.R_base ho2) hb); have HO506 := AM_ (Kd.R_lower (Kd.R_new' ho3 (Kd.R_lt (RT HO491.out))) (below_size (BT HB.out))); replace HO491 := AM_ (Kd.R_elder' (RT HO491.out) (Kd.R_base ho3) hb); replace BK477 := BV BK477 hb; replace HB := BW HB hb; (try clear hb); (try clear ho0); (try clear ho1); (try clear ho2); (try clear ho3)) | ((with_reducible refine G2 5 rfl ?_); refine BX 5 #[.bool false, .slice none 0 0, .slice none 0 0, .slice none 0 0, .slice none 0 0, .int .i64 0] 39 ?_; intro gb508 hg w24 hbox hb; replace HO482 := AM_ (Kd.S_below (ST HO482.out) hb); replace HO485 := AM_ (Kd.S_below (ST HO485.out) hb); replace HO488 := AM_ (Kd.R_below (RT HO488.out) hb); replace HO491 := AM_ (Kd.R_below (RT HO491.out) hb); replace HO497 := AM_ (Kd.S_below (ST HO497.out) hb); replace HO500 := AM_ (Kd.S_below (ST HO500.out) hb); replace HO503 := AM_ (Kd.R_below (RT HO503.out) hb); replace HO506 := AM_ (Kd.R_below (RT HO506.out) hb); have BK508 := AM_ (hbox); have GW508 := AM_ ((GS HB.out hg)); replace HB := BW HB hb; have NB477_508 := NP BK477 hg; have NB508_477 := NQ BK477 hg; replace BK477 := BV BK477 hb; clear hb hbox hg; have hnb25 := NB508_477.out; have hnc25 := NB477_508.out; obtain ⟨hcz26_0, hcz26_1, hcz26_2, hcz26_3, hcz26_4, hcz26_5, hfz26_0, hfz26_1, hfz26_2, hfz26_3, hfz26_4, hfz26_5⟩ := bk6 BK508.out; obtain ⟨Ao27, co27, eo27⟩ := Kd.S_slice HO497.out; subst eo27; obtain ⟨Ao28, co28, eo28⟩ := Kd.S_slice HO500.out; subst eo28; obtain ⟨Ao29, co29, eo29⟩ := Kd.R_slice HO503.out; subst eo29; obtain ⟨Ao30, co30, eo30⟩ := Kd.R_slice HO506.out; subst eo30) | ((with_reducible refine G1 8 rfl ?_); refine GC (some 18) Try.func8 #[.agg #[.bool t494, .slice Ao27 t495.length co27, .slice Ao28 t498.length co28, .slice Ao29 t501.length co29, .slice Ao30 t504.length co30, .int .i64 t507]] ?_; (with_reducible refine (impl_IsValidEngine.calls k t494 _ _ t495 _ _ t498 _ _ t501 _ _ t504 t507 t509 _ ?side1 ?side2 ?side3 ?side4 ?side5 ?side6 ?side7 ?side8 A10.out).mono ?_); (case side1 => exact CG HO497.out BK508.out); (case side2 => exact (Kd.S_reads' HO497.out).2.1); (case side3 => exact CG HO500.out BK508.out); (case side4 => exact (Kd.S_reads' HO500.out).2.1); (case side5 => exact CF HO503.out BK508.out); (case side6 => exact (Kd.R_reads' HO503.out).2.1); (case side7 => exact CF HO506.out BK508.out); (case side8 => exact (Kd.R_reads' HO506.out).2.1); rintro e w31 ⟨rfl, hb⟩; refine ⟨_, rfl, ?_⟩; replace HO482 := AM_ (Kd.S_below (SF HO482.out BK508.out) hb); replace HO485 := AM_ (Kd.S_below (SF HO485.out BK508.out) hb); replace HO488 := AM_ (Kd.R_below (RF HO488.out BK508.out) hb); replace HO491 := AM_ (Kd.R_below (RF HO491.out BK508.out) hb); replace HO497 := AM_ (Kd.S_below (SF HO497.out BK508.out) hb); replace HO500 := AM_ (Kd.S_below (SF HO500.out BK508.out) hb); replace HO503 := AM_ (Kd.R_below (RF HO503.out BK508.out) hb); replace HO506 := AM_ (Kd.R_below (RF HO506.out BK508.out) hb); replace BK477 := AM_ (BF BK477.out NB477_508.out hb); replace BK508 := AM_ (BP #[.bool t494, .slice Ao27 t495.length co27, .slice Ao28 t498.length co28, .slice Ao29 t501.length co29, .slice Ao30 t504.length co30, .int .i64 t507] BK508.out hb); replace HB := BW HB hb; (try clear hb)))
  go_ret
  exact QT (BT HB.out)
 rw [if_neg c11] at H
 have c11b0 : (t509 != t493) = false := by simpa using c11
 (try (have c11b1 : decide (t509 = t493) = true := by simpa using c11))
 (try (have c11b2 : (t509 == t493) = true := by simpa using c11))
 clear c11
 obtain ⟨⟨t510, t511, t514, t517, t520, t523⟩, A32, H⟩ := OB H
 obtain ⟨t524, A33, H⟩ := OB H
 by_cases c34 : t524 = true
 ·subst c34
  replace H := HT H
  obtain rfl := Option.some.inj H
  go_enter Try.func3, Try.ntmps3
  try go_wp2_with (first | ((with_reducible refine G2 1 rfl ?_); refine BY 1 #[.bool a0_0, .slice A0_1 l0_1.length c0_1, .slice A0_2 l0_2.length c0_2, .slice A0_3 l0_3.length c0_3, .slice A0_4 l0_4.length c0_4, .int .i64 a0_5] 29 HB ?_; clear HB; intro gb477 w35 BK477 GW477 HB; obtain ⟨hcz36_0, hcz36_1, hcz36_2, hcz36_3, hcz36_4, hcz36_5, hfz36_0, hfz36_1, hfz36_2, hfz36_3, hfz36_4, hfz36_5⟩ := bk6 BK477.out) | ((with_reducible refine G1 5 rfl ?_); refine GC (some 9) Try.func5 #[.agg #[.bool a0_0, .slice A0_1 l0_1.length c0_1, .slice A0_2 l0_2.length c0_2, .slice A0_3 l0_3.length c0_3, .slice A0_4 l0_4.length c0_4, .int .i64 a0_5], .int .i64 1048576] ?_; (with_reducible refine MB (laws_szEngine.calls k a0_0 _ _ l0_1 _ _ l0_2 _ _ l0_3 _ _ l0_4 a0_5 1048576 t478 _ (CC HR0_1 HB) HC0_1.out (CC HR0_2 HB) HC0_2.out (CC HR0_3 HB) HC0_3.out (CC HR0_4 HB) HC0_4.out A2.out) ?_); intro w37 hb; replace BK477 := BV BK477 hb; replace HB := BW HB hb; (try clear hb); obtain ⟨hcz38_0, hcz38_1, hcz38_2, hcz38_3, hcz38_4, hcz38_5, hfz38_0, hfz38_1, hfz38_2, hfz38_3, hfz38_4, hfz38_5⟩ := bk6 BK477.out) | ((with_reducible refine G1 7 rfl ?_); refine GC (some 13) Try.func7 #[.agg #[.bool a0_0, .slice A0_1 l0_1.length c0_1, .slice A0_2 l0_2.length c0_2, .slice A0_3 l0_3.length c0_3, .slice A0_4 l0_4.length c0_4, .int .i64 a0_5]] ?_; (with_reducible refine (laws_toEngine.calls k a0_0 _ _ l0_1 _ _ l0_2 _ _ l0_3 _ _ l0_4 a0_5 t479 t480 t483 t486 t489 t492 _ ?side1 ?side2 ?side3 ?side4 ?side5 ?side6 ?side7 ?side8 A7.out).mono ?_); (case side1 => exact CB HR0_1.out HB.out); (case side2 => exact HC0_1.out); (case side3 => exact CB HR0_2.out HB.out); (case side4 => exact HC0_2.out); (case side5 => exact CB HR0_3.out HB.out); (case side6 => exact HC0_3.out); (case side7 => exact CB HR0_4.out HB.out); (case side8 => exact HC0_4.out); rintro e w39 ⟨v481, v484, v487, v490, rfl, ho0, ho1, ho2, ho3, hb⟩; refine ⟨_, rfl, ?_⟩; have HO482 := AM_ (Kd.S_lower ho0 (below_size (BT HB.out))); have HO485 := AM_ (Kd.S_lower ho1 (below_size (BT HB.out))); have HO488 := AM_ (Kd.R_lower ho2 (below_size (BT HB.out))); have HO491 := AM_ (Kd.R_lower ho3 (below_size (BT HB.out))); replace BK477 := BV BK477 hb; replace HB := BW HB hb; (try clear hb); (try clear ho0); (try clear ho1); (try clear ho2); (try clear ho3); obtain ⟨Ao40, co40, eo40⟩ := Kd.S_slice HO482.out; subst eo40; obtain ⟨Ao41, co41, eo41⟩ := Kd.S_slice HO485.out; subst eo41; obtain ⟨Ao42, co42, eo42⟩ := Kd.R_slice HO488.out; subst eo42; obtain ⟨Ao43, co43, eo43⟩ := Kd.R_slice HO491.out; subst eo43) | ((with_reducible refine G1 6 rfl ?_); refine GC (some 14) Try.func6 #[.agg #[.bool t479, .slice Ao40 t480.length co40, .slice Ao41 t483.length co41, .slice Ao42 t486.length co42, .slice Ao43 t489.length co43, .int .i64 t492]] ?_; (with_reducible refine (spec_IsValidEngine.calls k t479 _ _ t480 _ _ t483 _ _ t486 _ _ t489 t492 t493 _ ?side1 ?side2 ?side3 ?side4 ?side5 ?side6 ?side7 ?side8 A8.out).mono ?_); (case side1 => exact Kd.C_below (Kd.S_reads' HO482.out).2.2 (BL (Below.refl _ _) rfl rfl rfl rfl)); (case side2 => exact (Kd.S_reads' HO482.out).2.1); (case side3 => exact Kd.C_below (Kd.S_reads' HO485.out).2.2 (BL (Below.refl _ _) rfl rfl rfl rfl)); (case side4 => exact (Kd.S_reads' HO485.out).2.1); (case side5 => exact Kd.C_below (Kd.R_reads' HO488.out).2.2 (BL (Below.refl _ _) rfl rfl rfl rfl)); (case side6 => exact (Kd.R_reads' HO488.out).2.1); (case side7 => exact Kd.C_below (Kd.R_reads' HO491.out).2.2 (BL (Below.refl _ _) rfl rfl rfl rfl)); (case side8 => exact (Kd.R_reads' HO491.out).2.1); rintro e w44 ⟨rfl, hb⟩; refine ⟨_, rfl, ?_⟩; replace HO482 := AM_ (Kd.S_below (ST HO482.out) hb); replace HO485 := AM_ (Kd.S_below (ST HO485.out) hb); replace HO488 := AM_ (Kd.R_below (RT HO488.out) hb); replace HO491 := AM_ (Kd.R_below (RT HO491.out) hb); replace BK477 := BV BK477 hb; replace HB := BW HB hb; (try clear hb); obtain ⟨hcz45_0, hcz45_1, hcz45_2, hcz45_3, hcz45_4, hcz45_5, hfz45_0, hfz45_1, hfz45_2, hfz45_3, hfz45_4, hfz45_5⟩ := bk6 BK477.out) | ((with_reducible refine G1 7 rfl ?_); refine GC (some 16) Try.func7 #[.agg #[.bool a0_0, .slice A0_1 l0_1.length c0_1, .slice A0_2 l0_2.length c0_2, .slice A0_3 l0_3.length c0_3, .slice A0_4 l0_4.length c0_4, .int .i64 a0_5]] ?_; (with_reducible refine (laws_toEngine.calls k a0_0 _ _ l0_1 _ _ l0_2 _ _ l0_3 _ _ l0_4 a0_5 t494 t495 t498 t501 t504 t507 _ ?side1 ?side2 ?side3 ?side4 ?side5 ?side6 ?side7 ?side8 A9.out).mono ?_); (case side1 => exact CB HR0_1.out HB.out); (case side2 => exact HC0_1.out); (case side3 => exact CB HR0_2.out HB.out); (case side4 => exact HC0_2.out); (case side5 => exact CB HR0_3.out HB.out); (case side6 => exact HC0_3.out); (case side7 => exact CB HR0_4.out HB.out); (case side8 => exact HC0_4.out); rintro e w46 ⟨v496, v499, v502, v505, rfl, ho0, ho1, ho2, ho3, hb⟩; refine ⟨_, rfl, ?_⟩; have HO497 := AM_ (Kd.S_lower (Kd.S_new' ho0 (Kd.S_lt (ST HO482.out))) (below_size (BT HB.out))); replace HO482 := AM_ (Kd.S_elder' (ST HO482.out) (Kd.S_base ho0) hb); have HO500 := AM_ (Kd.S_lower (Kd.S_new' ho1 (Kd.S_lt (ST HO485.out))) (below_size (BT HB.out))); replace HO485 := AM_ (Kd.S_elder' (ST HO485.out) (Kd.S_base ho1) hb); have HO503 := AM_ (Kd.R_lower (Kd.R_new' ho2 (Kd.R_lt (RT HO488.out))) (below_size (BT HB.out))); replace HO488 := AM_ (Kd.R_elder' (RT HO488.out) (Kd.R_base ho2) hb); have HO506 := AM_ (Kd.R_lower (Kd.R_new' ho3 (Kd.R_lt (RT HO491.out))) (below_size (BT HB.out))); replace HO491 := AM_ (Kd.R_elder' (RT HO491.out) (Kd.R_base ho3) hb); replace BK477 := BV BK477 hb; replace HB := BW HB hb; (try clear hb); (try clear ho0); (try clear ho1); (try clear ho2); (try clear ho3)) | ((with_reducible refine G2 5 rfl ?_); refine BX 5 #[.bool false, .slice none 0 0, .slice none 0 0, .slice none 0 0, .slice none 0 0, .int .i64 0] 39 ?_; intro gb508 hg w47 hbox hb; replace HO482 := AM_ (Kd.S_below (ST HO482.out) hb); replace HO485 := AM_ (Kd.S_below (ST HO485.out) hb); replace HO488 := AM_ (Kd.R_below (RT HO488.out) hb); replace HO491 := AM_ (Kd.R_below (RT HO491.out) hb); replace HO497 := AM_ (Kd.S_below (ST HO497.out) hb); replace HO500 := AM_ (Kd.S_below (ST HO500.out) hb); replace HO503 := AM_ (Kd.R_below (RT HO503.out) hb); replace HO506 := AM_ (Kd.R_below (RT HO506.out) hb); have BK508 := AM_ (hbox); have GW508 := AM_ ((GS HB.out hg)); replace HB := BW HB hb; have NB477_508 := NP BK477 hg; have NB508_477 := NQ BK477 hg; replace BK477 := BV BK477 hb; clear hb hbox hg; have hnb48 := NB508_477.out; have hnc48 := NB477_508.out; obtain ⟨hcz49_0, hcz49_1, hcz49_2, hcz49_3, hcz49_4, hcz49_5, hfz49_0, hfz49_1, hfz49_2, hfz49_3, hfz49_4, hfz49_5⟩ := bk6 BK508.out; obtain ⟨Ao50, co50, eo50⟩ := Kd.S_slice HO497.out; subst eo50; obtain ⟨Ao51, co51, eo51⟩ := Kd.S_slice HO500.out; subst eo51; obtain ⟨Ao52, co52, eo52⟩ := Kd.R_slice HO503.out; subst eo52; obtain ⟨Ao53, co53, eo53⟩ := Kd.R_slice HO506.out; subst eo53) | ((with_reducible refine G1 8 rfl ?_); refine GC (some 18) Try.func8 #[.agg #[.bool t494, .slice Ao50 t495.length co50, .slice Ao51 t498.length co51, .slice Ao52 t501.length co52, .slice Ao53 t504.length co53, .int .i64 t507]] ?_; (with_reducible refine (impl_IsValidEngine.calls k t494 _ _ t495 _ _ t498 _ _ t501 _ _ t504 t507 t509 _ ?side1 ?side2 ?side3 ?side4 ?side5 ?side6 ?side7 ?side8 A10.out).mono ?_); (case side1 => exact CG HO497.out BK508.out); (case side2 => exact (Kd.S_reads' HO497.out).2.1); (case side3 => exact CG HO500.out BK508.out); (case side4 => exact (Kd.S_reads' HO500.out).2.1); (case side5 => exact CF HO503.out BK508.out); (case side6 => exact (Kd.R_reads' HO503.out).2.1); (case side7 => exact CF HO506.out BK508.out); (case side8 => exact (Kd.R_reads' HO506.out).2.1); rintro e w54 ⟨rfl, hb⟩; refine ⟨_, rfl, ?_⟩; replace HO482 := AM_ (Kd.S_below (SF HO482.out BK508.out) hb); replace HO485 := AM_ (Kd.S_below (SF HO485.out BK508.out) hb); replace HO488 := AM_ (Kd.R_below (RF HO488.out BK508.out) hb); replace HO491 := AM_ (Kd.R_below (RF HO491.out BK508.out) hb); replace HO497 := AM_ (Kd.S_below (SF HO497.out BK508.out) hb); replace HO500 := AM_ (Kd.S_below (SF HO500.out BK508.out) hb); replace HO503 := AM_ (Kd.R_below (RF HO503.out BK508.out) hb); replace HO506 := AM_ (Kd.R_below (RF HO506.out BK508.out) hb); replace BK477 := AM_ (BF BK477.out NB477_508.out hb); replace BK508 := AM_ (BP #[.bool t494, .slice Ao50 t495.length co50, .slice Ao51 t498.length co51, .slice Ao52 t501.length co52, .slice Ao53 t504.length co53, .int .i64 t507] BK508.out hb); replace HB := BW HB hb; (try clear hb)))
  replace HO482 := AM_ (Kd.S_drew HO482.out)
  replace HO485 := AM_ (Kd.S_drew HO485.out)
  replace HO488 := AM_ (Kd.R_drew HO488.out)
  replace HO491 := AM_ (Kd.R_drew HO491.out)
  replace HO497 := AM_ (Kd.S_drew HO497.out)
  replace HO500 := AM_ (Kd.S_drew HO500.out)
  replace HO503 := AM_ (Kd.R_drew HO503.out)
  replace HO506 := AM_ (Kd.R_drew HO506.out)
  replace BK477 := BD1 BK477
  replace BK508 := BD1 BK508
  replace HB := BD2 HB
  refine start_ (n := 5) (S := fun w' => w'.cell? ⟨gb508, 0, none⟩ = some (.bool t494) ∧ w'.cell? ⟨gb508, 1, none⟩ = some (.slice Ao50 t495.length co50) ∧ w'.cell? ⟨gb508, 2, none⟩ = some (.slice Ao51 t498.length co51) ∧ w'.cell? ⟨gb508, 3, none⟩ = some (.slice Ao52 t501.length co52) ∧ w'.cell? ⟨gb508, 4, none⟩ = some (.slice Ao53 t504.length co53) ∧ w'.cell? ⟨gb508, 5, none⟩ = some (.int .i64 t507) ∧ w'.cell? ⟨gb477, 0, none⟩ = some (.bool a0_0) ∧ w'.cell? ⟨gb477, 1, none⟩ = some (.slice A0_1 l0_1.length c0_1) ∧ w'.cell? ⟨gb477, 2, none⟩ = some (.slice A0_2 l0_2.length c0_2) ∧ w'.cell? ⟨gb477, 3, none⟩ = some (.slice A0_3 l0_3.length c0_3) ∧ w'.cell? ⟨gb477, 4, none⟩ = some (.slice A0_4 l0_4.length c0_4) ∧ w'.cell? ⟨gb477, 5, none⟩ = some (.int .i64 a0_5)) (ds := []) (lo 0 5) (by kernel_rfl) rfl rfl ⟨bc BK508.out 0, bc BK508.out 1, bc BK508.out 2, bc BK508.out 3, bc BK508.out 4, bc BK508.out 5, bc BK477.out 0, bc BK477.out 1, bc BK477.out 2, bc BK477.out 3, bc BK477.out 4, bc BK477.out 5⟩ (fun hHeld => ?_)
  generalize w54.drew = w55 at HO482 HO485 HO488 HO491 HO497 HO500 HO503 HO506 BK477 BK508 HB hHeld ⊢
  refine take_ (i := 0) (N := some 22) (v := ?_) (a' := ?_) (bs 1 5) rfl rfl (by kernel_rfl) (fun _ _ _ h => h) (Or.inl ⟨by rfl, ?_⟩) hHeld ?_ ?_
  rotate_left
  ·rintro w' ⟨s0, s1, s2, s3, s4, s5, s6, s7, s8, s9, s10, s11⟩
   go_simp
   with_reducible rfl
  rotate_left
  ·simp only[pA,pS,pZ,pK,pV]
   rfl
  refine take_ (i := 1) (N := some 23) (v := ?_) (a' := ?_) (bs 3 5) rfl rfl (by kernel_rfl) (fun _ _ _ h => h) (Or.inl ⟨by rfl, ?_⟩) hHeld ?_ ?_
  rotate_left
  ·rintro w' ⟨s0, s1, s2, s3, s4, s5, s6, s7, s8, s9, s10, s11⟩
   go_simp
   with_reducible rfl
  rotate_left
  ·simp only[pA,pS,pZ,pK,pV]
   rfl
  refine one_ (i := 2) (N := some 24) (bs 7 5) rfl rfl (by kernel_rfl) (by decide) (fun K hK => ?_)
  refine GO Try.func7 #[.agg #[.bool a0_0, .slice A0_1 l0_1.length c0_1, .slice A0_2 l0_2.length c0_2, .slice A0_3 l0_3.length c0_3, .slice A0_4 l0_4.length c0_4, .int .i64 a0_5]] ?_
  with_reducible refine (laws_toEngine.calls k a0_0 _ _ l0_1 _ _ l0_2 _ _ l0_3 _ _ l0_4 a0_5 t510 t511 t514 t517 t520 t523 _ ?side1 ?side2 ?side3 ?side4 ?side5 ?side6 ?side7 ?side8 A32.out).mono ?_
  (case side1 => exact CB HR0_1.out HB.out)
  (case side2 => exact HC0_1.out)
  (case side3 => exact CB HR0_2.out HB.out)
  (case side4 => exact HC0_2.out)
  (case side5 => exact CB HR0_3.out HB.out)
  (case side6 => exact HC0_3.out)
  (case side7 => exact CB HR0_4.out HB.out)
  (case side8 => exact HC0_4.out)
  rintro e w56 ⟨v512, v515, v518, v521, rfl, ho0, ho1, ho2, ho3, hb⟩
  refine ⟨_, rfl, ?_⟩
  have HO513 := AM_ (Kd.S_lower (Kd.S_new' (Kd.S_new' ho0 (Kd.S_lt (ST HO482.out))) (Kd.S_lt (ST HO497.out))) (below_size (BT HB.out)))
  replace HO482 := AM_ (Kd.S_elder' (ST HO482.out) (Kd.S_base ho0) hb)
  replace HO497 := AM_ (Kd.S_elder' (ST HO497.out) (Kd.S_base ho0) hb)
  have HO516 := AM_ (Kd.S_lower (Kd.S_new' (Kd.S_new' ho1 (Kd.S_lt (ST HO485.out))) (Kd.S_lt (ST HO500.out))) (below_size (BT HB.out)))
  replace HO485 := AM_ (Kd.S_elder' (ST HO485.out) (Kd.S_base ho1) hb)
  replace HO500 := AM_ (Kd.S_elder' (ST HO500.out) (Kd.S_base ho1) hb)
  have HO519 := AM_ (Kd.R_lower (Kd.R_new' (Kd.R_new' ho2 (Kd.R_lt (RT HO488.out))) (Kd.R_lt (RT HO503.out))) (below_size (BT HB.out)))
  replace HO488 := AM_ (Kd.R_elder' (RT HO488.out) (Kd.R_base ho2) hb)
  replace HO503 := AM_ (Kd.R_elder' (RT HO503.out) (Kd.R_base ho2) hb)
  have HO522 := AM_ (Kd.R_lower (Kd.R_new' (Kd.R_new' ho3 (Kd.R_lt (RT HO491.out))) (Kd.R_lt (RT HO506.out))) (below_size (BT HB.out)))
  replace HO491 := AM_ (Kd.R_elder' (RT HO491.out) (Kd.R_base ho3) hb)
  replace HO506 := AM_ (Kd.R_elder' (RT HO506.out) (Kd.R_base ho3) hb)
  replace BK477 := BV BK477 hb
  replace BK508 := BV BK508 hb
  replace HB := BW HB hb
  (try clear hb)
  (try clear ho0)
  (try clear ho1)
  (try clear ho2)
  (try clear ho3)
  obtain ⟨Ao57, co57, eo57⟩ := Kd.S_slice HO513.out
  (first | subst eo57 | (injection eo57 with f1_ f2_ f3_; have f4_ := f1_.symm; have f5_ := f3_.symm; clear f1_ f2_ f3_; subst f4_; subst f5_))
  obtain ⟨Ao58, co58, eo58⟩ := Kd.S_slice HO516.out
  (first | subst eo58 | (injection eo58 with f1_ f2_ f3_; have f4_ := f1_.symm; have f5_ := f3_.symm; clear f1_ f2_ f3_; subst f4_; subst f5_))
  obtain ⟨Ao59, co59, eo59⟩ := Kd.R_slice HO519.out
  (first | subst eo59 | (injection eo59 with f1_ f2_ f3_; have f4_ := f1_.symm; have f5_ := f3_.symm; clear f1_ f2_ f3_; subst f4_; subst f5_))
  obtain ⟨Ao60, co60, eo60⟩ := Kd.R_slice HO522.out
  (first | subst eo60 | (injection eo60 with f1_ f2_ f3_; have f4_ := f1_.symm; have f5_ := f3_.symm; clear f1_ f2_ f3_; subst f4_; subst f5_))
  refine hK.out _ _ ⟨bc BK508.out 0, bc BK508.out 1, bc BK508.out 2, bc BK508.out 3, bc BK508.out 4, bc BK508.out 5, bc BK477.out 0, bc BK477.out 1, bc BK477.out 2, bc BK477.out 3, bc BK477.out 4, bc BK477.out 5⟩ (fun hHeld => ?_)
  clear hK K
  refine NM 24 ?_
  refine one_ (i := 3) (N := some 25) (bs 15 5) rfl rfl (by kernel_rfl) (by decide) (fun K hK => ?_)
  refine GO Try.func9 #[.agg #[.bool t494, .slice Ao50 t495.length co50, .slice Ao51 t498.length co51, .slice Ao52 t501.length co52, .slice Ao53 t504.length co53, .int .i64 t507], .agg #[.bool t510, .slice Ao57 t511.length co57, .slice Ao58 t514.length co58, .slice Ao59 t517.length co59, .slice Ao60 t520.length co60, .int .i64 t523]] ?_
  with_reducible refine (laws_eqEngine.calls k t494 _ _ t495 _ _ t498 _ _ t501 _ _ t504 t507 t510 _ _ t511 _ _ t514 _ _ t517 _ _ t520 t523 true _ ?side1 ?side2 ?side3 ?side4 ?side5 ?side6 ?side7 ?side8 ?side9 ?side10 ?side11 ?side12 ?side13 ?side14 ?side15 ?side16 A33.out).mono ?_
  (case side1 => exact Kd.C_below (Kd.S_reads' HO497.out).2.2 (BL (Below.refl _ _) rfl rfl rfl rfl))
  (case side2 => exact (Kd.S_reads' HO497.out).2.1)
  (case side3 => exact Kd.C_below (Kd.S_reads' HO500.out).2.2 (BL (Below.refl _ _) rfl rfl rfl rfl))
  (case side4 => exact (Kd.S_reads' HO500.out).2.1)
  (case side5 => exact Kd.C_below (Kd.R_reads' HO503.out).2.2 (BL (Below.refl _ _) rfl rfl rfl rfl))
  (case side6 => exact (Kd.R_reads' HO503.out).2.1)
  (case side7 => exact Kd.C_below (Kd.R_reads' HO506.out).2.2 (BL (Below.refl _ _) rfl rfl rfl rfl))
  (case side8 => exact (Kd.R_reads' HO506.out).2.1)
  (case side9 => exact Kd.C_below (Kd.S_reads' HO513.out).2.2 (BL (Below.refl _ _) rfl rfl rfl rfl))
  (case side10 => exact (Kd.S_reads' HO513.out).2.1)
  (case side11 => exact Kd.C_below (Kd.S_reads' HO516.out).2.2 (BL (Below.refl _ _) rfl rfl rfl rfl))
  (case side12 => exact (Kd.S_reads' HO516.out).2.1)
  (case side13 => exact Kd.C_below (Kd.R_reads' HO519.out).2.2 (BL (Below.refl _ _) rfl rfl rfl rfl))
  (case side14 => exact (Kd.R_reads' HO519.out).2.1)
  (case side15 => exact Kd.C_below (Kd.R_reads' HO522.out).2.2 (BL (Below.refl _ _) rfl rfl rfl rfl))
  (case side16 => exact (Kd.R_reads' HO522.out).2.1)
  rintro e w61 ⟨rfl, hb⟩
  refine ⟨_, rfl, ?_⟩
  replace HO482 := AM_ (Kd.S_below (ST HO482.out) hb)
  replace HO485 := AM_ (Kd.S_below (ST HO485.out) hb)
  replace HO488 := AM_ (Kd.R_below (RT HO488.out) hb)
  replace HO491 := AM_ (Kd.R_below (RT HO491.out) hb)
  replace HO497 := AM_ (Kd.S_below (ST HO497.out) hb)
  replace HO500 := AM_ (Kd.S_below (ST HO500.out) hb)
  replace HO503 := AM_ (Kd.R_below (RT HO503.out) hb)
  replace HO506 := AM_ (Kd.R_below (RT HO506.out) hb)
  replace HO513 := AM_ (Kd.S_below (ST HO513.out) hb)
  replace HO516 := AM_ (Kd.S_below (ST HO516.out) hb)
  replace HO519 := AM_ (Kd.R_below (RT HO519.out) hb)
  replace HO522 := AM_ (Kd.R_below (RT HO522.out) hb)
  replace BK477 := BV BK477 hb
  replace BK508 := BV BK508 hb
  replace HB := BW HB hb
  (try clear hb)
  refine hK.out _ _ ⟨bc BK508.out 0, bc BK508.out 1, bc BK508.out 2, bc BK508.out 3, bc BK508.out 4, bc BK508.out 5, bc BK477.out 0, bc BK477.out 1, bc BK477.out 2, bc BK477.out 3, bc BK477.out 4, bc BK477.out 5⟩ (fun hHeld => ?_)
  clear hK K
  refine NM 25 ?_
  refine pure_ (i := 4) (N := some 26) (v := ?_) (a' := ?_) (bs 31 5) rfl rfl (by kernel_rfl) (fun _ _ _ h => h) (Or.inl ⟨by rfl, ?_⟩) ?_ ?_
  rotate_left
  ·intro w'
   go_simp
   with_reducible rfl
  rotate_left
  ·simp only[pA,pS,pZ,pK,pV]
   rfl
  refine done_ (by kernel_rfl) ?_
  try go_wp2
  go_ret
  exact QT (BT HB.out)
 replace c34 := Bool.eq_false_iff.mpr c34
 subst c34
 replace H := HF H
 obtain rfl := Option.some.inj H
 go_enter Try.func3, Try.ntmps3
 try go_wp2_with (first | ((with_reducible refine G2 1 rfl ?_); refine BY 1 #[.bool a0_0, .slice A0_1 l0_1.length c0_1, .slice A0_2 l0_2.length c0_2, .slice A0_3 l0_3.length c0_3, .slice A0_4 l0_4.length c0_4, .int .i64 a0_5] 29 HB ?_; clear HB; intro gb477 w62 BK477 GW477 HB; obtain ⟨hcz63_0, hcz63_1, hcz63_2, hcz63_3, hcz63_4, hcz63_5, hfz63_0, hfz63_1, hfz63_2, hfz63_3, hfz63_4, hfz63_5⟩ := bk6 BK477.out) | ((with_reducible refine G1 5 rfl ?_); refine GC (some 9) Try.func5 #[.agg #[.bool a0_0, .slice A0_1 l0_1.length c0_1, .slice A0_2 l0_2.length c0_2, .slice A0_3 l0_3.length c0_3, .slice A0_4 l0_4.length c0_4, .int .i64 a0_5], .int .i64 1048576] ?_; (with_reducible refine MB (laws_szEngine.calls k a0_0 _ _ l0_1 _ _ l0_2 _ _ l0_3 _ _ l0_4 a0_5 1048576 t478 _ (CC HR0_1 HB) HC0_1.out (CC HR0_2 HB) HC0_2.out (CC HR0_3 HB) HC0_3.out (CC HR0_4 HB) HC0_4.out A2.out) ?_); intro w64 hb; replace BK477 := BV BK477 hb; replace HB := BW HB hb; (try clear hb); obtain ⟨hcz65_0, hcz65_1, hcz65_2, hcz65_3, hcz65_4, hcz65_5, hfz65_0, hfz65_1, hfz65_2, hfz65_3, hfz65_4, hfz65_5⟩ := bk6 BK477.out) | ((with_reducible refine G1 7 rfl ?_); refine GC (some 13) Try.func7 #[.agg #[.bool a0_0, .slice A0_1 l0_1.length c0_1, .slice A0_2 l0_2.length c0_2, .slice A0_3 l0_3.length c0_3, .slice A0_4 l0_4.length c0_4, .int .i64 a0_5]] ?_; (with_reducible refine (laws_toEngine.calls k a0_0 _ _ l0_1 _ _ l0_2 _ _ l0_3 _ _ l0_4 a0_5 t479 t480 t483 t486 t489 t492 _ ?side1 ?side2 ?side3 ?side4 ?side5 ?side6 ?side7 ?side8 A7.out).mono ?_); (case side1 => exact CB HR0_1.out HB.out); (case side2 => exact HC0_1.out); (case side3 => exact CB HR0_2.out HB.out); (case side4 => exact HC0_2.out); (case side5 => exact CB HR0_3.out HB.out); (case side6 => exact HC0_3.out); (case side7 => exact CB HR0_4.out HB.out); (case side8 => exact HC0_4.out); rintro e w66 ⟨v481, v484, v487, v490, rfl, ho0, ho1, ho2, ho3, hb⟩; refine ⟨_, rfl, ?_⟩; have HO482 := AM_ (Kd.S_lower ho0 (below_size (BT HB.out))); have HO485 := AM_ (Kd.S_lower ho1 (below_size (BT HB.out))); have HO488 := AM_ (Kd.R_lower ho2 (below_size (BT HB.out))); have HO491 := AM_ (Kd.R_lower ho3 (below_size (BT HB.out))); replace BK477 := BV BK477 hb; replace HB := BW HB hb; (try clear hb); (try clear ho0); (try clear ho1); (try clear ho2); (try clear ho3); obtain ⟨Ao67, co67, eo67⟩ := Kd.S_slice HO482.out; subst eo67; obtain ⟨Ao68, co68, eo68⟩ := Kd.S_slice HO485.out; subst eo68; obtain ⟨Ao69, co69, eo69⟩ := Kd.R_slice HO488.out; subst eo69; obtain ⟨Ao70, co70, eo70⟩ := Kd.R_slice HO491.out; subst eo70) | ((with_reducible refine G1 6 rfl ?_); refine GC (some 14) Try.func6 #[.agg #[.bool t479, .slice Ao67 t480.length co67, .slice Ao68 t483.length co68, .slice Ao69 t486.length co69, .slice Ao70 t489.length co70, .int .i64 t492]] ?_; (with_reducible refine (spec_IsValidEngine.calls k t479 _ _ t480 _ _ t483 _ _ t486 _ _ t489 t492 t493 _ ?side1 ?side2 ?side3 ?side4 ?side5 ?side6 ?side7 ?side8 A8.out).mono ?_); (case side1 => exact Kd.C_below (Kd.S_reads' HO482.out).2.2 (BL (Below.refl _ _) rfl rfl rfl rfl)); (case side2 => exact (Kd.S_reads' HO482.out).2.1); (case side3 => exact Kd.C_below (Kd.S_reads' HO485.out).2.2 (BL (Below.refl _ _) rfl rfl rfl rfl)); (case side4 => exact (Kd.S_reads' HO485.out).2.1); (case side5 => exact Kd.C_below (Kd.R_reads' HO488.out).2.2 (BL (Below.refl _ _) rfl rfl rfl rfl)); (case side6 => exact (Kd.R_reads' HO488.out).2.1); (case side7 => exact Kd.C_below (Kd.R_reads' HO491.out).2.2 (BL (Below.refl _ _) rfl rfl rfl rfl)); (case side8 => exact (Kd.R_reads' HO491.out).2.1); rintro e w71 ⟨rfl, hb⟩; refine ⟨_, rfl, ?_⟩; replace HO482 := AM_ (Kd.S_below (ST HO482.out) hb); replace HO485 := AM_ (Kd.S_below (ST HO485.out) hb); replace HO488 := AM_ (Kd.R_below (RT HO488.out) hb); replace HO491 := AM_ (Kd.R_below (RT HO491.out) hb); replace BK477 := BV BK477 hb; replace HB := BW HB hb; (try clear hb); obtain ⟨hcz72_0, hcz72_1, hcz72_2, hcz72_3, hcz72_4, hcz72_5, hfz72_0, hfz72_1, hfz72_2, hfz72_3, hfz72_4, hfz72_5⟩ := bk6 BK477.out) | ((with_reducible refine G1 7 rfl ?_); refine GC (some 16) Try.func7 #[.agg #[.bool a0_0, .slice A0_1 l0_1.length c0_1, .slice A0_2 l0_2.length c0_2, .slice A0_3 l0_3.length c0_3, .slice A0_4 l0_4.length c0_4, .int .i64 a0_5]] ?_; (with_reducible refine (laws_toEngine.calls k a0_0 _ _ l0_1 _ _ l0_2 _ _ l0_3 _ _ l0_4 a0_5 t494 t495 t498 t501 t504 t507 _ ?side1 ?side2 ?side3 ?side4 ?side5 ?side6 ?side7 ?side8 A9.out).mono ?_); (case side1 => exact CB HR0_1.out HB.out); (case side2 => exact HC0_1.out); (case side3 => exact CB HR0_2.out HB.out); (case side4 => exact HC0_2.out); (case side5 => exact CB HR0_3.out HB.out); (case side6 => exact HC0_3.out); (case side7 => exact CB HR0_4.out HB.out); (case side8 => exact HC0_4.out); rintro e w73 ⟨v496, v499, v502, v505, rfl, ho0, ho1, ho2, ho3, hb⟩; refine ⟨_, rfl, ?_⟩; have HO497 := AM_ (Kd.S_lower (Kd.S_new' ho0 (Kd.S_lt (ST HO482.out))) (below_size (BT HB.out))); replace HO482 := AM_ (Kd.S_elder' (ST HO482.out) (Kd.S_base ho0) hb); have HO500 := AM_ (Kd.S_lower (Kd.S_new' ho1 (Kd.S_lt (ST HO485.out))) (below_size (BT HB.out))); replace HO485 := AM_ (Kd.S_elder' (ST HO485.out) (Kd.S_base ho1) hb); have HO503 := AM_ (Kd.R_lower (Kd.R_new' ho2 (Kd.R_lt (RT HO488.out))) (below_size (BT HB.out))); replace HO488 := AM_ (Kd.R_elder' (RT HO488.out) (Kd.R_base ho2) hb); have HO506 := AM_ (Kd.R_lower (Kd.R_new' ho3 (Kd.R_lt (RT HO491.out))) (below_size (BT HB.out))); replace HO491 := AM_ (Kd.R_elder' (RT HO491.out) (Kd.R_base ho3) hb); replace BK477 := BV BK477 hb; replace HB := BW HB hb; (try clear hb); (try clear ho0); (try clear ho1); (try clear ho2); (try clear ho3)) | ((with_reducible refine G2 5 rfl ?_); refine BX 5 #[.bool false, .slice none 0 0, .slice none 0 0, .slice none 0 0, .slice none 0 0, .int .i64 0] 39 ?_; intro gb508 hg w74 hbox hb; replace HO482 := AM_ (Kd.S_below (ST HO482.out) hb); replace HO485 := AM_ (Kd.S_below (ST HO485.out) hb); replace HO488 := AM_ (Kd.R_below (RT HO488.out) hb); replace HO491 := AM_ (Kd.R_below (RT HO491.out) hb); replace HO497 := AM_ (Kd.S_below (ST HO497.out) hb); replace HO500 := AM_ (Kd.S_below (ST HO500.out) hb); replace HO503 := AM_ (Kd.R_below (RT HO503.out) hb); replace HO506 := AM_ (Kd.R_below (RT HO506.out) hb); have BK508 := AM_ (hbox); have GW508 := AM_ ((GS HB.out hg)); replace HB := BW HB hb; have NB477_508 := NP BK477 hg; have NB508_477 := NQ BK477 hg; replace BK477 := BV BK477 hb; clear hb hbox hg; have hnb75 := NB508_477.out; have hnc75 := NB477_508.out; obtain ⟨hcz76_0, hcz76_1, hcz76_2, hcz76_3, hcz76_4, hcz76_5, hfz76_0, hfz76_1, hfz76_2, hfz76_3, hfz76_4, hfz76_5⟩ := bk6 BK508.out; obtain ⟨Ao77, co77, eo77⟩ := Kd.S_slice HO497.out; subst eo77; obtain ⟨Ao78, co78, eo78⟩ := Kd.S_slice HO500.out; subst eo78; obtain ⟨Ao79, co79, eo79⟩ := Kd.R_slice HO503.out; subst eo79; obtain ⟨Ao80, co80, eo80⟩ := Kd.R_slice HO506.out; subst eo80) | ((with_reducible refine G1 8 rfl ?_); refine GC (some 18) Try.func8 #[.agg #[.bool t494, .slice Ao77 t495.length co77, .slice Ao78 t498.length co78, .slice Ao79 t501.length co79, .slice Ao80 t504.length co80, .int .i64 t507]] ?_; (with_reducible refine (impl_IsValidEngine.calls k t494 _ _ t495 _ _ t498 _ _ t501 _ _ t504 t507 t509 _ ?side1 ?side2 ?side3 ?side4 ?side5 ?side6 ?side7 ?side8 A10.out).mono ?_); (case side1 => exact CG HO497.out BK508.out); (case side2 => exact (Kd.S_reads' HO497.out).2.1); (case side3 => exact CG HO500.out BK508.out); (case side4 => exact (Kd.S_reads' HO500.out).2.1); (case side5 => exact CF HO503.out BK508.out); (case side6 => exact (Kd.R_reads' HO503.out).2.1); (case side7 => exact CF HO506.out BK508.out); (case side8 => exact (Kd.R_reads' HO506.out).2.1); rintro e w81 ⟨rfl, hb⟩; refine ⟨_, rfl, ?_⟩; replace HO482 := AM_ (Kd.S_below (SF HO482.out BK508.out) hb); replace HO485 := AM_ (Kd.S_below (SF HO485.out BK508.out) hb); replace HO488 := AM_ (Kd.R_below (RF HO488.out BK508.out) hb); replace HO491 := AM_ (Kd.R_below (RF HO491.out BK508.out) hb); replace HO497 := AM_ (Kd.S_below (SF HO497.out BK508.out) hb); replace HO500 := AM_ (Kd.S_below (SF HO500.out BK508.out) hb); replace HO503 := AM_ (Kd.R_below (RF HO503.out BK508.out) hb); replace HO506 := AM_ (Kd.R_below (RF HO506.out BK508.out) hb); replace BK477 := AM_ (BF BK477.out NB477_508.out hb); replace BK508 := AM_ (BP #[.bool t494, .slice Ao77 t495.length co77, .slice Ao78 t498.length co78, .slice Ao79 t501.length co79, .slice Ao80 t504.length co80, .int .i64 t507] BK508.out hb); replace HB := BW HB hb; (try clear hb)))
 replace HO482 := AM_ (Kd.S_drew HO482.out)
 replace HO485 := AM_ (Kd.S_drew HO485.out)
 replace HO488 := AM_ (Kd.R_drew HO488.out)
 replace HO491 := AM_ (Kd.R_drew HO491.out)
 replace HO497 := AM_ (Kd.S_drew HO497.out)
 replace HO500 := AM_ (Kd.S_drew HO500.out)
 replace HO503 := AM_ (Kd.R_drew HO503.out)
 replace HO506 := AM_ (Kd.R_drew HO506.out)
 replace BK477 := BD1 BK477
 replace BK508 := BD1 BK508
 replace HB := BD2 HB
 refine start_ (n := 5) (S := fun w' => w'.cell? ⟨gb508, 0, none⟩ = some (.bool t494) ∧ w'.cell? ⟨gb508, 1, none⟩ = some (.slice Ao77 t495.length co77) ∧ w'.cell? ⟨gb508, 2, none⟩ = some (.slice Ao78 t498.length co78) ∧ w'.cell? ⟨gb508, 3, none⟩ = some (.slice Ao79 t501.length co79) ∧ w'.cell? ⟨gb508, 4, none⟩ = some (.slice Ao80 t504.length co80) ∧ w'.cell? ⟨gb508, 5, none⟩ = some (.int .i64 t507) ∧ w'.cell? ⟨gb477, 0, none⟩ = some (.bool a0_0) ∧ w'.cell? ⟨gb477, 1, none⟩ = some (.slice A0_1 l0_1.length c0_1) ∧ w'.cell? ⟨gb477, 2, none⟩ = some (.slice A0_2 l0_2.length c0_2) ∧ w'.cell? ⟨gb477, 3, none⟩ = some (.slice A0_3 l0_3.length c0_3) ∧ w'.cell? ⟨gb477, 4, none⟩ = some (.slice A0_4 l0_4.length c0_4) ∧ w'.cell? ⟨gb477, 5, none⟩ = some (.int .i64 a0_5)) (ds := []) (lo 0 5) (by kernel_rfl) rfl rfl ⟨bc BK508.out 0, bc BK508.out 1, bc BK508.out 2, bc BK508.out 3, bc BK508.out 4, bc BK508.out 5, bc BK477.out 0, bc BK477.out 1, bc BK477.out 2, bc BK477.out 3, bc BK477.out 4, bc BK477.out 5⟩ (fun hHeld => ?_)
 generalize w81.drew = w82 at HO482 HO485 HO488 HO491 HO497 HO500 HO503 HO506 BK477 BK508 HB hHeld ⊢
 refine take_ (i := 0) (N := some 22) (v := ?_) (a' := ?_) (bs 1 5) rfl rfl (by kernel_rfl) (fun _ _ _ h => h) (Or.inl ⟨by rfl, ?_⟩) hHeld ?_ ?_
 rotate_left
 ·rintro w' ⟨s0, s1, s2, s3, s4, s5, s6, s7, s8, s9, s10, s11⟩
  go_simp
  with_reducible rfl
 rotate_left
 ·simp only[pA,pS,pZ,pK,pV]
  rfl
 refine take_ (i := 1) (N := some 23) (v := ?_) (a' := ?_) (bs 3 5) rfl rfl (by kernel_rfl) (fun _ _ _ h => h) (Or.inl ⟨by rfl, ?_⟩) hHeld ?_ ?_
 rotate_left
 ·rintro w' ⟨s0, s1, s2, s3, s4, s5, s6, s7, s8, s9, s10, s11⟩
  go_simp
  with_reducible rfl
 rotate_left
 ·simp only[pA,pS,pZ,pK,pV]
  rfl
 refine one_ (i := 2) (N := some 24) (bs 7 5) rfl rfl (by kernel_rfl) (by decide) (fun K hK => ?_)
 refine GO Try.func7 #[.agg #[.bool a0_0, .slice A0_1 l0_1.length c0_1, .slice A0_2 l0_2.length c0_2, .slice A0_3 l0_3.length c0_3, .slice A0_4 l0_4.length c0_4, .int .i64 a0_5]] ?_
 with_reducible refine (laws_toEngine.calls k a0_0 _ _ l0_1 _ _ l0_2 _ _ l0_3 _ _ l0_4 a0_5 t510 t511 t514 t517 t520 t523 _ ?side1 ?side2 ?side3 ?side4 ?side5 ?side6 ?side7 ?side8 A32.out).mono ?_
 (case side1 => exact CB HR0_1.out HB.out)
 (case side2 => exact HC0_1.out)
 (case side3 => exact CB HR0_2.out HB.out)
 (case side4 => exact HC0_2.out)
 (case side5 => exact CB HR0_3.out HB.out)
 (case side6 => exact HC0_3.out)
 (case side7 => exact CB HR0_4.out HB.out)
 (case side8 => exact HC0_4.out)
 rintro e w83 ⟨v512, v515, v518, v521, rfl, ho0, ho1, ho2, ho3, hb⟩
 refine ⟨_, rfl, ?_⟩
 have HO513 := AM_ (Kd.S_lower (Kd.S_new' (Kd.S_new' ho0 (Kd.S_lt (ST HO482.out))) (Kd.S_lt (ST HO497.out))) (below_size (BT HB.out)))
 replace HO482 := AM_ (Kd.S_elder' (ST HO482.out) (Kd.S_base ho0) hb)
 replace HO497 := AM_ (Kd.S_elder' (ST HO497.out) (Kd.S_base ho0) hb)
 have HO516 := AM_ (Kd.S_lower (Kd.S_new' (Kd.S_new' ho1 (Kd.S_lt (ST HO485.out))) (Kd.S_lt (ST HO500.out))) (below_size (BT HB.out)))
 replace HO485 := AM_ (Kd.S_elder' (ST HO485.out) (Kd.S_base ho1) hb)
 replace HO500 := AM_ (Kd.S_elder' (ST HO500.out) (Kd.S_base ho1) hb)
 have HO519 := AM_ (Kd.R_lower (Kd.R_new' (Kd.R_new' ho2 (Kd.R_lt (RT HO488.out))) (Kd.R_lt (RT HO503.out))) (below_size (BT HB.out)))
 replace HO488 := AM_ (Kd.R_elder' (RT HO488.out) (Kd.R_base ho2) hb)
 replace HO503 := AM_ (Kd.R_elder' (RT HO503.out) (Kd.R_base ho2) hb)
 have HO522 := AM_ (Kd.R_lower (Kd.R_new' (Kd.R_new' ho3 (Kd.R_lt (RT HO491.out))) (Kd.R_lt (RT HO506.out))) (below_size (BT HB.out)))
 replace HO491 := AM_ (Kd.R_elder' (RT HO491.out) (Kd.R_base ho3) hb)
 replace HO506 := AM_ (Kd.R_elder' (RT HO506.out) (Kd.R_base ho3) hb)
 replace BK477 := BV BK477 hb
 replace BK508 := BV BK508 hb
 replace HB := BW HB hb
 (try clear hb)
 (try clear ho0)
 (try clear ho1)
 (try clear ho2)
 (try clear ho3)
 obtain ⟨Ao84, co84, eo84⟩ := Kd.S_slice HO513.out
 (first | subst eo84 | (injection eo84 with f1_ f2_ f3_; have f4_ := f1_.symm; have f5_ := f3_.symm; clear f1_ f2_ f3_; subst f4_; subst f5_))
 obtain ⟨Ao85, co85, eo85⟩ := Kd.S_slice HO516.out
 (first | subst eo85 | (injection eo85 with f1_ f2_ f3_; have f4_ := f1_.symm; have f5_ := f3_.symm; clear f1_ f2_ f3_; subst f4_; subst f5_))
 obtain ⟨Ao86, co86, eo86⟩ := Kd.R_slice HO519.out
 (first | subst eo86 | (injection eo86 with f1_ f2_ f3_; have f4_ := f1_.symm; have f5_ := f3_.symm; clear f1_ f2_ f3_; subst f4_; subst f5_))
 obtain ⟨Ao87, co87, eo87⟩ := Kd.R_slice HO522.out
 (first | subst eo87 | (injection eo87 with f1_ f2_ f3_; have f4_ := f1_.symm; have f5_ := f3_.symm; clear f1_ f2_ f3_; subst f4_; subst f5_))
 refine hK.out _ _ ⟨bc BK508.out 0, bc BK508.out 1, bc BK508.out 2, bc BK508.out 3, bc BK508.out 4, bc BK508.out 5, bc BK477.out 0, bc BK477.out 1, bc BK477.out 2, bc BK477.out 3, bc BK477.out 4, bc BK477.out 5⟩ (fun hHeld => ?_)
 clear hK K
 refine NM 24 ?_
 refine one_ (i := 3) (N := some 25) (bs 15 5) rfl rfl (by kernel_rfl) (by decide) (fun K hK => ?_)
 refine GO Try.func9 #[.agg #[.bool t494, .slice Ao77 t495.length co77, .slice Ao78 t498.length co78, .slice Ao79 t501.length co79, .slice Ao80 t504.length co80, .int .i64 t507], .agg #[.bool t510, .slice Ao84 t511.length co84, .slice Ao85 t514.length co85, .slice Ao86 t517.length co86, .slice Ao87 t520.length co87, .int .i64 t523]] ?_
 with_reducible refine (laws_eqEngine.calls k t494 _ _ t495 _ _ t498 _ _ t501 _ _ t504 t507 t510 _ _ t511 _ _ t514 _ _ t517 _ _ t520 t523 false _ ?side1 ?side2 ?side3 ?side4 ?side5 ?side6 ?side7 ?side8 ?side9 ?side10 ?side11 ?side12 ?side13 ?side14 ?side15 ?side16 A33.out).mono ?_
 (case side1 => exact Kd.C_below (Kd.S_reads' HO497.out).2.2 (BL (Below.refl _ _) rfl rfl rfl rfl))
 (case side2 => exact (Kd.S_reads' HO497.out).2.1)
 (case side3 => exact Kd.C_below (Kd.S_reads' HO500.out).2.2 (BL (Below.refl _ _) rfl rfl rfl rfl))
 (case side4 => exact (Kd.S_reads' HO500.out).2.1)
 (case side5 => exact Kd.C_below (Kd.R_reads' HO503.out).2.2 (BL (Below.refl _ _) rfl rfl rfl rfl))
 (case side6 => exact (Kd.R_reads' HO503.out).2.1)
 (case side7 => exact Kd.C_below (Kd.R_reads' HO506.out).2.2 (BL (Below.refl _ _) rfl rfl rfl rfl))
 (case side8 => exact (Kd.R_reads' HO506.out).2.1)
 (case side9 => exact Kd.C_below (Kd.S_reads' HO513.out).2.2 (BL (Below.refl _ _) rfl rfl rfl rfl))
 (case side10 => exact (Kd.S_reads' HO513.out).2.1)
 (case side11 => exact Kd.C_below (Kd.S_reads' HO516.out).2.2 (BL (Below.refl _ _) rfl rfl rfl rfl))
 (case side12 => exact (Kd.S_reads' HO516.out).2.1)
 (case side13 => exact Kd.C_below (Kd.R_reads' HO519.out).2.2 (BL (Below.refl _ _) rfl rfl rfl rfl))
 (case side14 => exact (Kd.R_reads' HO519.out).2.1)
 (case side15 => exact Kd.C_below (Kd.R_reads' HO522.out).2.2 (BL (Below.refl _ _) rfl rfl rfl rfl))
 (case side16 => exact (Kd.R_reads' HO522.out).2.1)
 rintro e w88 ⟨rfl, hb⟩
 refine ⟨_, rfl, ?_⟩
 replace HO482 := AM_ (Kd.S_below (ST HO482.out) hb)
 replace HO485 := AM_ (Kd.S_below (ST HO485.out) hb)
 replace HO488 := AM_ (Kd.R_below (RT HO488.out) hb)
 replace HO491 := AM_ (Kd.R_below (RT HO491.out) hb)
 replace HO497 := AM_ (Kd.S_below (ST HO497.out) hb)
 replace HO500 := AM_ (Kd.S_below (ST HO500.out) hb)
 replace HO503 := AM_ (Kd.R_below (RT HO503.out) hb)
 replace HO506 := AM_ (Kd.R_below (RT HO506.out) hb)
 replace HO513 := AM_ (Kd.S_below (ST HO513.out) hb)
 replace HO516 := AM_ (Kd.S_below (ST HO516.out) hb)
 replace HO519 := AM_ (Kd.R_below (RT HO519.out) hb)
 replace HO522 := AM_ (Kd.R_below (RT HO522.out) hb)
 replace BK477 := BV BK477 hb
 replace BK508 := BV BK508 hb
 replace HB := BW HB hb
 (try clear hb)
 refine hK.out _ _ ⟨bc BK508.out 0, bc BK508.out 1, bc BK508.out 2, bc BK508.out 3, bc BK508.out 4, bc BK508.out 5, bc BK477.out 0, bc BK477.out 1, bc BK477.out 2, bc BK477.out 3, bc BK477.out 4, bc BK477.out 5⟩ (fun hHeld => ?_)
 clear hK K
 refine NM 25 ?_
 refine pure_ (i := 4) (N := some 26) (v := ?_) (a' := ?_) (bs 31 5) rfl rfl (by kernel_rfl) (fun _ _ _ h => h) (Or.inl ⟨by rfl, ?_⟩) ?_ ?_
 rotate_left
 ·intro w'
  go_simp
  with_reducible rfl
 rotate_left
 ·simp only[pA,pS,pZ,pK,pV]
  rfl
 refine done_ (by kernel_rfl) ?_
 try go_wp2
 go_ret
 exact QT (BT HB.out)

end Go.Proofs.Ytdgknikgfjhohaa.PFnExactIsValidEngine
