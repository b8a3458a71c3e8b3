-- Printed by wip/myprint.py.
import Derived.Test.YtdgknikgfjhohaaPFnExactIsValidEnginex15
import Derived.Test.YtdgknikgfjhohaaPFnExactIsValidEnginex16
namespace Go.Proofs.Ytdgknikgfjhohaa.PFnExactIsValidEngine
open Go.RowKit Go.Proofs.YtdgknikgfjhohaaW.PrintWords Go.Proofs.YtdgknikgfjhohaaW.PrintLast Go.Proofs.YtdgknikgfjhohaaW.PrintMore
set_option maxHeartbeats 8000000
set_option maxRecDepth 100000
set_option linter.unusedVariables false
set_option linter.unusedSimpArgs false

/-! ### impl_IsValidTransaction: function 78 -/
mutual
def impl_IsValidTransaction.j0 : Nat → Bool → Int → Int → Int → Int → Int → Int → Int → List (S116) → List (S103) → Option (Bool)
 | 0, _, _, _, _, _, _, _, _, _, _ => none
 | k + 1, x36, x379000, x379001, x379002, x379003, x379004, x379005, x379006, x379007, x379008 => if x36 = true then (some false) else (if x379002 = 2 then ((impl_IsStamp.f x379006).bind fun t385 => (if t385 = true then (impl_IsValidTransaction.j1 k false x379000 x379001 x379002 x379003 x379004 x379005 x379006 x379007 x379008) else (impl_IsValidTransaction.j1 k true x379000 x379001 x379002 x379003 x379004 x379005 x379006 x379007 x379008))) else (impl_IsValidTransaction.j1 k (x379006 != 0) x379000 x379001 x379002 x379003 x379004 x379005 x379006 x379007 x379008))
def impl_IsValidTransaction.j1 : Nat → Bool → Int → Int → Int → Int → Int → Int → Int → List (S116) → List (S103) → Option (Bool)
 | 0, _, _, _, _, _, _, _, _, _, _ => none
 | k + 1, x55, x379000, x379001, x379002, x379003, x379004, x379005, x379006, x379007, x379008 => if x55 = true then (some false) else ((impl_areReads.f k x379007).bind fun t386 => (if t386 = true then ((impl_areWrites.f k x379008).bind fun t387 => (some t387)) else (some false)))
end
def impl_IsValidTransaction.f (k : Nat) (a0_0 : Int) (a0_1 : Int) (a0_2 : Int) (a0_3 : Int) (a0_4 : Int) (a0_5 : Int) (a0_6 : Int) (l0_7 : List (S116)) (l0_8 : List (S103)) : Option (Bool) := (impl_isID.f a0_0).bind fun t379 => (if t379 = true then ((impl_isScheme.f a0_1).bind fun t380 => (if t380 = true then ((impl_in.f a0_2 1 3).bind fun t381 => (if t381 = true then ((impl_in.f a0_3 0 999).bind fun t382 => (if t382 = true then ((impl_in.f a0_4 0 999).bind fun t383 => (if t383 = true then ((impl_in.f a0_5 1 1000).bind fun t384 => (impl_IsValidTransaction.j0 k (!t384) a0_0 a0_1 a0_2 a0_3 a0_4 a0_5 a0_6 l0_7 l0_8)) else (impl_IsValidTransaction.j0 k true a0_0 a0_1 a0_2 a0_3 a0_4 a0_5 a0_6 l0_7 l0_8))) else (impl_IsValidTransaction.j0 k true a0_0 a0_1 a0_2 a0_3 a0_4 a0_5 a0_6 l0_7 l0_8))) else (impl_IsValidTransaction.j0 k true a0_0 a0_1 a0_2 a0_3 a0_4 a0_5 a0_6 l0_7 l0_8))) else (impl_IsValidTransaction.j0 k true a0_0 a0_1 a0_2 a0_3 a0_4 a0_5 a0_6 l0_7 l0_8))) else (impl_IsValidTransaction.j0 k true a0_0 a0_1 a0_2 a0_3 a0_4 a0_5 a0_6 l0_7 l0_8))
theorem impl_IsValidTransaction.mono_l : ∀ k, (∀ y0 y1 y2 y3 y4 y5 y6 y7 y8 y9, LeO (impl_IsValidTransaction.j0 k y0 y1 y2 y3 y4 y5 y6 y7 y8 y9) (impl_IsValidTransaction.j0 (k + 1) y0 y1 y2 y3 y4 y5 y6 y7 y8 y9)) ∧ (∀ y0 y1 y2 y3 y4 y5 y6 y7 y8 y9, LeO (impl_IsValidTransaction.j1 k y0 y1 y2 y3 y4 y5 y6 y7 y8 y9) (impl_IsValidTransaction.j1 (k + 1) y0 y1 y2 y3 y4 y5 y6 y7 y8 y9))
 | 0 => ⟨fun _ _ _ _ _ _ _ _ _ _ r h => by simp [impl_IsValidTransaction.j0] at h, fun _ _ _ _ _ _ _ _ _ _ r h => by simp [impl_IsValidTransaction.j1] at h⟩
 | k + 1 => by
  obtain ⟨ih0, ih1⟩ := impl_IsValidTransaction.mono_l k
  refine ⟨?_, ?_⟩
  all_goals intros; first | unfold impl_IsValidTransaction.j0 | unfold impl_IsValidTransaction.j1
  all_goals repeat' (with_reducible first | exact ih0 .. | exact ih1 .. | exact impl_areReads.mono .. | exact impl_areWrites.mono .. | exact LeO.refl _ | exact LeO.none _ | refine LeO.ite ?_ ?_ | refine LeO.bind ?_ (fun _ => ?_))
theorem impl_IsValidTransaction.mono : ∀ a0 a1 a2 a3 a4 a5 a6 a7 a8 k, LeO (impl_IsValidTransaction.f k a0 a1 a2 a3 a4 a5 a6 a7 a8) (impl_IsValidTransaction.f (k + 1) a0 a1 a2 a3 a4 a5 a6 a7 a8) := by
 intro a0 a1 a2 a3 a4 a5 a6 a7 a8 k
 obtain ⟨ih0, ih1⟩ := impl_IsValidTransaction.mono_l k
 unfold impl_IsValidTransaction.f
 repeat' (with_reducible first | exact ih0 .. | exact ih1 .. | exact impl_areReads.mono .. | exact impl_areWrites.mono .. | exact LeO.refl _ | exact LeO.none _ | refine LeO.ite ?_ ?_ | refine LeO.bind ?_ (fun _ => ?_))
theorem impl_IsValidTransaction.calls (k : Nat) (a0_0 : Int) (a0_1 : Int) (a0_2 : Int) (a0_3 : Int) (a0_4 : Int) (a0_5 : Int) (a0_6 : Int) (A0_7 : Option Addr) (c0_7 : Nat) (l0_7 : List (S116)) (A0_8 : Option Addr) (c0_8 : Nat) (l0_8 : List (S103)) (r : Bool) (w : World) (hr0_7 : Kd.C k116 w A0_7 l0_7.length l0_7) (hc0_7 : l0_7.length ≤ c0_7) (hr0_8 : Kd.C k103 w A0_8 l0_8.length l0_8) (hc0_8 : l0_8.length ≤ c0_8) (h : impl_IsValidTransaction.f k a0_0 a0_1 a0_2 a0_3 a0_4 a0_5 a0_6 l0_7 l0_8 = some r) :
  Calls Try.prog 78 #[.agg #[.int .i64 a0_0, .int .i64 a0_1, .int .i64 a0_2, .int .i64 a0_3, .int .i64 a0_4, .int .i64 a0_5, .int .i64 a0_6, .slice A0_7 l0_7.length c0_7, .slice A0_8 l0_8.length c0_8]] w fun e w' => e = .returned (.bool r) ∧ Below w.heap.size w w' := by
 have hu48 := Try.underlying48
 have HR0_7 := AM_ hr0_7
 have HC0_7 := AM_ hc0_7
 clear hr0_7 hc0_7
 have HR0_8 := AM_ hr0_8
 have HC0_8 := AM_ hc0_8
 clear hr0_8 hc0_8
 have HB := AM_ (Below.refl w.heap.size w)
 unfold impl_IsValidTransaction.f at h
 have H := h
 clear h
 have HC2 := AM_ H
 clear H
 go_enter Try.func78, Try.ntmps78
 go_upto_region 1 with (first | ((with_reducible refine G2 1 rfl ?_); refine BY 1 #[.int .i64 a0_0, .int .i64 a0_1, .int .i64 a0_2, .int .i64 a0_3, .int .i64 a0_4, .int .i64 a0_5, .int .i64 a0_6, .slice A0_7 l0_7.length c0_7, .slice A0_8 l0_8.length c0_8] 48 HB ?_; clear HB; intro gb378 w3 BK378 GW378 HB))
 (try simp only [pA, pS, pZ, pK])
 go_cut [36] (fun v36 wc => ∃ (kq : Nat) (x36_1 : Bool), v36 = .bool x36_1 ∧ Aside0 (impl_IsValidTransaction.j0 kq x36_1 a0_0 a0_1 a0_2 a0_3 a0_4 a0_5 a0_6 l0_7 l0_8 = some r) ∧ Aside0 (kq ≤ k) ∧ Aside0 (wc.heap[gb378]? = some (.cells #[.int .i64 a0_0, .int .i64 a0_1, .int .i64 a0_2, .int .i64 a0_3, .int .i64 a0_4, .int .i64 a0_5, .int .i64 a0_6, (.slice A0_7 l0_7.length c0_7), (.slice A0_8 l0_8.length c0_8)] 48 (0, 0))) ∧ Aside0 (Below w.heap.size w wc))
 case first =>
  have H := HC2.out
  clear HC2
  obtain ⟨t379, A4, H⟩ := OB H
  by_cases c5 : t379 = true
  rotate_left
  ·replace c5 := Bool.eq_false_iff.mpr c5
   subst c5
   replace H := HF H
   have H' := AM_ H
   clear H
   obtain ⟨hcz20_0, hcz20_1, hcz20_2, hcz20_3, hcz20_4, hcz20_5, hcz20_6, hcz20_7, hcz20_8, hfz20_0, hfz20_1, hfz20_2, hfz20_3, hfz20_4, hfz20_5, hfz20_6, hfz20_7, hfz20_8⟩ := bk9 BK378.out
   go_wp2_with (first | ((with_reducible refine G1 77 rfl ?_); refine GC (some 5) Try.func77 #[.int .i64 a0_0] ?_; (with_reducible refine MQ (impl_isID.calls a0_0 false _ A4.out) ?_); intro nd))
   go_meet
   case rel => exact ⟨_, (true), (by first | rfl | (simp; done) | (simp [*]; done)), H', ⟨by first | omega | exact Nat.le_refl _⟩, ⟨BH BK378.out⟩, ⟨BT HB.out⟩⟩
  subst c5
  replace H := HT H
  obtain ⟨t380, A6, H⟩ := OB H
  by_cases c7 : t380 = true
  rotate_left
  ·replace c7 := Bool.eq_false_iff.mpr c7
   subst c7
   replace H := HF H
   have H' := AM_ H
   clear H
   obtain ⟨hcz19_0, hcz19_1, hcz19_2, hcz19_3, hcz19_4, hcz19_5, hcz19_6, hcz19_7, hcz19_8, hfz19_0, hfz19_1, hfz19_2, hfz19_3, hfz19_4, hfz19_5, hfz19_6, hfz19_7, hfz19_8⟩ := bk9 BK378.out
   go_wp2_with (first | ((with_reducible refine G1 77 rfl ?_); refine GC (some 5) Try.func77 #[.int .i64 a0_0] ?_; (with_reducible refine MQ (impl_isID.calls a0_0 true _ A4.out) ?_); intro nd) | (go_at_call 109; (with_reducible refine (impl_isScheme.calls a0_1 false _ A6.out).mono ?_); rintro e w' ⟨rfl, ⟨nd, rfl⟩⟩))
   go_meet
   case rel => exact ⟨_, (true), (by first | rfl | (simp; done) | (simp [*]; done)), H', ⟨by first | omega | exact Nat.le_refl _⟩, ⟨BH BK378.out⟩, ⟨BT HB.out⟩⟩
  subst c7
  replace H := HT H
  obtain ⟨t381, A8, H⟩ := OB H
  by_cases c9 : t381 = true
  rotate_left
  ·replace c9 := Bool.eq_false_iff.mpr c9
   subst c9
   replace H := HF H
   have H' := AM_ H
   clear H
   obtain ⟨hcz18_0, hcz18_1, hcz18_2, hcz18_3, hcz18_4, hcz18_5, hcz18_6, hcz18_7, hcz18_8, hfz18_0, hfz18_1, hfz18_2, hfz18_3, hfz18_4, hfz18_5, hfz18_6, hfz18_7, hfz18_8⟩ := bk9 BK378.out
   go_wp2_with (first | ((with_reducible refine G1 77 rfl ?_); refine GC (some 5) Try.func77 #[.int .i64 a0_0] ?_; (with_reducible refine MQ (impl_isID.calls a0_0 true _ A4.out) ?_); intro nd) | (go_at_call 109; (with_reducible refine (impl_isScheme.calls a0_1 true _ A6.out).mono ?_); rintro e w' ⟨rfl, ⟨nd, rfl⟩⟩) | (go_at_call 41; (with_reducible refine (impl_in.calls a0_2 1 3 false _ A8.out).mono ?_); rintro e w' ⟨rfl, ⟨nd, rfl⟩⟩))
   go_meet
   case rel => exact ⟨_, (true), (by first | rfl | (simp; done) | (simp [*]; done)), H', ⟨by first | omega | exact Nat.le_refl _⟩, ⟨BH BK378.out⟩, ⟨BT HB.out⟩⟩
  subst c9
  replace H := HT H
  obtain ⟨t382, A10, H⟩ := OB H
  by_cases c11 : t382 = true
  rotate_left
  ·replace c11 := Bool.eq_false_iff.mpr c11
   subst c11
   replace H := HF H
   have H' := AM_ H
   clear H
   obtain ⟨hcz17_0, hcz17_1, hcz17_2, hcz17_3, hcz17_4, hcz17_5, hcz17_6, hcz17_7, hcz17_8, hfz17_0, hfz17_1, hfz17_2, hfz17_3, hfz17_4, hfz17_5, hfz17_6, hfz17_7, hfz17_8⟩ := bk9 BK378.out
   go_wp2_with (first | ((with_reducible refine G1 77 rfl ?_); refine GC (some 5) Try.func77 #[.int .i64 a0_0] ?_; (with_reducible refine MQ (impl_isID.calls a0_0 true _ A4.out) ?_); intro nd) | (go_at_call 109; (with_reducible refine (impl_isScheme.calls a0_1 true _ A6.out).mono ?_); rintro e w' ⟨rfl, ⟨nd, rfl⟩⟩) | (go_at_call 41; (with_reducible refine (impl_in.calls a0_2 1 3 true _ A8.out).mono ?_); rintro e w' ⟨rfl, ⟨nd, rfl⟩⟩) | (go_at_call 41; (with_reducible refine (impl_in.calls a0_3 0 999 false _ A10.out).mono ?_); rintro e w' ⟨rfl, ⟨nd, rfl⟩⟩))
   go_meet
   case rel => exact ⟨_, (true), (by first | rfl | (simp; done) | (simp [*]; done)), H', ⟨by first | omega | exact Nat.le_refl _⟩, ⟨BH BK378.out⟩, ⟨BT HB.out⟩⟩
  subst c11
  replace H := HT H
  obtain ⟨t383, A12, H⟩ := OB H
  by_cases c13 : t383 = true
  rotate_left
  ·replace c13 := Bool.eq_false_iff.mpr c13
   subst c13
   replace H := HF H
   have H' := AM_ H
   clear H
   obtain ⟨hcz16_0, hcz16_1, hcz16_2, hcz16_3, hcz16_4, hcz16_5, hcz16_6, hcz16_7, hcz16_8, hfz16_0, hfz16_1, hfz16_2, hfz16_3, hfz16_4, hfz16_5, hfz16_6, hfz16_7, hfz16_8⟩ := bk9 BK378.out
   go_wp2_with (first | ((with_reducible refine G1 77 rfl ?_); refine GC (some 5) Try.func77 #[.int .i64 a0_0] ?_; (with_reducible refine MQ (impl_isID.calls a0_0 true _ A4.out) ?_); intro nd) | (go_at_call 109; (with_reducible refine (impl_isScheme.calls a0_1 true _ A6.out).mono ?_); rintro e w' ⟨rfl, ⟨nd, rfl⟩⟩) | (go_at_call 41; (with_reducible refine (impl_in.calls a0_2 1 3 true _ A8.out).mono ?_); rintro e w' ⟨rfl, ⟨nd, rfl⟩⟩) | (go_at_call 41; (with_reducible refine (impl_in.calls a0_3 0 999 true _ A10.out).mono ?_); rintro e w' ⟨rfl, ⟨nd, rfl⟩⟩) | (go_at_call 41; (with_reducible refine (impl_in.calls a0_4 0 999 false _ A12.out).mono ?_); rintro e w' ⟨rfl, ⟨nd, rfl⟩⟩))
   go_meet
   case rel => exact ⟨_, (true), (by first | rfl | (simp; done) | (simp [*]; done)), H', ⟨by first | omega | exact Nat.le_refl _⟩, ⟨BH BK378.out⟩, ⟨BT HB.out⟩⟩
  subst c13
  replace H := HT H
  obtain ⟨t384, A14, H⟩ := OB H
  have H' := AM_ H
  clear H
  obtain ⟨hcz15_0, hcz15_1, hcz15_2, hcz15_3, hcz15_4, hcz15_5, hcz15_6, hcz15_7, hcz15_8, hfz15_0, hfz15_1, hfz15_2, hfz15_3, hfz15_4, hfz15_5, hfz15_6, hfz15_7, hfz15_8⟩ := bk9 BK378.out
  go_wp2_with (first | ((with_reducible refine G1 77 rfl ?_); refine GC (some 5) Try.func77 #[.int .i64 a0_0] ?_; (with_reducible refine MQ (impl_isID.calls a0_0 true _ A4.out) ?_); intro nd) | (go_at_call 109; (with_reducible refine (impl_isScheme.calls a0_1 true _ A6.out).mono ?_); rintro e w' ⟨rfl, ⟨nd, rfl⟩⟩) | (go_at_call 41; (with_reducible refine (impl_in.calls a0_2 1 3 true _ A8.out).mono ?_); rintro e w' ⟨rfl, ⟨nd, rfl⟩⟩) | (go_at_call 41; (with_reducible refine (impl_in.calls a0_3 0 999 true _ A10.out).mono ?_); rintro e w' ⟨rfl, ⟨nd, rfl⟩⟩) | (go_at_call 41; (with_reducible refine (impl_in.calls a0_4 0 999 true _ A12.out).mono ?_); rintro e w' ⟨rfl, ⟨nd, rfl⟩⟩) | (go_at_call 41; (with_reducible refine (impl_in.calls a0_5 1 1000 t384 _ A14.out).mono ?_); rintro e w' ⟨rfl, ⟨nd, rfl⟩⟩))
  go_meet
  case rel => exact ⟨_, (!t384), (by first | rfl | (simp; done) | (simp [*]; done)), H', ⟨by first | omega | exact Nat.le_refl _⟩, ⟨BH BK378.out⟩, ⟨BT HB.out⟩⟩
 case rest =>
  clear HC2
  try clear c5
  try clear c7
  try clear c9
  try clear c11
  try clear c13
  try clear hcz15_0
  try clear hcz15_1
  try clear hcz15_2
  try clear hcz15_3
  try clear hcz15_4
  try clear hcz15_5
  try clear hcz15_6
  try clear hcz15_7
  try clear hcz15_8
  try clear hcz16_0
  try clear hcz16_1
  try clear hcz16_2
  try clear hcz16_3
  try clear hcz16_4
  try clear hcz16_5
  try clear hcz16_6
  try clear hcz16_7
  try clear hcz16_8
  try clear hcz17_0
  try clear hcz17_1
  try clear hcz17_2
  try clear hcz17_3
  try clear hcz17_4
  try clear hcz17_5
  try clear hcz17_6
  try clear hcz17_7
  try clear hcz17_8
  try clear hcz18_0
  try clear hcz18_1
  try clear hcz18_2
  try clear hcz18_3
  try clear hcz18_4
  try clear hcz18_5
  try clear hcz18_6
  try clear hcz18_7
  try clear hcz18_8
  try clear hcz19_0
  try clear hcz19_1
  try clear hcz19_2
  try clear hcz19_3
  try clear hcz19_4
  try clear hcz19_5
  try clear hcz19_6
  try clear hcz19_7
  try clear hcz19_8
  try clear hcz20_0
  try clear hcz20_1
  try clear hcz20_2
  try clear hcz20_3
  try clear hcz20_4
  try clear hcz20_5
  try clear hcz20_6
  try clear hcz20_7
  try clear hcz20_8
  try clear hfz15_0
  try clear hfz15_1
  try clear hfz15_2
  try clear hfz15_3
  try clear hfz15_4
  try clear hfz15_5
  try clear hfz15_6
  try clear hfz15_7
  try clear hfz15_8
  try clear hfz16_0
  try clear hfz16_1
  try clear hfz16_2
  try clear hfz16_3
  try clear hfz16_4
  try clear hfz16_5
  try clear hfz16_6
  try clear hfz16_7
  try clear hfz16_8
  try clear hfz17_0
  try clear hfz17_1
  try clear hfz17_2
  try clear hfz17_3
  try clear hfz17_4
  try clear hfz17_5
  try clear hfz17_6
  try clear hfz17_7
  try clear hfz17_8
  try clear hfz18_0
  try clear hfz18_1
  try clear hfz18_2
  try clear hfz18_3
  try clear hfz18_4
  try clear hfz18_5
  try clear hfz18_6
  try clear hfz18_7
  try clear hfz18_8
  try clear hfz19_0
  try clear hfz19_1
  try clear hfz19_2
  try clear hfz19_3
  try clear hfz19_4
  try clear hfz19_5
  try clear hfz19_6
  try clear hfz19_7
  try clear hfz19_8
  try clear hfz20_0
  try clear hfz20_1
  try clear hfz20_2
  try clear hfz20_3
  try clear hfz20_4
  try clear hfz20_5
  try clear hfz20_6
  try clear hfz20_7
  try clear hfz20_8
  obtain ⟨kq, x36_1, rfl, HA, HJ1, BK378, HB⟩ := hcut
  cases kq with
  | zero => exact absurd HA.out (by simp [impl_IsValidTransaction.j0])
  | succ kj1 =>
   have H := HA.out
   clear HA
   simp only [impl_IsValidTransaction.j0] at H
   by_cases c21 : x36_1 = true
   ·subst c21
    replace H := HT H
    obtain rfl := Option.some.inj H
    go_wp2
    go_ret
    exact QT (BT HB.out)
   replace c21 := Bool.eq_false_iff.mpr c21
   subst c21
   replace H := HF H
   have HC22 := AM_ H
   clear H
   go_upto_region 3 with (fail)
   go_cut [55] (fun v55 wc => ∃ (kq : Nat) (x55_21 : Bool), v55 = .bool x55_21 ∧ Aside0 (impl_IsValidTransaction.j1 kq x55_21 a0_0 a0_1 a0_2 a0_3 a0_4 a0_5 a0_6 l0_7 l0_8 = some r) ∧ Aside0 (kq ≤ kj1) ∧ Aside0 (wc.heap[gb378]? = some (.cells #[.int .i64 a0_0, .int .i64 a0_1, .int .i64 a0_2, .int .i64 a0_3, .int .i64 a0_4, .int .i64 a0_5, .int .i64 a0_6, (.slice A0_7 l0_7.length c0_7), (.slice A0_8 l0_8.length c0_8)] 48 (0, 0))) ∧ Aside0 (Below w.heap.size w wc))
   case first =>
    have H := HC22.out
    clear HC22
    by_cases c23 : a0_2 = 2
    rotate_left
    ·rw [if_neg c23] at H
     have c23b0 : (a0_2 == 2) = false := beq_eq_false_iff_ne.mpr c23
     have c23b1 : (a0_2 != 2) = true := bne_iff_ne.mpr c23
     (first | rw [c23b0] | (simp only [i64_w, i32_w]; rw [c23b0]) | skip)
     have H' := AM_ H
     clear H
     obtain ⟨hcz28_0, hcz28_1, hcz28_2, hcz28_3, hcz28_4, hcz28_5, hcz28_6, hcz28_7, hcz28_8, hfz28_0, hfz28_1, hfz28_2, hfz28_3, hfz28_4, hfz28_5, hfz28_6, hfz28_7, hfz28_8⟩ := bk9 BK378.out
     go_wp2
     go_meet
     case rel => exact ⟨_, ((a0_6 != 0)), (by first | rfl | (simp; done) | (simp [*]; done)), H', ⟨by have := HJ1.out; first | omega | exact Nat.le_refl _⟩, ⟨BH BK378.out⟩, ⟨BT HB.out⟩⟩
    rw [if_pos c23] at H
    have c23b0 : (a0_2 == 2) = true := beq_iff_eq.mpr c23
    have c23b1 : (a0_2 != 2) = false := bne_eq_false_iff_eq.mpr c23
    clear c23
    (first | rw [c23b0] | (simp only [i64_w, i32_w]; rw [c23b0]) | skip)
    obtain ⟨t385, A24, H⟩ := OB H
    by_cases c25 : t385 = true
    ·subst c25
     replace H := HT H
     have H' := AM_ H
     clear H
     obtain ⟨hcz26_0, hcz26_1, hcz26_2, hcz26_3, hcz26_4, hcz26_5, hcz26_6, hcz26_7, hcz26_8, hfz26_0, hfz26_1, hfz26_2, hfz26_3, hfz26_4, hfz26_5, hfz26_6, hfz26_7, hfz26_8⟩ := bk9 BK378.out
     go_wp2_with (first | (go_at_call 110; (with_reducible refine (impl_IsStamp.calls a0_6 true _ A24.out).mono ?_); rintro e w' ⟨rfl, ⟨nd, rfl⟩⟩))
     go_meet
     case rel => exact ⟨_, (false), (by first | rfl | (simp; done) | (simp [*]; done)), H', ⟨by have := HJ1.out; first | omega | exact Nat.le_refl _⟩, ⟨BH BK378.out⟩, ⟨BT HB.out⟩⟩
    replace c25 := Bool.eq_false_iff.mpr c25
    subst c25
    replace H := HF H
    have H' := AM_ H
    clear H
    obtain ⟨hcz27_0, hcz27_1, hcz27_2, hcz27_3, hcz27_4, hcz27_5, hcz27_6, hcz27_7, hcz27_8, hfz27_0, hfz27_1, hfz27_2, hfz27_3, hfz27_4, hfz27_5, hfz27_6, hfz27_7, hfz27_8⟩ := bk9 BK378.out
    go_wp2_with (first | (go_at_call 110; (with_reducible refine (impl_IsStamp.calls a0_6 false _ A24.out).mono ?_); rintro e w' ⟨rfl, ⟨nd, rfl⟩⟩))
    go_meet
    case rel => exact ⟨_, (true), (by first | rfl | (simp; done) | (simp [*]; done)), H', ⟨by have := HJ1.out; first | omega | exact Nat.le_refl _⟩, ⟨BH BK378.out⟩, ⟨BT HB.out⟩⟩
   case rest =>
    clear HC22
    try clear c5
    try clear c7
    try clear c9
    try clear c11
    try clear c13
    try clear c21
    try clear c23
    try clear c23b0
    try clear c23b1
    try clear c25
    try clear hcz15_0
    try clear hcz15_1
    try clear hcz15_2
    try clear hcz15_3
    try clear hcz15_4
    try clear hcz15_5
    try clear hcz15_6
    try clear hcz15_7
    try clear hcz15_8
    try clear hcz16_0
    try clear hcz16_1
    try clear hcz16_2
    try clear hcz16_3
    try clear hcz16_4
    try clear hcz16_5
    try clear hcz16_6
    try clear hcz16_7
    try clear hcz16_8
    try clear hcz17_0
    try clear hcz17_1
    try clear hcz17_2
    try clear hcz17_3
    try clear hcz17_4
    try clear hcz17_5
    try clear hcz17_6
    try clear hcz17_7
    try clear hcz17_8
    try clear hcz18_0
    try clear hcz18_1
    try clear hcz18_2
    try clear hcz18_3
    try clear hcz18_4
    try clear hcz18_5
    try clear hcz18_6
    try clear hcz18_7
    try clear hcz18_8
    try clear hcz19_0
    try clear hcz19_1
    try clear hcz19_2
    try clear hcz19_3
    try clear hcz19_4
    try clear hcz19_5
    try clear hcz19_6
    try clear hcz19_7
    try clear hcz19_8
    try clear hcz20_0
    try clear hcz20_1
    try clear hcz20_2
    try clear hcz20_3
    try clear hcz20_4
    try clear hcz20_5
    try clear hcz20_6
    try clear hcz20_7
    try clear hcz20_8
    try clear hcz26_0
    try clear hcz26_1
    try clear hcz26_2
    try clear hcz26_3
    try clear hcz26_4
    try clear hcz26_5
    try clear hcz26_6
    try clear hcz26_7
    try clear hcz26_8
    try clear hcz27_0
    try clear hcz27_1
    try clear hcz27_2
    try clear hcz27_3
    try clear hcz27_4
    try clear hcz27_5
    try clear hcz27_6
    try clear hcz27_7
    try clear hcz27_8
    try clear hcz28_0
    try clear hcz28_1
    try clear hcz28_2
    try clear hcz28_3
    try clear hcz28_4
    try clear hcz28_5
    try clear hcz28_6
    try clear hcz28_7
    try clear hcz28_8
    try clear hfz15_0
    try clear hfz15_1
    try clear hfz15_2
    try clear hfz15_3
    try clear hfz15_4
    try clear hfz15_5
    try clear hfz15_6
    try clear hfz15_7
    try clear hfz15_8
    try clear hfz16_0
    try clear hfz16_1
    try clear hfz16_2
    try clear hfz16_3
    try clear hfz16_4
    try clear hfz16_5
    try clear hfz16_6
    try clear hfz16_7
    try clear hfz16_8
    try clear hfz17_0
    try clear hfz17_1
    try clear hfz17_2
    try clear hfz17_3
    try clear hfz17_4
    try clear hfz17_5
    try clear hfz17_6
    try clear hfz17_7
    try clear hfz17_8
    try clear hfz18_0
    try clear hfz18_1
    try clear hfz18_2
    try clear hfz18_3
    try clear hfz18_4
    try clear hfz18_5
    try clear hfz18_6
    try clear hfz18_7
    try clear hfz18_8
    try clear hfz19_0
    try clear hfz19_1
    try clear hfz19_2
    try clear hfz19_3
    try clear hfz19_4
    try clear hfz19_5
    try clear hfz19_6
    try clear hfz19_7
    try clear hfz19_8
    try clear hfz20_0
    try clear hfz20_1
    try clear hfz20_2
    try clear hfz20_3
    try clear hfz20_4
    try clear hfz20_5
    try clear hfz20_6
    try clear hfz20_7
    try clear hfz20_8
    try clear hfz26_0
    try clear hfz26_1
    try clear hfz26_2
    try clear hfz26_3
    try clear hfz26_4
    try clear hfz26_5
    try clear hfz26_6
    try clear hfz26_7
    try clear hfz26_8
    try clear hfz27_0
    try clear hfz27_1
    try clear hfz27_2
    try clear hfz27_3
    try clear hfz27_4
    try clear hfz27_5
    try clear hfz27_6
    try clear hfz27_7
    try clear hfz27_8
    try clear hfz28_0
    try clear hfz28_1
    try clear hfz28_2
    try clear hfz28_3
    try clear hfz28_4
    try clear hfz28_5
    try clear hfz28_6
    try clear hfz28_7
    try clear hfz28_8
    obtain ⟨kq, x55_21, rfl, HA, HJ21, BK378, HB⟩ := hcut
    cases kq with
    | zero => exact absurd HA.out (by simp [impl_IsValidTransaction.j1])
    | succ kj21 =>
     have H := HA.out
     clear HA
     simp only [impl_IsValidTransaction.j1] at H
     by_cases c29 : x55_21 = true
     ·subst c29
      replace H := HT H
      obtain rfl := Option.some.inj H
      go_wp2
      go_ret
      exact QT (BT HB.out)
     replace c29 := Bool.eq_false_iff.mpr c29
     subst c29
     replace H := HF H
     obtain ⟨t386, A30, H⟩ := OB H
     by_cases c31 : t386 = true
     rotate_left
     ·replace c31 := Bool.eq_false_iff.mpr c31
      subst c31
      replace H := HF H
      obtain rfl := Option.some.inj H
      obtain ⟨hcz37_0, hcz37_1, hcz37_2, hcz37_3, hcz37_4, hcz37_5, hcz37_6, hcz37_7, hcz37_8, hfz37_0, hfz37_1, hfz37_2, hfz37_3, hfz37_4, hfz37_5, hfz37_6, hfz37_7, hfz37_8⟩ := bk9 BK378.out
      go_wp2_with (first | ((with_reducible refine G1 111 rfl ?_); refine GC (some 58) Try.func111 #[.slice A0_7 l0_7.length c0_7] ?_; (with_reducible refine MB (impl_areReads.calls kj21 _ _ l0_7 false _ (CC HR0_7 HB) HC0_7.out A30.out) ?_); intro w38 hb; replace BK378 := BV BK378 hb; replace HB := BW HB hb; (try clear hb)))
      go_ret
      exact QT (BT HB.out)
     subst c31
     replace H := HT H
     obtain ⟨t387, A32, H⟩ := OB H
     obtain rfl := Option.some.inj H
     obtain ⟨hcz33_0, hcz33_1, hcz33_2, hcz33_3, hcz33_4, hcz33_5, hcz33_6, hcz33_7, hcz33_8, hfz33_0, hfz33_1, hfz33_2, hfz33_3, hfz33_4, hfz33_5, hfz33_6, hfz33_7, hfz33_8⟩ := bk9 BK378.out
     go_wp2_with (first | ((with_reducible refine G1 111 rfl ?_); refine GC (some 58) Try.func111 #[.slice A0_7 l0_7.length c0_7] ?_; (with_reducible refine MB (impl_areReads.calls kj21 _ _ l0_7 true _ (CC HR0_7 HB) HC0_7.out A30.out) ?_); intro w34 hb; replace BK378 := BV BK378 hb; replace HB := BW HB hb; (try clear hb); obtain ⟨hcz35_0, hcz35_1, hcz35_2, hcz35_3, hcz35_4, hcz35_5, hcz35_6, hcz35_7, hcz35_8, hfz35_0, hfz35_1, hfz35_2, hfz35_3, hfz35_4, hfz35_5, hfz35_6, hfz35_7, hfz35_8⟩ := bk9 BK378.out) | (go_at_call 112; (with_reducible refine (impl_areWrites.calls kj21 _ _ l0_8 t387 _ ?side1 ?side2 A32.out).mono ?_); (case side1 => exact CB HR0_8.out HB.out); (case side2 => exact HC0_8.out); rintro e w36 ⟨rfl, hb⟩; replace BK378 := BV BK378 hb; replace HB := BW HB hb; (try clear hb)))
     go_ret
     exact QT (BT HB.out)

/-! ### impl_FindVersion_1: function 141 -/
def impl_FindVersion_1.f (a0_0 : Int) (a0_1 : Int) (a0_2 : Int) (a0_3 : Int) (a0_4 : Int) (a1_0 : Int) : Option (Bool) := some (a0_2 == a1_0)
theorem impl_FindVersion_1.calls (a0_0 : Int) (a0_1 : Int) (a0_2 : Int) (a0_3 : Int) (a0_4 : Int) (gb1 : Nat) (a1_0 : Int) (r : Bool) (w : World) (hb1 : w.heap[gb1]? = some (.cells #[.int .i64 a1_0] 3 (0, 0))) (h : impl_FindVersion_1.f a0_0 a0_1 a0_2 a0_3 a0_4 a1_0 = some r) :
  Calls Try.prog 141 #[.agg #[.int .i64 a0_0, .int .i64 a0_1, .int .i64 a0_2, .int .i64 a0_3, .int .i64 a0_4], .pointer (some ⟨gb1, 0, none⟩)] w fun e w' => e = .returned (.bool r) ∧ Below w.heap.size w w' := by
 have hu52 := Try.underlying52
 have BK1 := AM_ hb1
 clear hb1
 have HB := AM_ (Below.refl w.heap.size w)
 unfold impl_FindVersion_1.f at h
 have H := h
 clear h
 obtain rfl := Option.some.inj H
 go_enter Try.func141, Try.ntmps141
 go_wp2_with (first | ((with_reducible refine G2 2 rfl ?_); refine BZ 2 #[.int .i64 a0_0, .int .i64 a0_1, .int .i64 a0_2, .int .i64 a0_3, .int .i64 a0_4] 52 HB ?_; clear HB; intro gb388 w3 hg hb BK388 GW388 HB; have NB1_388 := NP BK1 hg; have NB388_1 := NQ BK1 hg; replace BK1 := BV BK1 hb; clear hb hg; have hnb4 := NB388_1.out; have hnc4 := NB1_388.out; obtain ⟨hcz5_0, hcz5_1, hcz5_2, hcz5_3, hcz5_4, hfz5_0, hfz5_1, hfz5_2, hfz5_3, hfz5_4⟩ := bk5 BK388.out; obtain ⟨hcz6_0, hfz6_0⟩ := bk1 BK1.out))
 go_ret
 exact QT (BT HB.out)

end Go.Proofs.Ytdgknikgfjhohaa.PFnExactIsValidEngine
