-- Printed by wip/myprint.py.
import Derived.Test.YtdgknikgfjhohaaPFnExactIsValidEnginex1
namespace Go.Proofs.Ytdgknikgfjhohaa.PFnExactIsValidEngine
open Go.RowKit Go.Proofs.YtdgknikgfjhohaaW.PrintWords Go.Proofs.YtdgknikgfjhohaaW.PrintLast Go.Proofs.YtdgknikgfjhohaaW.PrintMore
set_option maxHeartbeats 8000000
set_option maxRecDepth 100000
set_option linter.unusedVariables false
set_option linter.unusedSimpArgs false

/-! ### spec_IsValidVersion: function 100 -/
def spec_IsValidVersion.j0 : Nat → Bool → Int → Int → Int → Int → Int → Option (Bool)
 | 0, _, _, _, _, _, _ => none
 | k + 1, x26, x116000, x116001, x116002, x116003, x116004 => if x26 = true then (some false) else (if x116002 = 0 then (if x116000 = 0 then (some (x116001 == (-1))) else (some false)) else ((spec_l1In.f x116000 1 9).bind fun t120 => (some t120)))
def spec_IsValidVersion.f (k : Nat) (a0_0 : Int) (a0_1 : Int) (a0_2 : Int) (a0_3 : Int) (a0_4 : Int) : Option (Bool) := (spec_l1In.f a0_1 (-1) 99).bind fun t116 => (if t116 = true then ((spec_l1In.f a0_2 0 999).bind fun t117 => (if t117 = true then ((spec_l1In.f a0_3 a0_2 999).bind fun t118 => (if t118 = true then ((spec_l1In.f a0_4 1 1000).bind fun t119 => (spec_IsValidVersion.j0 k (!t119) a0_0 a0_1 a0_2 a0_3 a0_4)) else (spec_IsValidVersion.j0 k true a0_0 a0_1 a0_2 a0_3 a0_4))) else (spec_IsValidVersion.j0 k true a0_0 a0_1 a0_2 a0_3 a0_4))) else (spec_IsValidVersion.j0 k true a0_0 a0_1 a0_2 a0_3 a0_4))
theorem spec_IsValidVersion.mono_l : ∀ k, (∀ y0 y1 y2 y3 y4 y5, LeO (spec_IsValidVersion.j0 k y0 y1 y2 y3 y4 y5) (spec_IsValidVersion.j0 (k + 1) y0 y1 y2 y3 y4 y5))
 | 0 => fun _ _ _ _ _ _ r h => by simp [spec_IsValidVersion.j0] at h
 | k + 1 => by
  have ih0 := spec_IsValidVersion.mono_l k
  all_goals intros; unfold spec_IsValidVersion.j0
  all_goals repeat' (with_reducible first | exact ih0 .. | exact LeO.refl _ | exact LeO.none _ | refine LeO.ite ?_ ?_ | refine LeO.bind ?_ (fun _ => ?_))
theorem spec_IsValidVersion.mono : ∀ a0 a1 a2 a3 a4 k, LeO (spec_IsValidVersion.f k a0 a1 a2 a3 a4) (spec_IsValidVersion.f (k + 1) a0 a1 a2 a3 a4) := by
 intro a0 a1 a2 a3 a4 k
 have ih0 := spec_IsValidVersion.mono_l k
 unfold spec_IsValidVersion.f
 repeat' (with_reducible first | exact ih0 .. | exact LeO.refl _ | exact LeO.none _ | refine LeO.ite ?_ ?_ | refine LeO.bind ?_ (fun _ => ?_))
theorem spec_IsValidVersion.calls (k : Nat) (a0_0 : Int) (a0_1 : Int) (a0_2 : Int) (a0_3 : Int) (a0_4 : Int) (r : Bool) (w : World) (h : spec_IsValidVersion.f k a0_0 a0_1 a0_2 a0_3 a0_4 = some r) :
  Calls Try.prog 100 #[.agg #[.int .i64 a0_0, .int .i64 a0_1, .int .i64 a0_2, .int .i64 a0_3, .int .i64 a0_4]] w fun e w' => e = .returned (.bool r) ∧ Below w.heap.size w w' := by
 have hu52 := Try.underlying52
 have HB := AM_ (Below.refl w.heap.size w)
 unfold spec_IsValidVersion.f at h
 have H := h
 clear h
 have HC2 := AM_ H
 clear H
 go_enter Try.func100, Try.ntmps100
 go_upto_region 1 with (first | ((with_reducible refine G2 1 rfl ?_); refine BY 1 #[.int .i64 a0_0, .int .i64 a0_1, .int .i64 a0_2, .int .i64 a0_3, .int .i64 a0_4] 52 HB ?_; clear HB; intro gb115 w3 BK115 GW115 HB))
 (try simp only [pA, pS, pZ, pK])
 go_cut [26] (fun v26 wc => ∃ (kq : Nat) (x26_1 : Bool), v26 = .bool x26_1 ∧ Aside0 (spec_IsValidVersion.j0 kq x26_1 a0_0 a0_1 a0_2 a0_3 a0_4 = some r) ∧ Aside0 (kq ≤ k) ∧ Aside0 (wc.heap[gb115]? = some (.cells #[.int .i64 a0_0, .int .i64 a0_1, .int .i64 a0_2, .int .i64 a0_3, .int .i64 a0_4] 52 (0, 0))) ∧ Aside0 (Below w.heap.size w wc))
 case first =>
  have H := HC2.out
  clear HC2
  obtain ⟨t116, A4, H⟩ := OB H
  by_cases c5 : t116 = true
  rotate_left
  ·replace c5 := Bool.eq_false_iff.mpr c5
   subst c5
   replace H := HF H
   have H' := AM_ H
   clear H
   obtain ⟨hcz14_0, hcz14_1, hcz14_2, hcz14_3, hcz14_4, hfz14_0, hfz14_1, hfz14_2, hfz14_3, hfz14_4⟩ := bk5 BK115.out
   go_wp2_with (first | ((with_reducible refine G1 29 rfl ?_); refine GC (some 5) Try.func29 #[.int .i64 a0_1, .int .i64 (-1), .int .i64 99] ?_; (with_reducible refine MQ (spec_l1In.calls a0_1 (-1) 99 false _ A4.out) ?_); intro nd))
   go_meet
   case rel => exact ⟨_, (true), (by first | rfl | (simp; done) | (simp [*]; done)), H', ⟨by first | omega | exact Nat.le_refl _⟩, ⟨BH BK115.out⟩, ⟨BT HB.out⟩⟩
  subst c5
  replace H := HT H
  obtain ⟨t117, A6, H⟩ := OB H
  by_cases c7 : t117 = true
  rotate_left
  ·replace c7 := Bool.eq_false_iff.mpr c7
   subst c7
   replace H := HF H
   have H' := AM_ H
   clear H
   obtain ⟨hcz13_0, hcz13_1, hcz13_2, hcz13_3, hcz13_4, hfz13_0, hfz13_1, hfz13_2, hfz13_3, hfz13_4⟩ := bk5 BK115.out
   go_wp2_with (first | ((with_reducible refine G1 29 rfl ?_); refine GC (some 5) Try.func29 #[.int .i64 a0_1, .int .i64 (-1), .int .i64 99] ?_; (with_reducible refine MQ (spec_l1In.calls a0_1 (-1) 99 true _ A4.out) ?_); intro nd) | (go_at_call 29; (with_reducible refine (spec_l1In.calls a0_2 0 999 false _ A6.out).mono ?_); rintro e w' ⟨rfl, ⟨nd, rfl⟩⟩))
   go_meet
   case rel => exact ⟨_, (true), (by first | rfl | (simp; done) | (simp [*]; done)), H', ⟨by first | omega | exact Nat.le_refl _⟩, ⟨BH BK115.out⟩, ⟨BT HB.out⟩⟩
  subst c7
  replace H := HT H
  obtain ⟨t118, A8, H⟩ := OB H
  by_cases c9 : t118 = true
  rotate_left
  ·replace c9 := Bool.eq_false_iff.mpr c9
   subst c9
   replace H := HF H
   have H' := AM_ H
   clear H
   obtain ⟨hcz12_0, hcz12_1, hcz12_2, hcz12_3, hcz12_4, hfz12_0, hfz12_1, hfz12_2, hfz12_3, hfz12_4⟩ := bk5 BK115.out
   go_wp2_with (first | ((with_reducible refine G1 29 rfl ?_); refine GC (some 5) Try.func29 #[.int .i64 a0_1, .int .i64 (-1), .int .i64 99] ?_; (with_reducible refine MQ (spec_l1In.calls a0_1 (-1) 99 true _ A4.out) ?_); intro nd) | (go_at_call 29; (with_reducible refine (spec_l1In.calls a0_2 0 999 true _ A6.out).mono ?_); rintro e w' ⟨rfl, ⟨nd, rfl⟩⟩) | (go_at_call 29; (with_reducible refine (spec_l1In.calls a0_3 a0_2 999 false _ A8.out).mono ?_); rintro e w' ⟨rfl, ⟨nd, rfl⟩⟩))
   go_meet
   case rel => exact ⟨_, (true), (by first | rfl | (simp; done) | (simp [*]; done)), H', ⟨by first | omega | exact Nat.le_refl _⟩, ⟨BH BK115.out⟩, ⟨BT HB.out⟩⟩
  subst c9
  replace H := HT H
  obtain ⟨t119, A10, H⟩ := OB H
  have H' := AM_ H
  clear H
  obtain ⟨hcz11_0, hcz11_1, hcz11_2, hcz11_3, hcz11_4, hfz11_0, hfz11_1, hfz11_2, hfz11_3, hfz11_4⟩ := bk5 BK115.out
  go_wp2_with (first | ((with_reducible refine G1 29 rfl ?_); refine GC (some 5) Try.func29 #[.int .i64 a0_1, .int .i64 (-1), .int .i64 99] ?_; (with_reducible refine MQ (spec_l1In.calls a0_1 (-1) 99 true _ A4.out) ?_); intro nd) | (go_at_call 29; (with_reducible refine (spec_l1In.calls a0_2 0 999 true _ A6.out).mono ?_); rintro e w' ⟨rfl, ⟨nd, rfl⟩⟩) | (go_at_call 29; (with_reducible refine (spec_l1In.calls a0_3 a0_2 999 true _ A8.out).mono ?_); rintro e w' ⟨rfl, ⟨nd, rfl⟩⟩) | (go_at_call 29; (with_reducible refine (spec_l1In.calls a0_4 1 1000 t119 _ A10.out).mono ?_); rintro e w' ⟨rfl, ⟨nd, rfl⟩⟩))
  go_meet
  case rel => exact ⟨_, (!t119), (by first | rfl | (simp; done) | (simp [*]; done)), H', ⟨by first | omega | exact Nat.le_refl _⟩, ⟨BH BK115.out⟩, ⟨BT HB.out⟩⟩
 case rest =>
  clear HC2
  try clear c5
  try clear c7
  try clear c9
  try clear hcz11_0
  try clear hcz11_1
  try clear hcz11_2
  try clear hcz11_3
  try clear hcz11_4
  try clear hcz12_0
  try clear hcz12_1
  try clear hcz12_2
  try clear hcz12_3
  try clear hcz12_4
  try clear hcz13_0
  try clear hcz13_1
  try clear hcz13_2
  try clear hcz13_3
  try clear hcz13_4
  try clear hcz14_0
  try clear hcz14_1
  try clear hcz14_2
  try clear hcz14_3
  try clear hcz14_4
  try clear hfz11_0
  try clear hfz11_1
  try clear hfz11_2
  try clear hfz11_3
  try clear hfz11_4
  try clear hfz12_0
  try clear hfz12_1
  try clear hfz12_2
  try clear hfz12_3
  try clear hfz12_4
  try clear hfz13_0
  try clear hfz13_1
  try clear hfz13_2
  try clear hfz13_3
  try clear hfz13_4
  try clear hfz14_0
  try clear hfz14_1
  try clear hfz14_2
  try clear hfz14_3
  try clear hfz14_4
  obtain ⟨kq, x26_1, rfl, HA, HJ1, BK115, HB⟩ := hcut
  cases kq with
  | zero => exact absurd HA.out (by simp [spec_IsValidVersion.j0])
  | succ kj1 =>
   have H := HA.out
   clear HA
   simp only [spec_IsValidVersion.j0] at H
   by_cases c15 : x26_1 = true
   ·subst c15
    replace H := HT H
    obtain rfl := Option.some.inj H
    go_wp2
    go_ret
    exact QT (BT HB.out)
   replace c15 := Bool.eq_false_iff.mpr c15
   subst c15
   replace H := HF H
   by_cases c16 : a0_2 = 0
   ·rw [if_pos c16] at H
    have c16b0 : (a0_2 == 0) = true := beq_iff_eq.mpr c16
    have c16b1 : (a0_2 != 0) = false := bne_eq_false_iff_eq.mpr c16
    clear c16
    by_cases c17 : a0_0 = 0
    rotate_left
    ·rw [if_neg c17] at H
     have c17b0 : (a0_0 == 0) = false := beq_eq_false_iff_ne.mpr c17
     have c17b1 : (a0_0 != 0) = true := bne_iff_ne.mpr c17
     obtain rfl := Option.some.inj H
     obtain ⟨hcz19_0, hcz19_1, hcz19_2, hcz19_3, hcz19_4, hfz19_0, hfz19_1, hfz19_2, hfz19_3, hfz19_4⟩ := bk5 BK115.out
     go_wp2
     go_ret
     exact QT (BT HB.out)
    rw [if_pos c17] at H
    have c17b0 : (a0_0 == 0) = true := beq_iff_eq.mpr c17
    have c17b1 : (a0_0 != 0) = false := bne_eq_false_iff_eq.mpr c17
    clear c17
    obtain rfl := Option.some.inj H
    obtain ⟨hcz18_0, hcz18_1, hcz18_2, hcz18_3, hcz18_4, hfz18_0, hfz18_1, hfz18_2, hfz18_3, hfz18_4⟩ := bk5 BK115.out
    go_wp2
    go_ret
    exact QT (BT HB.out)
   rw [if_neg c16] at H
   have c16b0 : (a0_2 == 0) = false := beq_eq_false_iff_ne.mpr c16
   have c16b1 : (a0_2 != 0) = true := bne_iff_ne.mpr c16
   obtain ⟨t120, A20, H⟩ := OB H
   obtain rfl := Option.some.inj H
   obtain ⟨hcz21_0, hcz21_1, hcz21_2, hcz21_3, hcz21_4, hfz21_0, hfz21_1, hfz21_2, hfz21_3, hfz21_4⟩ := bk5 BK115.out
   go_wp2_with (first | ((with_reducible refine G1 29 rfl ?_); refine GC (some 40) Try.func29 #[.int .i64 a0_0, .int .i64 1, .int .i64 9] ?_; (with_reducible refine MQ (spec_l1In.calls a0_0 1 9 t120 _ A20.out) ?_); intro nd))
   go_ret
   exact QT (BT HB.out)

/-! ### spec_IsValidChain: function 64 -/
def spec_IsValidChain.l0 : Nat → List (S52) → Int → Option (Bool)
 | 0, _, _ => none
 | k + 1, x0, x3 => if x3 < (x0.length : Int) then (if 0 ≤ x3 then ((spec_IsValidVersion.f k ((rd_T52 x0 x3).f0) ((rd_T52 x0 x3).f1) ((rd_T52 x0 x3).f2) ((rd_T52 x0 x3).f3) ((rd_T52 x0 x3).f4)).bind fun t123 => (if t123 = true then (if (wrap64 (x3 + 1)) < (x0.length : Int) then (if 0 ≤ (wrap64 (x3 + 1)) then (if ((rd_T52 x0 x3).f2) ≥ ((rd_T52 x0 (wrap64 (x3 + 1))).f2) then (some false) else (if ((rd_T52 x0 x3).f4) > ((rd_T52 x0 (wrap64 (x3 + 1))).f2) then (some false) else (spec_IsValidChain.l0 k x0 (wrap64 (x3 + 1))))) else (none)) else (spec_IsValidChain.l0 k x0 (wrap64 (x3 + 1)))) else (some false))) else (none)) else (if (x0.length : Int) > 0 then (if 0 ≤ (wrap64 ((x0.length : Int) - 1)) then (if (wrap64 ((x0.length : Int) - 1)) < (x0.length : Int) then (some (((rd_T52 x0 (wrap64 ((x0.length : Int) - 1))).f4) == 1000)) else (none)) else (none)) else (some false))
def spec_IsValidChain.f (k : Nat) (l0 : List (S52)) : Option (Bool) := spec_IsValidChain.l0 k l0 0
theorem spec_IsValidChain.mono_l : ∀ k, (∀ y0 y1, LeO (spec_IsValidChain.l0 k y0 y1) (spec_IsValidChain.l0 (k + 1) y0 y1))
 | 0 => fun _ _ r h => by simp [spec_IsValidChain.l0] at h
 | k + 1 => by
  have ih0 := spec_IsValidChain.mono_l k
  all_goals intros; unfold spec_IsValidChain.l0
  all_goals repeat' (with_reducible first | exact ih0 .. | exact spec_IsValidVersion.mono .. | exact LeO.refl _ | exact LeO.none _ | refine LeO.ite ?_ ?_ | refine LeO.bind ?_ (fun _ => ?_))
theorem spec_IsValidChain.mono : ∀ a0 k, LeO (spec_IsValidChain.f k a0) (spec_IsValidChain.f (k + 1) a0) := by
 intro a0 k
 have ih0 := spec_IsValidChain.mono_l k
 unfold spec_IsValidChain.f
 repeat' (with_reducible first | exact ih0 .. | exact spec_IsValidVersion.mono .. | exact LeO.refl _ | exact LeO.none _ | refine LeO.ite ?_ ?_ | refine LeO.bind ?_ (fun _ => ?_))
theorem spec_IsValidChain.calls (k : Nat) (A0 : Option Addr) (c0 : Nat) (l0 : List (S52)) (r : Bool) (w : World) (hr0 : Kd.C k52 w A0 l0.length l0) (hc0 : l0.length ≤ c0) (h : spec_IsValidChain.f k l0 = some r) :
  Calls Try.prog 64 #[.slice A0 l0.length c0] w fun e w' => e = .returned (.bool r) ∧ Below w.heap.size w w' := by
 have hu52 := Try.underlying52
 have HR0 := AM_ hr0
 have HC0 := AM_ hc0
 clear hr0 hc0
 have HB := AM_ (Below.refl w.heap.size w)
 unfold spec_IsValidChain.f at h
 have H := h
 clear h
 have H' := AM_ H
 clear H
 go_enter Try.func64, Try.ntmps64
 go_wp2
 repeat (go_quiet (fail); try go_wp2)
 go_loopg [3] k (fun kq v3 w' => ∃ (x3_1 : Int), v3 = .int .i64 x3_1 ∧ Aside0 (spec_IsValidChain.l0 kq l0 x3_1 = some r) ∧ Aside0 (kq ≤ k) ∧ Aside0 (Below w.heap.size w w'))
 case atStart => exact ⟨(0), (by first | rfl | (simp; done) | (simp [*]; done)), H', ⟨Nat.le_refl _⟩, ⟨BT HB.out⟩⟩
 case round =>
  clear H'
  obtain ⟨x3_1, rfl, HA, HK1, HB⟩ := hrel
  cases gk with
  | zero => exact absurd HA.out (by simp [spec_IsValidChain.l0])
  | succ k1 =>
   have H := HA.out
   clear HA
   simp only [spec_IsValidChain.l0] at H
   by_cases c2 : x3_1 < (l0.length : Int)
   rotate_left
   ·rw [if_neg c2] at H
    have c2b0 := decide_eq_false c2
    clear c2
    by_cases c16 : (l0.length : Int) > 0
    rotate_left
    ·rw [if_neg c16] at H
     have c16b0 : decide (0 < (l0.length : Int)) = false := decide_eq_false c16
     have c16b1 : decide (0 < l0.length) = false := decide_eq_false (by omega)
     clear c16
     obtain rfl := Option.some.inj H
     go_wp2
     repeat (go_quiet (fail); try go_wp2)
     go_ret
     exact QT (BT HB.out)
    rw [if_pos c16] at H
    have c16b0 : decide (0 < (l0.length : Int)) = true := decide_eq_true c16
    have c16b1 : decide (0 < l0.length) = true := decide_eq_true (by omega)
    clear c16
    obtain ⟨ji17, hji17⟩ : ∃ j_ : Int, (wrap64 ((l0.length : Int) - 1)) = j_ := ⟨_, rfl⟩
    replace H : (if 0 ≤ (ji17) then (if (ji17) < (l0.length : Int) then (some (((rd_T52 l0 (ji17)).f4) == 1000)) else (none)) else (none)) = some r := by first | (rw [hji17] at H; exact H) | (simp only [hji17] at H ⊢; exact H)
    have hji17w : (IntKind.i64.wrap ((l0.length : Int) - 1)) = ji17 := (i64_w _).trans hji17
    replace H := HI H
    obtain ⟨c18, H⟩ := H
    have c18b0 := decide_eq_true c18
    clear c18
    replace H := HI H
    obtain ⟨c19, H⟩ := H
    have c19b0 := decide_eq_true c19
    clear c19
    obtain rfl := Option.some.inj H
    have p121 : 0 ≤ ((ji17) : Int) := DT
    have q121 : (ji17) < (l0.length : Int) := DT
    obtain ⟨ad121, e121, hx121_0, hx121_1, hx121_2, hx121_3, hx121_4⟩ := at_T52 HR0.out (ji17) p121 q121
    cases e121
    replace hx121_0 := BC HB.out hx121_0
    replace hx121_1 := BC HB.out hx121_1
    replace hx121_2 := BC HB.out hx121_2
    replace hx121_3 := BC HB.out hx121_3
    replace hx121_4 := BC HB.out hx121_4
    replace p121 := eq_true p121
    replace q121 := eq_true q121
    go_wp2
    repeat (go_quiet (fail); try go_wp2)
    go_ret
    exact ⟨by first | rfl | (simp [errW_none, errW_some] <;> rfl) | (simp only [← hji17]; first | rfl | (simp [errW_none, errW_some] <;> rfl)) | (simp [*, errW_none, errW_some] <;> rfl), BT HB.out⟩
   rw [if_pos c2] at H
   have c2b0 := decide_eq_true c2
   clear c2
   replace H := HI H
   obtain ⟨c3, H⟩ := H
   have c3b0 := decide_eq_true c3
   clear c3
   obtain ⟨t123, A4, H⟩ := OB H
   by_cases c5 : t123 = true
   rotate_left
   ·replace c5 := Bool.eq_false_iff.mpr c5
    subst c5
    replace H := HF H
    obtain rfl := Option.some.inj H
    have p122 : 0 ≤ (x3_1 : Int) := DT
    have q122 : x3_1 < (l0.length : Int) := DT
    obtain ⟨ad122, e122, hx122_0, hx122_1, hx122_2, hx122_3, hx122_4⟩ := at_T52 HR0.out x3_1 p122 q122
    cases e122
    replace hx122_0 := BC HB.out hx122_0
    replace hx122_1 := BC HB.out hx122_1
    replace hx122_2 := BC HB.out hx122_2
    replace hx122_3 := BC HB.out hx122_3
    replace hx122_4 := BC HB.out hx122_4
    replace p122 := eq_true p122
    replace q122 := eq_true q122
    go_wp2_with (first | (go_at_call 100; (with_reducible refine (spec_IsValidVersion.calls k1 ((rd_T52 l0 x3_1).f0) ((rd_T52 l0 x3_1).f1) ((rd_T52 l0 x3_1).f2) ((rd_T52 l0 x3_1).f3) ((rd_T52 l0 x3_1).f4) false _ A4.out).mono ?_); rintro e w15 ⟨rfl, hb⟩; replace HB := BW HB hb; (try clear hb)))
    repeat (go_quiet (first | (go_at_call 100; (with_reducible refine (spec_IsValidVersion.calls k1 ((rd_T52 l0 x3_1).f0) ((rd_T52 l0 x3_1).f1) ((rd_T52 l0 x3_1).f2) ((rd_T52 l0 x3_1).f3) ((rd_T52 l0 x3_1).f4) false _ A4.out).mono ?_); rintro e w15 ⟨rfl, hb⟩; replace HB := BW HB hb; (try clear hb))); try go_wp2_with (first | (go_at_call 100; (with_reducible refine (spec_IsValidVersion.calls k1 ((rd_T52 l0 x3_1).f0) ((rd_T52 l0 x3_1).f1) ((rd_T52 l0 x3_1).f2) ((rd_T52 l0 x3_1).f3) ((rd_T52 l0 x3_1).f4) false _ A4.out).mono ?_); rintro e w15 ⟨rfl, hb⟩; replace HB := BW HB hb; (try clear hb))))
    go_ret
    exact QT (BT HB.out)
   subst c5
   replace H := HT H
   by_cases c6 : (wrap64 (x3_1 + 1)) < (l0.length : Int)
   rotate_left
   ·rw [if_neg c6] at H
    have c6b0 := decide_eq_false c6
    clear c6
    have H' := AM_ H
    clear H
    have p122 : 0 ≤ (x3_1 : Int) := DT
    have q122 : x3_1 < (l0.length : Int) := DT
    obtain ⟨ad122, e122, hx122_0, hx122_1, hx122_2, hx122_3, hx122_4⟩ := at_T52 HR0.out x3_1 p122 q122
    cases e122
    replace hx122_0 := BC HB.out hx122_0
    replace hx122_1 := BC HB.out hx122_1
    replace hx122_2 := BC HB.out hx122_2
    replace hx122_3 := BC HB.out hx122_3
    replace hx122_4 := BC HB.out hx122_4
    replace p122 := eq_true p122
    replace q122 := eq_true q122
    go_wp2_with (first | (go_at_call 100; (with_reducible refine (spec_IsValidVersion.calls k1 ((rd_T52 l0 x3_1).f0) ((rd_T52 l0 x3_1).f1) ((rd_T52 l0 x3_1).f2) ((rd_T52 l0 x3_1).f3) ((rd_T52 l0 x3_1).f4) true _ A4.out).mono ?_); rintro e w14 ⟨rfl, hb⟩; replace HB := BW HB hb; (try clear hb)))
    repeat (go_quiet (first | (go_at_call 100; (with_reducible refine (spec_IsValidVersion.calls k1 ((rd_T52 l0 x3_1).f0) ((rd_T52 l0 x3_1).f1) ((rd_T52 l0 x3_1).f2) ((rd_T52 l0 x3_1).f3) ((rd_T52 l0 x3_1).f4) true _ A4.out).mono ?_); rintro e w14 ⟨rfl, hb⟩; replace HB := BW HB hb; (try clear hb))); try go_wp2_with (first | (go_at_call 100; (with_reducible refine (spec_IsValidVersion.calls k1 ((rd_T52 l0 x3_1).f0) ((rd_T52 l0 x3_1).f1) ((rd_T52 l0 x3_1).f2) ((rd_T52 l0 x3_1).f3) ((rd_T52 l0 x3_1).f4) true _ A4.out).mono ?_); rintro e w14 ⟨rfl, hb⟩; replace HB := BW HB hb; (try clear hb))))
    go_roundg k1
    case measure => have := HK1.out; omega
    case rel => exact ⟨(wrap64 (x3_1 + 1)), (by first | rfl | (simp; done) | (simp [*]; done)), H', ⟨by have := HK1.out; omega⟩, ⟨BT HB.out⟩⟩
   rw [if_pos c6] at H
   have c6b0 := decide_eq_true c6
   clear c6
   obtain ⟨ji7, hji7⟩ : ∃ j_ : Int, (wrap64 (x3_1 + 1)) = j_ := ⟨_, rfl⟩
   replace H : (if 0 ≤ (ji7) then (if ((rd_T52 l0 x3_1).f2) ≥ ((rd_T52 l0 (ji7)).f2) then (some false) else (if ((rd_T52 l0 x3_1).f4) > ((rd_T52 l0 (ji7)).f2) then (some false) else (spec_IsValidChain.l0 k1 l0 ji7))) else (none)) = some r := by first | (rw [hji7] at H; exact H) | (simp only [hji7] at H ⊢; exact H)
   (try rw [hji7] at c6b0)
   (try rw [hji7] at A4)
   have hji7w : (IntKind.i64.wrap (x3_1 + 1)) = ji7 := (i64_w _).trans hji7
   replace H := HI H
   obtain ⟨c8, H⟩ := H
   have c8b0 := decide_eq_true c8
   clear c8
   by_cases c9 : ((rd_T52 l0 x3_1).f2) ≥ ((rd_T52 l0 (ji7)).f2)
   ·rw [if_pos c9] at H
    have c9b0 : decide (((rd_T52 l0 (ji7)).f2) ≤ ((rd_T52 l0 x3_1).f2)) = true := decide_eq_true c9
    clear c9
    obtain rfl := Option.some.inj H
    have p122 : 0 ≤ (x3_1 : Int) := DT
    have q122 : x3_1 < (l0.length : Int) := DT
    obtain ⟨ad122, e122, hx122_0, hx122_1, hx122_2, hx122_3, hx122_4⟩ := at_T52 HR0.out x3_1 p122 q122
    cases e122
    replace hx122_0 := BC HB.out hx122_0
    replace hx122_1 := BC HB.out hx122_1
    replace hx122_2 := BC HB.out hx122_2
    replace hx122_3 := BC HB.out hx122_3
    replace hx122_4 := BC HB.out hx122_4
    replace p122 := eq_true p122
    replace q122 := eq_true q122
    go_wp2_with (first | (go_at_call 100; (with_reducible refine (spec_IsValidVersion.calls k1 ((rd_T52 l0 x3_1).f0) ((rd_T52 l0 x3_1).f1) ((rd_T52 l0 x3_1).f2) ((rd_T52 l0 x3_1).f3) ((rd_T52 l0 x3_1).f4) true _ A4.out).mono ?_); rintro e w10 ⟨rfl, hb⟩; replace HB := BW HB hb; (try clear hb); have p124 : 0 ≤ (x3_1 : Int) := DT; have q124 : x3_1 < (l0.length : Int) := DT; obtain ⟨ad124, e124, hx124_0, hx124_1, hx124_2, hx124_3, hx124_4⟩ := at_T52 HR0.out x3_1 p124 q124; obtain rfl : ad122 = ad124 := (by injection e124); replace hx124_0 := BD HB.out hx124_0; replace hx124_1 := BD HB.out hx124_1; replace hx124_2 := BD HB.out hx124_2; replace hx124_3 := BD HB.out hx124_3; replace hx124_4 := BD HB.out hx124_4; replace p124 := eq_true p124; replace q124 := eq_true q124; have p125 : 0 ≤ ((ji7) : Int) := DT; have q125 : (ji7) < (l0.length : Int) := DT; obtain ⟨ad125, e125, hx125_0, hx125_1, hx125_2, hx125_3, hx125_4⟩ := at_T52 HR0.out (ji7) p125 q125; obtain rfl : ad122 = ad125 := (by injection e125); replace hx125_0 := BD HB.out hx125_0; replace hx125_1 := BD HB.out hx125_1; replace hx125_2 := BD HB.out hx125_2; replace hx125_3 := BD HB.out hx125_3; replace hx125_4 := BD HB.out hx125_4; replace p125 := eq_true p125; replace q125 := eq_true q125))
    repeat (go_quiet (first | (go_at_call 100; (with_reducible refine (spec_IsValidVersion.calls k1 ((rd_T52 l0 x3_1).f0) ((rd_T52 l0 x3_1).f1) ((rd_T52 l0 x3_1).f2) ((rd_T52 l0 x3_1).f3) ((rd_T52 l0 x3_1).f4) true _ A4.out).mono ?_); rintro e w10 ⟨rfl, hb⟩; replace HB := BW HB hb; (try clear hb); have p124 : 0 ≤ (x3_1 : Int) := DT; have q124 : x3_1 < (l0.length : Int) := DT; obtain ⟨ad124, e124, hx124_0, hx124_1, hx124_2, hx124_3, hx124_4⟩ := at_T52 HR0.out x3_1 p124 q124; obtain rfl : ad122 = ad124 := (by injection e124); replace hx124_0 := BD HB.out hx124_0; replace hx124_1 := BD HB.out hx124_1; replace hx124_2 := BD HB.out hx124_2; replace hx124_3 := BD HB.out hx124_3; replace hx124_4 := BD HB.out hx124_4; replace p124 := eq_true p124; replace q124 := eq_true q124; have p125 : 0 ≤ ((ji7) : Int) := DT; have q125 : (ji7) < (l0.length : Int) := DT; obtain ⟨ad125, e125, hx125_0, hx125_1, hx125_2, hx125_3, hx125_4⟩ := at_T52 HR0.out (ji7) p125 q125; obtain rfl : ad122 = ad125 := (by injection e125); replace hx125_0 := BD HB.out hx125_0; replace hx125_1 := BD HB.out hx125_1; replace hx125_2 := BD HB.out hx125_2; replace hx125_3 := BD HB.out hx125_3; replace hx125_4 := BD HB.out hx125_4; replace p125 := eq_true p125; replace q125 := eq_true q125)); try go_wp2_with (first | (go_at_call 100; (with_reducible refine (spec_IsValidVersion.calls k1 ((rd_T52 l0 x3_1).f0) ((rd_T52 l0 x3_1).f1) ((rd_T52 l0 x3_1).f2) ((rd_T52 l0 x3_1).f3) ((rd_T52 l0 x3_1).f4) true _ A4.out).mono ?_); rintro e w10 ⟨rfl, hb⟩; replace HB := BW HB hb; (try clear hb); have p124 : 0 ≤ (x3_1 : Int) := DT; have q124 : x3_1 < (l0.length : Int) := DT; obtain ⟨ad124, e124, hx124_0, hx124_1, hx124_2, hx124_3, hx124_4⟩ := at_T52 HR0.out x3_1 p124 q124; obtain rfl : ad122 = ad124 := (by injection e124); replace hx124_0 := BD HB.out hx124_0; replace hx124_1 := BD HB.out hx124_1; replace hx124_2 := BD HB.out hx124_2; replace hx124_3 := BD HB.out hx124_3; replace hx124_4 := BD HB.out hx124_4; replace p124 := eq_true p124; replace q124 := eq_true q124; have p125 : 0 ≤ ((ji7) : Int) := DT; have q125 : (ji7) < (l0.length : Int) := DT; obtain ⟨ad125, e125, hx125_0, hx125_1, hx125_2, hx125_3, hx125_4⟩ := at_T52 HR0.out (ji7) p125 q125; obtain rfl : ad122 = ad125 := (by injection e125); replace hx125_0 := BD HB.out hx125_0; replace hx125_1 := BD HB.out hx125_1; replace hx125_2 := BD HB.out hx125_2; replace hx125_3 := BD HB.out hx125_3; replace hx125_4 := BD HB.out hx125_4; replace p125 := eq_true p125; replace q125 := eq_true q125)))
    go_ret
    exact ⟨by first | rfl | (simp [errW_none, errW_some] <;> rfl) | (simp only [← hji7]; first | rfl | (simp [errW_none, errW_some] <;> rfl)) | (simp [*, errW_none, errW_some] <;> rfl), BT HB.out⟩
   rw [if_neg c9] at H
   have c9b0 : decide (((rd_T52 l0 (ji7)).f2) ≤ ((rd_T52 l0 x3_1).f2)) = false := decide_eq_false c9
   clear c9
   by_cases c11 : ((rd_T52 l0 x3_1).f4) > ((rd_T52 l0 (ji7)).f2)
   ·rw [if_pos c11] at H
    have c11b0 : decide (((rd_T52 l0 (ji7)).f2) < ((rd_T52 l0 x3_1).f4)) = true := decide_eq_true c11
    clear c11
    obtain rfl := Option.some.inj H
    have p122 : 0 ≤ (x3_1 : Int) := DT
    have q122 : x3_1 < (l0.length : Int) := DT
    obtain ⟨ad122, e122, hx122_0, hx122_1, hx122_2, hx122_3, hx122_4⟩ := at_T52 HR0.out x3_1 p122 q122
    cases e122
    replace hx122_0 := BC HB.out hx122_0
    replace hx122_1 := BC HB.out hx122_1
    replace hx122_2 := BC HB.out hx122_2
    replace hx122_3 := BC HB.out hx122_3
    replace hx122_4 := BC HB.out hx122_4
    replace p122 := eq_true p122
    replace q122 := eq_true q122
    go_wp2_with (first | (go_at_call 100; (with_reducible refine (spec_IsValidVersion.calls k1 ((rd_T52 l0 x3_1).f0) ((rd_T52 l0 x3_1).f1) ((rd_T52 l0 x3_1).f2) ((rd_T52 l0 x3_1).f3) ((rd_T52 l0 x3_1).f4) true _ A4.out).mono ?_); rintro e w12 ⟨rfl, hb⟩; replace HB := BW HB hb; (try clear hb); have p124 : 0 ≤ (x3_1 : Int) := DT; have q124 : x3_1 < (l0.length : Int) := DT; obtain ⟨ad124, e124, hx124_0, hx124_1, hx124_2, hx124_3, hx124_4⟩ := at_T52 HR0.out x3_1 p124 q124; obtain rfl : ad122 = ad124 := (by injection e124); replace hx124_0 := BD HB.out hx124_0; replace hx124_1 := BD HB.out hx124_1; replace hx124_2 := BD HB.out hx124_2; replace hx124_3 := BD HB.out hx124_3; replace hx124_4 := BD HB.out hx124_4; replace p124 := eq_true p124; replace q124 := eq_true q124; have p125 : 0 ≤ ((ji7) : Int) := DT; have q125 : (ji7) < (l0.length : Int) := DT; obtain ⟨ad125, e125, hx125_0, hx125_1, hx125_2, hx125_3, hx125_4⟩ := at_T52 HR0.out (ji7) p125 q125; obtain rfl : ad122 = ad125 := (by injection e125); replace hx125_0 := BD HB.out hx125_0; replace hx125_1 := BD HB.out hx125_1; replace hx125_2 := BD HB.out hx125_2; replace hx125_3 := BD HB.out hx125_3; replace hx125_4 := BD HB.out hx125_4; replace p125 := eq_true p125; replace q125 := eq_true q125; have p126 : 0 ≤ (x3_1 : Int) := DT; have q126 : x3_1 < (l0.length : Int) := DT; obtain ⟨ad126, e126, hx126_0, hx126_1, hx126_2, hx126_3, hx126_4⟩ := at_T52 HR0.out x3_1 p126 q126; obtain rfl : ad122 = ad126 := (by injection e126); replace hx126_0 := BD HB.out hx126_0; replace hx126_1 := BD HB.out hx126_1; replace hx126_2 := BD HB.out hx126_2; replace hx126_3 := BD HB.out hx126_3; replace hx126_4 := BD HB.out hx126_4; replace p126 := eq_true p126; replace q126 := eq_true q126; have p127 : 0 ≤ ((ji7) : Int) := DT; have q127 : (ji7) < (l0.length : Int) := DT; obtain ⟨ad127, e127, hx127_0, hx127_1, hx127_2, hx127_3, hx127_4⟩ := at_T52 HR0.out (ji7) p127 q127; obtain rfl : ad122 = ad127 := (by injection e127); replace hx127_0 := BD HB.out hx127_0; replace hx127_1 := BD HB.out hx127_1; replace hx127_2 := BD HB.out hx127_2; replace hx127_3 := BD HB.out hx127_3; replace hx127_4 := BD HB.out hx127_4; replace p127 := eq_true p127; replace q127 := eq_true q127))
    repeat (go_quiet (first | (go_at_call 100; (with_reducible refine (spec_IsValidVersion.calls k1 ((rd_T52 l0 x3_1).f0) ((rd_T52 l0 x3_1).f1) ((rd_T52 l0 x3_1).f2) ((rd_T52 l0 x3_1).f3) ((rd_T52 l0 x3_1).f4) true _ A4.out).mono ?_); rintro e w12 ⟨rfl, hb⟩; replace HB := BW HB hb; (try clear hb); have p124 : 0 ≤ (x3_1 : Int) := DT; have q124 : x3_1 < (l0.length : Int) := DT; obtain ⟨ad124, e124, hx124_0, hx124_1, hx124_2, hx124_3, hx124_4⟩ := at_T52 HR0.out x3_1 p124 q124; obtain rfl : ad122 = ad124 := (by injection e124); replace hx124_0 := BD HB.out hx124_0; replace hx124_1 := BD HB.out hx124_1; replace hx124_2 := BD HB.out hx124_2; replace hx124_3 := BD HB.out hx124_3; replace hx124_4 := BD HB.out hx124_4; replace p124 := eq_true p124; replace q124 := eq_true q124; have p125 : 0 ≤ ((ji7) : Int) := DT; have q125 : (ji7) < (l0.length : Int) := DT; obtain ⟨ad125, e125, hx125_0, hx125_1, hx125_2, hx125_3, hx125_4⟩ := at_T52 HR0.out (ji7) p125 q125; obtain rfl : ad122 = ad125 := (by injection e125); replace hx125_0 := BD HB.out hx125_0; replace hx125_1 := BD HB.out hx125_1; replace hx125_2 := BD HB.out hx125_2; replace hx125_3 := BD HB.out hx125_3; replace hx125_4 := BD HB.out hx125_4; replace p125 := eq_true p125; replace q125 := eq_true q125; have p126 : 0 ≤ (x3_1 : Int) := DT; have q126 : x3_1 < (l0.length : Int) := DT; obtain ⟨ad126, e126, hx126_0, hx126_1, hx126_2, hx126_3, hx126_4⟩ := at_T52 HR0.out x3_1 p126 q126; obtain rfl : ad122 = ad126 := (by injection e126); replace hx126_0 := BD HB.out hx126_0; replace hx126_1 := BD HB.out hx126_1; replace hx126_2 := BD HB.out hx126_2; replace hx126_3 := BD HB.out hx126_3; replace hx126_4 := BD HB.out hx126_4; replace p126 := eq_true p126; replace q126 := eq_true q126; have p127 : 0 ≤ ((ji7) : Int) := DT; have q127 : (ji7) < (l0.length : Int) := DT; obtain ⟨ad127, e127, hx127_0, hx127_1, hx127_2, hx127_3, hx127_4⟩ := at_T52 HR0.out (ji7) p127 q127; obtain rfl : ad122 = ad127 := (by injection e127); replace hx127_0 := BD HB.out hx127_0; replace hx127_1 := BD HB.out hx127_1; replace hx127_2 := BD HB.out hx127_2; replace hx127_3 := BD HB.out hx127_3; replace hx127_4 := BD HB.out hx127_4; replace p127 := eq_true p127; replace q127 := eq_true q127)); try go_wp2_with (first | (go_at_call 100; (with_reducible refine (spec_IsValidVersion.calls k1 ((rd_T52 l0 x3_1).f0) ((rd_T52 l0 x3_1).f1) ((rd_T52 l0 x3_1).f2) ((rd_T52 l0 x3_1).f3) ((rd_T52 l0 x3_1).f4) true _ A4.out).mono ?_); rintro e w12 ⟨rfl, hb⟩; replace HB := BW HB hb; (try clear hb); have p124 : 0 ≤ (x3_1 : Int) := DT; have q124 : x3_1 < (l0.length : Int) := DT; obtain ⟨ad124, e124, hx124_0, hx124_1, hx124_2, hx124_3, hx124_4⟩ := at_T52 HR0.out x3_1 p124 q124; obtain rfl : ad122 = ad124 := (by injection e124); replace hx124_0 := BD HB.out hx124_0; replace hx124_1 := BD HB.out hx124_1; replace hx124_2 := BD HB.out hx124_2; replace hx124_3 := BD HB.out hx124_3; replace hx124_4 := BD HB.out hx124_4; replace p124 := eq_true p124; replace q124 := eq_true q124; have p125 : 0 ≤ ((ji7) : Int) := DT; have q125 : (ji7) < (l0.length : Int) := DT; obtain ⟨ad125, e125, hx125_0, hx125_1, hx125_2, hx125_3, hx125_4⟩ := at_T52 HR0.out (ji7) p125 q125; obtain rfl : ad122 = ad125 := (by injection e125); replace hx125_0 := BD HB.out hx125_0; replace hx125_1 := BD HB.out hx125_1; replace hx125_2 := BD HB.out hx125_2; replace hx125_3 := BD HB.out hx125_3; replace hx125_4 := BD HB.out hx125_4; replace p125 := eq_true p125; replace q125 := eq_true q125; have p126 : 0 ≤ (x3_1 : Int) := DT; have q126 : x3_1 < (l0.length : Int) := DT; obtain ⟨ad126, e126, hx126_0, hx126_1, hx126_2, hx126_3, hx126_4⟩ := at_T52 HR0.out x3_1 p126 q126; obtain rfl : ad122 = ad126 := (by injection e126); replace hx126_0 := BD HB.out hx126_0; replace hx126_1 := BD HB.out hx126_1; replace hx126_2 := BD HB.out hx126_2; replace hx126_3 := BD HB.out hx126_3; replace hx126_4 := BD HB.out hx126_4; replace p126 := eq_true p126; replace q126 := eq_true q126; have p127 : 0 ≤ ((ji7) : Int) := DT; have q127 : (ji7) < (l0.length : Int) := DT; obtain ⟨ad127, e127, hx127_0, hx127_1, hx127_2, hx127_3, hx127_4⟩ := at_T52 HR0.out (ji7) p127 q127; obtain rfl : ad122 = ad127 := (by injection e127); replace hx127_0 := BD HB.out hx127_0; replace hx127_1 := BD HB.out hx127_1; replace hx127_2 := BD HB.out hx127_2; replace hx127_3 := BD HB.out hx127_3; replace hx127_4 := BD HB.out hx127_4; replace p127 := eq_true p127; replace q127 := eq_true q127)))
    go_ret
    exact ⟨by first | rfl | (simp [errW_none, errW_some] <;> rfl) | (simp only [← hji7]; first | rfl | (simp [errW_none, errW_some] <;> rfl)) | (simp [*, errW_none, errW_some] <;> rfl), BT HB.out⟩
   rw [if_neg c11] at H
   have c11b0 : decide (((rd_T52 l0 (ji7)).f2) < ((rd_T52 l0 x3_1).f4)) = false := decide_eq_false c11
   clear c11
   have H' := AM_ H
   clear H
   have p122 : 0 ≤ (x3_1 : Int) := DT
   have q122 : x3_1 < (l0.length : Int) := DT
   obtain ⟨ad122, e122, hx122_0, hx122_1, hx122_2, hx122_3, hx122_4⟩ := at_T52 HR0.out x3_1 p122 q122
   cases e122
   replace hx122_0 := BC HB.out hx122_0
   replace hx122_1 := BC HB.out hx122_1
   replace hx122_2 := BC HB.out hx122_2
   replace hx122_3 := BC HB.out hx122_3
   replace hx122_4 := BC HB.out hx122_4
   replace p122 := eq_true p122
   replace q122 := eq_true q122
   go_wp2_with (first | (go_at_call 100; (with_reducible refine (spec_IsValidVersion.calls k1 ((rd_T52 l0 x3_1).f0) ((rd_T52 l0 x3_1).f1) ((rd_T52 l0 x3_1).f2) ((rd_T52 l0 x3_1).f3) ((rd_T52 l0 x3_1).f4) true _ A4.out).mono ?_); rintro e w13 ⟨rfl, hb⟩; replace HB := BW HB hb; (try clear hb); have p124 : 0 ≤ (x3_1 : Int) := DT; have q124 : x3_1 < (l0.length : Int) := DT; obtain ⟨ad124, e124, hx124_0, hx124_1, hx124_2, hx124_3, hx124_4⟩ := at_T52 HR0.out x3_1 p124 q124; obtain rfl : ad122 = ad124 := (by injection e124); replace hx124_0 := BD HB.out hx124_0; replace hx124_1 := BD HB.out hx124_1; replace hx124_2 := BD HB.out hx124_2; replace hx124_3 := BD HB.out hx124_3; replace hx124_4 := BD HB.out hx124_4; replace p124 := eq_true p124; replace q124 := eq_true q124; have p125 : 0 ≤ ((ji7) : Int) := DT; have q125 : (ji7) < (l0.length : Int) := DT; obtain ⟨ad125, e125, hx125_0, hx125_1, hx125_2, hx125_3, hx125_4⟩ := at_T52 HR0.out (ji7) p125 q125; obtain rfl : ad122 = ad125 := (by injection e125); replace hx125_0 := BD HB.out hx125_0; replace hx125_1 := BD HB.out hx125_1; replace hx125_2 := BD HB.out hx125_2; replace hx125_3 := BD HB.out hx125_3; replace hx125_4 := BD HB.out hx125_4; replace p125 := eq_true p125; replace q125 := eq_true q125; have p126 : 0 ≤ (x3_1 : Int) := DT; have q126 : x3_1 < (l0.length : Int) := DT; obtain ⟨ad126, e126, hx126_0, hx126_1, hx126_2, hx126_3, hx126_4⟩ := at_T52 HR0.out x3_1 p126 q126; obtain rfl : ad122 = ad126 := (by injection e126); replace hx126_0 := BD HB.out hx126_0; replace hx126_1 := BD HB.out hx126_1; replace hx126_2 := BD HB.out hx126_2; replace hx126_3 := BD HB.out hx126_3; replace hx126_4 := BD HB.out hx126_4; replace p126 := eq_true p126; replace q126 := eq_true q126; have p127 : 0 ≤ ((ji7) : Int) := DT; have q127 : (ji7) < (l0.length : Int) := DT; obtain ⟨ad127, e127, hx127_0, hx127_1, hx127_2, hx127_3, hx127_4⟩ := at_T52 HR0.out (ji7) p127 q127; obtain rfl : ad122 = ad127 := (by injection e127); replace hx127_0 := BD HB.out hx127_0; replace hx127_1 := BD HB.out hx127_1; replace hx127_2 := BD HB.out hx127_2; replace hx127_3 := BD HB.out hx127_3; replace hx127_4 := BD HB.out hx127_4; replace p127 := eq_true p127; replace q127 := eq_true q127))
   repeat (go_quiet (first | (go_at_call 100; (with_reducible refine (spec_IsValidVersion.calls k1 ((rd_T52 l0 x3_1).f0) ((rd_T52 l0 x3_1).f1) ((rd_T52 l0 x3_1).f2) ((rd_T52 l0 x3_1).f3) ((rd_T52 l0 x3_1).f4) true _ A4.out).mono ?_); rintro e w13 ⟨rfl, hb⟩; replace HB := BW HB hb; (try clear hb); have p124 : 0 ≤ (x3_1 : Int) := DT; have q124 : x3_1 < (l0.length : Int) := DT; obtain ⟨ad124, e124, hx124_0, hx124_1, hx124_2, hx124_3, hx124_4⟩ := at_T52 HR0.out x3_1 p124 q124; obtain rfl : ad122 = ad124 := (by injection e124); replace hx124_0 := BD HB.out hx124_0; replace hx124_1 := BD HB.out hx124_1; replace hx124_2 := BD HB.out hx124_2; replace hx124_3 := BD HB.out hx124_3; replace hx124_4 := BD HB.out hx124_4; replace p124 := eq_true p124; replace q124 := eq_true q124; have p125 : 0 ≤ ((ji7) : Int) := DT; have q125 : (ji7) < (l0.length : Int) := DT; obtain ⟨ad125, e125, hx125_0, hx125_1, hx125_2, hx125_3, hx125_4⟩ := at_T52 HR0.out (ji7) p125 q125; obtain rfl : ad122 = ad125 := (by injection e125); replace hx125_0 := BD HB.out hx125_0; replace hx125_1 := BD HB.out hx125_1; replace hx125_2 := BD HB.out hx125_2; replace hx125_3 := BD HB.out hx125_3; replace hx125_4 := BD HB.out hx125_4; replace p125 := eq_true p125; replace q125 := eq_true q125; have p126 : 0 ≤ (x3_1 : Int) := DT; have q126 : x3_1 < (l0.length : Int) := DT; obtain ⟨ad126, e126, hx126_0, hx126_1, hx126_2, hx126_3, hx126_4⟩ := at_T52 HR0.out x3_1 p126 q126; obtain rfl : ad122 = ad126 := (by injection e126); replace hx126_0 := BD HB.out hx126_0; replace hx126_1 := BD HB.out hx126_1; replace hx126_2 := BD HB.out hx126_2; replace hx126_3 := BD HB.out hx126_3; replace hx126_4 := BD HB.out hx126_4; replace p126 := eq_true p126; replace q126 := eq_true q126; have p127 : 0 ≤ ((ji7) : Int) := DT; have q127 : (ji7) < (l0.length : Int) := DT; obtain ⟨ad127, e127, hx127_0, hx127_1, hx127_2, hx127_3, hx127_4⟩ := at_T52 HR0.out (ji7) p127 q127; obtain rfl : ad122 = ad127 := (by injection e127); replace hx127_0 := BD HB.out hx127_0; replace hx127_1 := BD HB.out hx127_1; replace hx127_2 := BD HB.out hx127_2; replace hx127_3 := BD HB.out hx127_3; replace hx127_4 := BD HB.out hx127_4; replace p127 := eq_true p127; replace q127 := eq_true q127)); try go_wp2_with (first | (go_at_call 100; (with_reducible refine (spec_IsValidVersion.calls k1 ((rd_T52 l0 x3_1).f0) ((rd_T52 l0 x3_1).f1) ((rd_T52 l0 x3_1).f2) ((rd_T52 l0 x3_1).f3) ((rd_T52 l0 x3_1).f4) true _ A4.out).mono ?_); rintro e w13 ⟨rfl, hb⟩; replace HB := BW HB hb; (try clear hb); have p124 : 0 ≤ (x3_1 : Int) := DT; have q124 : x3_1 < (l0.length : Int) := DT; obtain ⟨ad124, e124, hx124_0, hx124_1, hx124_2, hx124_3, hx124_4⟩ := at_T52 HR0.out x3_1 p124 q124; obtain rfl : ad122 = ad124 := (by injection e124); replace hx124_0 := BD HB.out hx124_0; replace hx124_1 := BD HB.out hx124_1; replace hx124_2 := BD HB.out hx124_2; replace hx124_3 := BD HB.out hx124_3; replace hx124_4 := BD HB.out hx124_4; replace p124 := eq_true p124; replace q124 := eq_true q124; have p125 : 0 ≤ ((ji7) : Int) := DT; have q125 : (ji7) < (l0.length : Int) := DT; obtain ⟨ad125, e125, hx125_0, hx125_1, hx125_2, hx125_3, hx125_4⟩ := at_T52 HR0.out (ji7) p125 q125; obtain rfl : ad122 = ad125 := (by injection e125); replace hx125_0 := BD HB.out hx125_0; replace hx125_1 := BD HB.out hx125_1; replace hx125_2 := BD HB.out hx125_2; replace hx125_3 := BD HB.out hx125_3; replace hx125_4 := BD HB.out hx125_4; replace p125 := eq_true p125; replace q125 := eq_true q125; have p126 : 0 ≤ (x3_1 : Int) := DT; have q126 : x3_1 < (l0.length : Int) := DT; obtain ⟨ad126, e126, hx126_0, hx126_1, hx126_2, hx126_3, hx126_4⟩ := at_T52 HR0.out x3_1 p126 q126; obtain rfl : ad122 = ad126 := (by injection e126); replace hx126_0 := BD HB.out hx126_0; replace hx126_1 := BD HB.out hx126_1; replace hx126_2 := BD HB.out hx126_2; replace hx126_3 := BD HB.out hx126_3; replace hx126_4 := BD HB.out hx126_4; replace p126 := eq_true p126; replace q126 := eq_true q126; have p127 : 0 ≤ ((ji7) : Int) := DT; have q127 : (ji7) < (l0.length : Int) := DT; obtain ⟨ad127, e127, hx127_0, hx127_1, hx127_2, hx127_3, hx127_4⟩ := at_T52 HR0.out (ji7) p127 q127; obtain rfl : ad122 = ad127 := (by injection e127); replace hx127_0 := BD HB.out hx127_0; replace hx127_1 := BD HB.out hx127_1; replace hx127_2 := BD HB.out hx127_2; replace hx127_3 := BD HB.out hx127_3; replace hx127_4 := BD HB.out hx127_4; replace p127 := eq_true p127; replace q127 := eq_true q127)))
   go_roundg k1
   case measure => have := HK1.out; omega
   case rel => exact ⟨(ji7), (by first | rfl | (simp; done) | (simp only [← hji7] <;> (first | rfl | simp)) | (simp [*]; done)), H', ⟨by have := HK1.out; omega⟩, ⟨BT HB.out⟩⟩

/-! ### spec_IsValidStore: function 26 -/
def spec_IsValidStore.l0 : Nat → Int → List (List (S52)) → Option (Bool)
 | 0, _, _ => none
 | k + 1, x3, x129000 => if x3 < (x129000.length : Int) then (if 0 ≤ x3 then ((spec_IsValidChain.f k (rd_L11 x129000 x3)).bind fun t130 => (if t130 = true then (if 0 < ((rd_L11 x129000 x3).length : Int) then (if ((rd_T52 (rd_L11 x129000 x3) 0).f2) > 0 then (if ((rd_L11 x129000 x3).length : Int) > 50 then (some false) else (spec_IsValidStore.l0 k (wrap64 (x3 + 1)) x129000)) else (if ((rd_L11 x129000 x3).length : Int) > 50 then (some false) else (spec_IsValidStore.l0 k (wrap64 (x3 + 1)) x129000))) else (none)) else (some false))) else (none)) else (some ((x129000.length : Int) == 6))
def spec_IsValidStore.f (k : Nat) (l0_0 : List (List (S52))) : Option (Bool) := spec_IsValidStore.l0 k 0 l0_0
theorem spec_IsValidStore.mono_l : ∀ k, (∀ y0 y1, LeO (spec_IsValidStore.l0 k y0 y1) (spec_IsValidStore.l0 (k + 1) y0 y1))
 | 0 => fun _ _ r h => by simp [spec_IsValidStore.l0] at h
 | k + 1 => by
  have ih0 := spec_IsValidStore.mono_l k
  all_goals intros; unfold spec_IsValidStore.l0
  all_goals repeat' (with_reducible first | exact ih0 .. | exact spec_IsValidChain.mono .. | exact LeO.refl _ | exact LeO.none _ | refine LeO.ite ?_ ?_ | refine LeO.bind ?_ (fun _ => ?_))
theorem spec_IsValidStore.mono : ∀ a0 k, LeO (spec_IsValidStore.f k a0) (spec_IsValidStore.f (k + 1) a0) := by
 intro a0 k
 have ih0 := spec_IsValidStore.mono_l k
 unfold spec_IsValidStore.f
 repeat' (with_reducible first | exact ih0 .. | exact spec_IsValidChain.mono .. | exact LeO.refl _ | exact LeO.none _ | refine LeO.ite ?_ ?_ | refine LeO.bind ?_ (fun _ => ?_))
theorem spec_IsValidStore.calls (k : Nat) (A0_0 : Option Addr) (c0_0 : Nat) (l0_0 : List (List (S52))) (r : Bool) (w : World) (hr0_0 : Kd.C (Kd.slice 52 k52) w A0_0 l0_0.length l0_0) (hc0_0 : l0_0.length ≤ c0_0) (h : spec_IsValidStore.f k l0_0 = some r) :
  Calls Try.prog 26 #[.agg #[.slice A0_0 l0_0.length c0_0]] w fun e w' => e = .returned (.bool r) ∧ Below w.heap.size w w' := by
 have hu34 := Try.underlying34
 have HR0_0 := AM_ hr0_0
 have HC0_0 := AM_ hc0_0
 clear hr0_0 hc0_0
 have HB := AM_ (Below.refl w.heap.size w)
 unfold spec_IsValidStore.f at h
 have H := h
 clear h
 have H' := AM_ H
 clear H
 go_enter Try.func26, Try.ntmps26
 go_wp2_with (first | ((with_reducible refine G2 1 rfl ?_); (try (refine gate_guard (by rfl) ?_; dsimp only)); refine BY 1 #[.slice A0_0 l0_0.length c0_0] 34 HB ?_; clear HB; intro gb128 w2 BK128 GW128 HB))
 go_loopg [3] k (fun kq v3 w' => ∃ (x3_1 : Int), v3 = .int .i64 x3_1 ∧ Aside0 (spec_IsValidStore.l0 kq x3_1 l0_0 = some r) ∧ Aside0 (kq ≤ k) ∧ Aside0 (w'.heap[gb128]? = some (.cells #[(.slice A0_0 l0_0.length c0_0)] 34 (0, 0))) ∧ Aside0 (Below w.heap.size w w'))
 case atStart => exact ⟨(0), (by first | rfl | (simp; done) | (simp [*]; done)), H', ⟨Nat.le_refl _⟩, ⟨BH BK128.out⟩, ⟨BT HB.out⟩⟩
 case round =>
  clear H'
  obtain ⟨x3_1, rfl, HA, HK1, BK128, HB⟩ := hrel
  cases gk with
  | zero => exact absurd HA.out (by simp [spec_IsValidStore.l0])
  | succ k1 =>
   have H := HA.out
   clear HA
   simp only [spec_IsValidStore.l0] at H
   by_cases c3 : x3_1 < (l0_0.length : Int)
   rotate_left
   ·rw [if_neg c3] at H
    have c3b0 := decide_eq_false c3
    clear c3
    obtain rfl := Option.some.inj H
    obtain ⟨hcz25_0, hfz25_0⟩ := bk1 BK128.out
    go_wp2
    go_ret
    exact QT (BT HB.out)
   rw [if_pos c3] at H
   have c3b0 := decide_eq_true c3
   clear c3
   replace H := HI H
   obtain ⟨c4, H⟩ := H
   have c4b0 := decide_eq_true c4
   clear c4
   obtain ⟨t130, A5, H⟩ := OB H
   by_cases c6 : t130 = true
   rotate_left
   ·replace c6 := Bool.eq_false_iff.mpr c6
    subst c6
    replace H := HF H
    obtain rfl := Option.some.inj H
    obtain ⟨hcz23_0, hfz23_0⟩ := bk1 BK128.out
    have p129 : 0 ≤ (x3_1 : Int) := DT
    have q129 : x3_1 < (l0_0.length : Int) := DT
    obtain ⟨ad129, A129_0, c129_0, e129, hx129_0, hl129_0, hi129_0⟩ := at_L11 HR0_0.out x3_1 p129 q129
    cases e129
    replace hx129_0 := BC HB.out hx129_0
    have HR129_0 := AM_ hi129_0
    have HC129_0 := AM_ hl129_0
    clear hi129_0 hl129_0
    replace p129 := eq_true p129
    replace q129 := eq_true q129
    go_wp2_with (first | ((with_reducible refine G1 64 rfl ?_); refine GC (some 16) Try.func64 #[.slice A129_0 (rd_L11 l0_0 x3_1).length c129_0] ?_; (with_reducible refine MB (spec_IsValidChain.calls k1 _ _ (rd_L11 l0_0 x3_1) false _ (CC HR129_0 HB) HC129_0.out A5.out) ?_); intro w24 hb; replace BK128 := BV BK128 hb; replace HB := BW HB hb; (try clear hb)))
    go_ret
    exact QT (BT HB.out)
   subst c6
   replace H := HT H
   replace H := HI H
   obtain ⟨c7, H⟩ := H
   have c7b0 := decide_eq_true c7
   have c7b1 : decide (0 < (rd_L11 l0_0 x3_1).length) = true := decide_eq_true (by omega)
   clear c7
   by_cases c8 : ((rd_T52 (rd_L11 l0_0 x3_1) 0).f2) > 0
   rotate_left
   ·rw [if_neg c8] at H
    have c8b0 : decide (0 < ((rd_T52 (rd_L11 l0_0 x3_1) 0).f2)) = false := decide_eq_false c8
    clear c8
    by_cases c16 : ((rd_L11 l0_0 x3_1).length : Int) > 50
    ·rw [if_pos c16] at H
     have c16b0 : decide (50 < ((rd_L11 l0_0 x3_1).length : Int)) = true := decide_eq_true c16
     have c16b1 : decide (50 < (rd_L11 l0_0 x3_1).length) = true := decide_eq_true (by omega)
     clear c16
     obtain rfl := Option.some.inj H
     obtain ⟨hcz17_0, hfz17_0⟩ := bk1 BK128.out
     have p129 : 0 ≤ (x3_1 : Int) := DT
     have q129 : x3_1 < (l0_0.length : Int) := DT
     obtain ⟨ad129, A129_0, c129_0, e129, hx129_0, hl129_0, hi129_0⟩ := at_L11 HR0_0.out x3_1 p129 q129
     cases e129
     replace hx129_0 := BC HB.out hx129_0
     have HR129_0 := AM_ hi129_0
     have HC129_0 := AM_ hl129_0
     clear hi129_0 hl129_0
     replace p129 := eq_true p129
     replace q129 := eq_true q129
     go_wp2_with (first | ((with_reducible refine G1 64 rfl ?_); refine GC (some 16) Try.func64 #[.slice A129_0 (rd_L11 l0_0 x3_1).length c129_0] ?_; (with_reducible refine MB (spec_IsValidChain.calls k1 _ _ (rd_L11 l0_0 x3_1) true _ (CC HR129_0 HB) HC129_0.out A5.out) ?_); intro w18 hb; replace BK128 := BV BK128 hb; replace HB := BW HB hb; (try clear hb); obtain ⟨hcz19_0, hfz19_0⟩ := bk1 BK128.out; have p131 : 0 ≤ (x3_1 : Int) := DT; have q131 : x3_1 < (l0_0.length : Int) := DT; obtain ⟨ad131, A131_0, c131_0, e131, hx131_0, hl131_0, hi131_0⟩ := at_L11 HR0_0.out x3_1 p131 q131; obtain rfl : ad129 = ad131 := (by injection e131); replace hx131_0 := BD HB.out hx131_0; have HR131_0 := AM_ hi131_0; have HC131_0 := AM_ hl131_0; clear hi131_0 hl131_0; replace p131 := eq_true p131; replace q131 := eq_true q131; have p132 : 0 ≤ (0 : Int) := (by omega); have q132 : 0 < ((rd_L11 l0_0 x3_1).length : Int) := DT; obtain ⟨ad132, e132, hx132_0, hx132_1, hx132_2, hx132_3, hx132_4⟩ := at_T52 HR131_0.out 0 p132 q132; cases e132; have qi132 : (0 < (rd_L11 l0_0 x3_1).length) = True := eq_true (by omega); (try rw [show ((0 : Int)).toNat = 0 from rfl] at hx132_0); (try rw [show 0 * 5 = 0 from rfl] at hx132_0); (try rw [Addr.add_zero'] at hx132_0); (try rw [show ((0 : Int)).toNat = 0 from rfl] at hx132_1); (try rw [show 0 * 5 = 0 from rfl] at hx132_1); (try rw [Addr.add_zero'] at hx132_1); (try rw [show ((0 : Int)).toNat = 0 from rfl] at hx132_2); (try rw [show 0 * 5 = 0 from rfl] at hx132_2); (try rw [Addr.add_zero'] at hx132_2); (try rw [show ((0 : Int)).toNat = 0 from rfl] at hx132_3); (try rw [show 0 * 5 = 0 from rfl] at hx132_3); (try rw [Addr.add_zero'] at hx132_3); (try rw [show ((0 : Int)).toNat = 0 from rfl] at hx132_4); (try rw [show 0 * 5 = 0 from rfl] at hx132_4); (try rw [Addr.add_zero'] at hx132_4); replace hx132_0 := BD HB.out hx132_0; replace hx132_1 := BD HB.out hx132_1; replace hx132_2 := BD HB.out hx132_2; replace hx132_3 := BD HB.out hx132_3; replace hx132_4 := BD HB.out hx132_4; replace p132 := eq_true p132; replace q132 := eq_true q132; have p135 : 0 ≤ (x3_1 : Int) := DT; have q135 : x3_1 < (l0_0.length : Int) := DT; obtain ⟨ad135, A135_0, c135_0, e135, hx135_0, hl135_0, hi135_0⟩ := at_L11 HR0_0.out x3_1 p135 q135; obtain rfl : ad129 = ad135 := (by injection e135); replace hx135_0 := BD HB.out hx135_0; have HR135_0 := AM_ hi135_0; have HC135_0 := AM_ hl135_0; clear hi135_0 hl135_0; replace p135 := eq_true p135; replace q135 := eq_true q135; have ea_ := Option.some.inj (hx131_0.symm.trans hx135_0); injection ea_ with ea_ en_ ec_; subst ea_; subst ec_; clear en_))
     go_ret
     exact QT (BT HB.out)
    rw [if_neg c16] at H
    have c16b0 : decide (50 < ((rd_L11 l0_0 x3_1).length : Int)) = false := decide_eq_false c16
    have c16b1 : decide (50 < (rd_L11 l0_0 x3_1).length) = false := decide_eq_false (by omega)
    clear c16
    have H' := AM_ H
    clear H
    obtain ⟨hcz20_0, hfz20_0⟩ := bk1 BK128.out
    have p129 : 0 ≤ (x3_1 : Int) := DT
    have q129 : x3_1 < (l0_0.length : Int) := DT
    obtain ⟨ad129, A129_0, c129_0, e129, hx129_0, hl129_0, hi129_0⟩ := at_L11 HR0_0.out x3_1 p129 q129
    cases e129
    replace hx129_0 := BC HB.out hx129_0
    have HR129_0 := AM_ hi129_0
    have HC129_0 := AM_ hl129_0
    clear hi129_0 hl129_0
    replace p129 := eq_true p129
    replace q129 := eq_true q129
    go_wp2_with (first | ((with_reducible refine G1 64 rfl ?_); refine GC (some 16) Try.func64 #[.slice A129_0 (rd_L11 l0_0 x3_1).length c129_0] ?_; (with_reducible refine MB (spec_IsValidChain.calls k1 _ _ (rd_L11 l0_0 x3_1) true _ (CC HR129_0 HB) HC129_0.out A5.out) ?_); intro w21 hb; replace BK128 := BV BK128 hb; replace HB := BW HB hb; (try clear hb); obtain ⟨hcz22_0, hfz22_0⟩ := bk1 BK128.out; have p131 : 0 ≤ (x3_1 : Int) := DT; have q131 : x3_1 < (l0_0.length : Int) := DT; obtain ⟨ad131, A131_0, c131_0, e131, hx131_0, hl131_0, hi131_0⟩ := at_L11 HR0_0.out x3_1 p131 q131; obtain rfl : ad129 = ad131 := (by injection e131); replace hx131_0 := BD HB.out hx131_0; have HR131_0 := AM_ hi131_0; have HC131_0 := AM_ hl131_0; clear hi131_0 hl131_0; replace p131 := eq_true p131; replace q131 := eq_true q131; have p132 : 0 ≤ (0 : Int) := (by omega); have q132 : 0 < ((rd_L11 l0_0 x3_1).length : Int) := DT; obtain ⟨ad132, e132, hx132_0, hx132_1, hx132_2, hx132_3, hx132_4⟩ := at_T52 HR131_0.out 0 p132 q132; cases e132; have qi132 : (0 < (rd_L11 l0_0 x3_1).length) = True := eq_true (by omega); (try rw [show ((0 : Int)).toNat = 0 from rfl] at hx132_0); (try rw [show 0 * 5 = 0 from rfl] at hx132_0); (try rw [Addr.add_zero'] at hx132_0); (try rw [show ((0 : Int)).toNat = 0 from rfl] at hx132_1); (try rw [show 0 * 5 = 0 from rfl] at hx132_1); (try rw [Addr.add_zero'] at hx132_1); (try rw [show ((0 : Int)).toNat = 0 from rfl] at hx132_2); (try rw [show 0 * 5 = 0 from rfl] at hx132_2); (try rw [Addr.add_zero'] at hx132_2); (try rw [show ((0 : Int)).toNat = 0 from rfl] at hx132_3); (try rw [show 0 * 5 = 0 from rfl] at hx132_3); (try rw [Addr.add_zero'] at hx132_3); (try rw [show ((0 : Int)).toNat = 0 from rfl] at hx132_4); (try rw [show 0 * 5 = 0 from rfl] at hx132_4); (try rw [Addr.add_zero'] at hx132_4); replace hx132_0 := BD HB.out hx132_0; replace hx132_1 := BD HB.out hx132_1; replace hx132_2 := BD HB.out hx132_2; replace hx132_3 := BD HB.out hx132_3; replace hx132_4 := BD HB.out hx132_4; replace p132 := eq_true p132; replace q132 := eq_true q132; have p135 : 0 ≤ (x3_1 : Int) := DT; have q135 : x3_1 < (l0_0.length : Int) := DT; obtain ⟨ad135, A135_0, c135_0, e135, hx135_0, hl135_0, hi135_0⟩ := at_L11 HR0_0.out x3_1 p135 q135; obtain rfl : ad129 = ad135 := (by injection e135); replace hx135_0 := BD HB.out hx135_0; have HR135_0 := AM_ hi135_0; have HC135_0 := AM_ hl135_0; clear hi135_0 hl135_0; replace p135 := eq_true p135; replace q135 := eq_true q135; have ea_ := Option.some.inj (hx131_0.symm.trans hx135_0); injection ea_ with ea_ en_ ec_; subst ea_; subst ec_; clear en_))
    go_roundg k1
    case measure => have := HK1.out; omega
    case rel => exact ⟨(wrap64 (x3_1 + 1)), (by first | rfl | (simp; done) | (simp [*]; done)), H', ⟨by have := HK1.out; omega⟩, ⟨BH BK128.out⟩, ⟨BT HB.out⟩⟩
   rw [if_pos c8] at H
   have c8b0 : decide (0 < ((rd_T52 (rd_L11 l0_0 x3_1) 0).f2)) = true := decide_eq_true c8
   clear c8
   by_cases c9 : ((rd_L11 l0_0 x3_1).length : Int) > 50
   ·rw [if_pos c9] at H
    have c9b0 : decide (50 < ((rd_L11 l0_0 x3_1).length : Int)) = true := decide_eq_true c9
    have c9b1 : decide (50 < (rd_L11 l0_0 x3_1).length) = true := decide_eq_true (by omega)
    clear c9
    obtain rfl := Option.some.inj H
    obtain ⟨hcz10_0, hfz10_0⟩ := bk1 BK128.out
    have p129 : 0 ≤ (x3_1 : Int) := DT
    have q129 : x3_1 < (l0_0.length : Int) := DT
    obtain ⟨ad129, A129_0, c129_0, e129, hx129_0, hl129_0, hi129_0⟩ := at_L11 HR0_0.out x3_1 p129 q129
    cases e129
    replace hx129_0 := BC HB.out hx129_0
    have HR129_0 := AM_ hi129_0
    have HC129_0 := AM_ hl129_0
    clear hi129_0 hl129_0
    replace p129 := eq_true p129
    replace q129 := eq_true q129
    go_wp2_with (first | ((with_reducible refine G1 64 rfl ?_); refine GC (some 16) Try.func64 #[.slice A129_0 (rd_L11 l0_0 x3_1).length c129_0] ?_; (with_reducible refine MB (spec_IsValidChain.calls k1 _ _ (rd_L11 l0_0 x3_1) true _ (CC HR129_0 HB) HC129_0.out A5.out) ?_); intro w11 hb; replace BK128 := BV BK128 hb; replace HB := BW HB hb; (try clear hb); obtain ⟨hcz12_0, hfz12_0⟩ := bk1 BK128.out; have p131 : 0 ≤ (x3_1 : Int) := DT; have q131 : x3_1 < (l0_0.length : Int) := DT; obtain ⟨ad131, A131_0, c131_0, e131, hx131_0, hl131_0, hi131_0⟩ := at_L11 HR0_0.out x3_1 p131 q131; obtain rfl : ad129 = ad131 := (by injection e131); replace hx131_0 := BD HB.out hx131_0; have HR131_0 := AM_ hi131_0; have HC131_0 := AM_ hl131_0; clear hi131_0 hl131_0; replace p131 := eq_true p131; replace q131 := eq_true q131; have p132 : 0 ≤ (0 : Int) := (by omega); have q132 : 0 < ((rd_L11 l0_0 x3_1).length : Int) := DT; obtain ⟨ad132, e132, hx132_0, hx132_1, hx132_2, hx132_3, hx132_4⟩ := at_T52 HR131_0.out 0 p132 q132; cases e132; have qi132 : (0 < (rd_L11 l0_0 x3_1).length) = True := eq_true (by omega); (try rw [show ((0 : Int)).toNat = 0 from rfl] at hx132_0); (try rw [show 0 * 5 = 0 from rfl] at hx132_0); (try rw [Addr.add_zero'] at hx132_0); (try rw [show ((0 : Int)).toNat = 0 from rfl] at hx132_1); (try rw [show 0 * 5 = 0 from rfl] at hx132_1); (try rw [Addr.add_zero'] at hx132_1); (try rw [show ((0 : Int)).toNat = 0 from rfl] at hx132_2); (try rw [show 0 * 5 = 0 from rfl] at hx132_2); (try rw [Addr.add_zero'] at hx132_2); (try rw [show ((0 : Int)).toNat = 0 from rfl] at hx132_3); (try rw [show 0 * 5 = 0 from rfl] at hx132_3); (try rw [Addr.add_zero'] at hx132_3); (try rw [show ((0 : Int)).toNat = 0 from rfl] at hx132_4); (try rw [show 0 * 5 = 0 from rfl] at hx132_4); (try rw [Addr.add_zero'] at hx132_4); replace hx132_0 := BD HB.out hx132_0; replace hx132_1 := BD HB.out hx132_1; replace hx132_2 := BD HB.out hx132_2; replace hx132_3 := BD HB.out hx132_3; replace hx132_4 := BD HB.out hx132_4; replace p132 := eq_true p132; replace q132 := eq_true q132; have p133 : 0 ≤ (x3_1 : Int) := DT; have q133 : x3_1 < (l0_0.length : Int) := DT; obtain ⟨ad133, A133_0, c133_0, e133, hx133_0, hl133_0, hi133_0⟩ := at_L11 HR0_0.out x3_1 p133 q133; obtain rfl : ad129 = ad133 := (by injection e133); replace hx133_0 := BD HB.out hx133_0; have HR133_0 := AM_ hi133_0; have HC133_0 := AM_ hl133_0; clear hi133_0 hl133_0; replace p133 := eq_true p133; replace q133 := eq_true q133; have ea_ := Option.some.inj (hx131_0.symm.trans hx133_0); injection ea_ with ea_ en_ ec_; subst ea_; subst ec_; clear en_))
    go_ret
    exact QT (BT HB.out)
   rw [if_neg c9] at H
   have c9b0 : decide (50 < ((rd_L11 l0_0 x3_1).length : Int)) = false := decide_eq_false c9
   have c9b1 : decide (50 < (rd_L11 l0_0 x3_1).length) = false := decide_eq_false (by omega)
   clear c9
   have H' := AM_ H
   clear H
   obtain ⟨hcz13_0, hfz13_0⟩ := bk1 BK128.out
   have p129 : 0 ≤ (x3_1 : Int) := DT
   have q129 : x3_1 < (l0_0.length : Int) := DT
   obtain ⟨ad129, A129_0, c129_0, e129, hx129_0, hl129_0, hi129_0⟩ := at_L11 HR0_0.out x3_1 p129 q129
   cases e129
   replace hx129_0 := BC HB.out hx129_0
   have HR129_0 := AM_ hi129_0
   have HC129_0 := AM_ hl129_0
   clear hi129_0 hl129_0
   replace p129 := eq_true p129
   replace q129 := eq_true q129
   go_wp2_with (first | ((with_reducible refine G1 64 rfl ?_); refine GC (some 16) Try.func64 #[.slice A129_0 (rd_L11 l0_0 x3_1).length c129_0] ?_; (with_reducible refine MB (spec_IsValidChain.calls k1 _ _ (rd_L11 l0_0 x3_1) true _ (CC HR129_0 HB) HC129_0.out A5.out) ?_); intro w14 hb; replace BK128 := BV BK128 hb; replace HB := BW HB hb; (try clear hb); obtain ⟨hcz15_0, hfz15_0⟩ := bk1 BK128.out; have p131 : 0 ≤ (x3_1 : Int) := DT; have q131 : x3_1 < (l0_0.length : Int) := DT; obtain ⟨ad131, A131_0, c131_0, e131, hx131_0, hl131_0, hi131_0⟩ := at_L11 HR0_0.out x3_1 p131 q131; obtain rfl : ad129 = ad131 := (by injection e131); replace hx131_0 := BD HB.out hx131_0; have HR131_0 := AM_ hi131_0; have HC131_0 := AM_ hl131_0; clear hi131_0 hl131_0; replace p131 := eq_true p131; replace q131 := eq_true q131; have p132 : 0 ≤ (0 : Int) := (by omega); have q132 : 0 < ((rd_L11 l0_0 x3_1).length : Int) := DT; obtain ⟨ad132, e132, hx132_0, hx132_1, hx132_2, hx132_3, hx132_4⟩ := at_T52 HR131_0.out 0 p132 q132; cases e132; have qi132 : (0 < (rd_L11 l0_0 x3_1).length) = True := eq_true (by omega); (try rw [show ((0 : Int)).toNat = 0 from rfl] at hx132_0); (try rw [show 0 * 5 = 0 from rfl] at hx132_0); (try rw [Addr.add_zero'] at hx132_0); (try rw [show ((0 : Int)).toNat = 0 from rfl] at hx132_1); (try rw [show 0 * 5 = 0 from rfl] at hx132_1); (try rw [Addr.add_zero'] at hx132_1); (try rw [show ((0 : Int)).toNat = 0 from rfl] at hx132_2); (try rw [show 0 * 5 = 0 from rfl] at hx132_2); (try rw [Addr.add_zero'] at hx132_2); (try rw [show ((0 : Int)).toNat = 0 from rfl] at hx132_3); (try rw [show 0 * 5 = 0 from rfl] at hx132_3); (try rw [Addr.add_zero'] at hx132_3); (try rw [show ((0 : Int)).toNat = 0 from rfl] at hx132_4); (try rw [show 0 * 5 = 0 from rfl] at hx132_4); (try rw [Addr.add_zero'] at hx132_4); replace hx132_0 := BD HB.out hx132_0; replace hx132_1 := BD HB.out hx132_1; replace hx132_2 := BD HB.out hx132_2; replace hx132_3 := BD HB.out hx132_3; replace hx132_4 := BD HB.out hx132_4; replace p132 := eq_true p132; replace q132 := eq_true q132; have p133 : 0 ≤ (x3_1 : Int) := DT; have q133 : x3_1 < (l0_0.length : Int) := DT; obtain ⟨ad133, A133_0, c133_0, e133, hx133_0, hl133_0, hi133_0⟩ := at_L11 HR0_0.out x3_1 p133 q133; obtain rfl : ad129 = ad133 := (by injection e133); replace hx133_0 := BD HB.out hx133_0; have HR133_0 := AM_ hi133_0; have HC133_0 := AM_ hl133_0; clear hi133_0 hl133_0; replace p133 := eq_true p133; replace q133 := eq_true q133; have ea_ := Option.some.inj (hx131_0.symm.trans hx133_0); injection ea_ with ea_ en_ ec_; subst ea_; subst ec_; clear en_; have p134 : 0 ≤ (x3_1 : Int) := DT; have q134 : x3_1 < (l0_0.length : Int) := DT; obtain ⟨ad134, A134_0, c134_0, e134, hx134_0, hl134_0, hi134_0⟩ := at_L11 HR0_0.out x3_1 p134 q134; obtain rfl : ad129 = ad134 := (by injection e134); replace hx134_0 := BD HB.out hx134_0; have HR134_0 := AM_ hi134_0; have HC134_0 := AM_ hl134_0; clear hi134_0 hl134_0; replace p134 := eq_true p134; replace q134 := eq_true q134; have ea_ := Option.some.inj (hx131_0.symm.trans hx134_0); injection ea_ with ea_ en_ ec_; subst ea_; subst ec_; clear en_))
   go_roundg k1
   case measure => have := HK1.out; omega
   case rel => exact ⟨(wrap64 (x3_1 + 1)), (by first | rfl | (simp; done) | (simp [*]; done)), H', ⟨by have := HK1.out; omega⟩, ⟨BH BK128.out⟩, ⟨BT HB.out⟩⟩

end Go.Proofs.Ytdgknikgfjhohaa.PFnExactIsValidEngine
