-- Printed by a program of mine (wip/myprint.py), which runs the printer of the kit with contracts of mine beside it.
import Derived.Test.YtakpkmlbklahhaaPFnExactChooseVersionx0
import Derived.Test.YtakpkmlbklahhaaPFnExactChooseVersionx4
namespace Go.Proofs.Ytakpkmlbklahhaa.PFnExactChooseVersion
open Go.RowKit Go.Proofs.YtakpkmlbklahhaaW.PrintWords Go.Proofs.YtakpkmlbklahhaaW.PrintLast Go.Proofs.YtakpkmlbklahhaaW.PrintMore
attribute [local go_sem] max2_int min2_int max_two min_two max_three min_three max_four min_four   -- for this text's walks alone
set_option linter.unusedVariables false
set_option linter.unusedSimpArgs false

/-! ### spec_IsValidVersion: function 194 -/
def spec_IsValidVersion.j0 : Nat → Bool → Int → Int → Int → Int → Int → Option (Bool)
 | 0, _, _, _, _, _, _ => none
 | k + 1, x26, x190000, x190001, x190002, x190003, x190004 => if x26 = true then (some false) else (if x190002 = 0 then (if x190000 = 0 then (some (x190001 == (-1))) else (some false)) else ((spec_l1In.f x190000 1 9).bind fun t194 => (some t194)))
def spec_IsValidVersion.f (k : Nat) (a0_0 : Int) (a0_1 : Int) (a0_2 : Int) (a0_3 : Int) (a0_4 : Int) : Option (Bool) := (spec_l1In.f a0_1 (-1) 99).bind fun t190 => (if t190 = true then ((spec_l1In.f a0_2 0 999).bind fun t191 => (if t191 = true then ((spec_l1In.f a0_3 a0_2 999).bind fun t192 => (if t192 = true then ((spec_l1In.f a0_4 1 1000).bind fun t193 => (spec_IsValidVersion.j0 k (!t193) a0_0 a0_1 a0_2 a0_3 a0_4)) else (spec_IsValidVersion.j0 k true a0_0 a0_1 a0_2 a0_3 a0_4))) else (spec_IsValidVersion.j0 k true a0_0 a0_1 a0_2 a0_3 a0_4))) else (spec_IsValidVersion.j0 k true a0_0 a0_1 a0_2 a0_3 a0_4))
theorem spec_IsValidVersion.mono_l : ∀ k, (∀ y0 y1 y2 y3 y4 y5, LeO (spec_IsValidVersion.j0 k y0 y1 y2 y3 y4 y5) (spec_IsValidVersion.j0 (k + 1) y0 y1 y2 y3 y4 y5))
 | 0 => fun _ _ _ _ _ _ r h => by simp [spec_IsValidVersion.j0] at h
 | k + 1 => by
  have ih0 := spec_IsValidVersion.mono_l k
  ·intro y0 y1 y2 y3 y4 y5
   unfold spec_IsValidVersion.j0
   repeat' first
   | (with_reducible exact ih0 _ _ _ _ _ _)
   | (with_reducible exact LeO.refl _)
   | (with_reducible exact LeO.none _)
   | (with_reducible refine LeO.ite ?_ ?_)
   | (with_reducible refine LeO.bind ?_ (fun _ => ?_))
   | exact ih0 _ _ _ _ _ _
   | exact LeO.none _
   | refine LeO.ite ?_ ?_
   | refine LeO.bind ?_ (fun _ => ?_)
theorem spec_IsValidVersion.mono : ∀ a0 a1 a2 a3 a4 k, LeO (spec_IsValidVersion.f k a0 a1 a2 a3 a4) (spec_IsValidVersion.f (k + 1) a0 a1 a2 a3 a4) := by
 intro a0 a1 a2 a3 a4 k
 have ih0 := spec_IsValidVersion.mono_l k
 unfold spec_IsValidVersion.f
 repeat' first
   | (with_reducible exact ih0 _ _ _ _ _ _)
   | (with_reducible exact LeO.refl _)
   | (with_reducible exact LeO.none _)
   | (with_reducible refine LeO.ite ?_ ?_)
   | (with_reducible refine LeO.bind ?_ (fun _ => ?_))
   | exact ih0 _ _ _ _ _ _
   | exact LeO.none _
   | refine LeO.ite ?_ ?_
   | refine LeO.bind ?_ (fun _ => ?_)
set_option maxHeartbeats 8000000 in
set_option maxRecDepth 100000 in
theorem spec_IsValidVersion.calls (k : Nat) (a0_0 : Int) (a0_1 : Int) (a0_2 : Int) (a0_3 : Int) (a0_4 : Int) (r : Bool) (w : World) (h : spec_IsValidVersion.f k a0_0 a0_1 a0_2 a0_3 a0_4 = some r) :
  Calls Try.prog 194 #[.agg #[.int .i64 a0_0, .int .i64 a0_1, .int .i64 a0_2, .int .i64 a0_3, .int .i64 a0_4]] w fun e w' => e = .returned (.bool r) ∧ Below w.heap.size w w' := by
 have hu76 := Try.underlying76
 have HB := AM_ (Below.refl w.heap.size w)
 have H : ((spec_l1In.f a0_1 (-1) 99).bind fun t190 => (if t190 = true then ((spec_l1In.f a0_2 0 999).bind fun t191 => (if t191 = true then ((spec_l1In.f a0_3 a0_2 999).bind fun t192 => (if t192 = true then ((spec_l1In.f a0_4 1 1000).bind fun t193 => (spec_IsValidVersion.j0 k (!t193) a0_0 a0_1 a0_2 a0_3 a0_4)) else (spec_IsValidVersion.j0 k true a0_0 a0_1 a0_2 a0_3 a0_4))) else (spec_IsValidVersion.j0 k true a0_0 a0_1 a0_2 a0_3 a0_4))) else (spec_IsValidVersion.j0 k true a0_0 a0_1 a0_2 a0_3 a0_4))) = some r := h
 clear h
 have HC2 := AM_ H
 clear H
 go_enter Try.func194, Try.ntmps194
 go_upto_region 1 with (first | ((with_reducible refine gate_dst (N := 1) rfl ?_); refine box_event ?hg (N := 1) ?hd (cs := #[.int .i64 a0_0, .int .i64 a0_1, .int .i64 a0_2, .int .i64 a0_3, .int .i64 a0_4]) (t := 76) ?hr ?_; (case hd => rfl); (case hg => rfl); (case hr => first | (go_simp; done) | (go_simp; rfl)); intro gb189 hg w3 hbox hb; have n0_ := AM_ (below_step (BT HB.out) hb); have n1_ := AM_ (hbox); have n2_ := AM_ ((GS HB.out hg)); have n3_ := AM_ ((GS HB.out hg)); clear HB; have HB := n0_; have BK189 := n1_; have GW189 := n2_; have GE189 := n3_; clear n0_ n1_ n2_ n3_; clear hb hbox hg))
 (try simp only [pA, pS, pZ, pK])
 go_cut [26] (fun v26 wc => ∃ (kq : Nat) (x26_1 : Bool), v26 = .bool x26_1 ∧ Aside0 (spec_IsValidVersion.j0 kq x26_1 a0_0 a0_1 a0_2 a0_3 a0_4 = some r) ∧ Aside0 (kq ≤ k) ∧ Aside0 (wc.heap[gb189]? = some (.cells #[.int .i64 a0_0, .int .i64 a0_1, .int .i64 a0_2, .int .i64 a0_3, .int .i64 a0_4] 76 (0, 0))) ∧ Aside0 (Below w.heap.size w wc))
 case first =>
  have H := HC2.out
  clear HC2
  replace H := Option.bind_eq_some_iff.mp H
  obtain ⟨t190, A40, H⟩ := H
  replace H : (if t190 = true then ((spec_l1In.f a0_2 0 999).bind fun t191 => (if t191 = true then ((spec_l1In.f a0_3 a0_2 999).bind fun t192 => (if t192 = true then ((spec_l1In.f a0_4 1 1000).bind fun t193 => (spec_IsValidVersion.j0 k (!t193) a0_0 a0_1 a0_2 a0_3 a0_4)) else (spec_IsValidVersion.j0 k true a0_0 a0_1 a0_2 a0_3 a0_4))) else (spec_IsValidVersion.j0 k true a0_0 a0_1 a0_2 a0_3 a0_4))) else (spec_IsValidVersion.j0 k true a0_0 a0_1 a0_2 a0_3 a0_4)) = some r := H
  have A4 := AM_ A40
  clear A40
  by_cases c5 : t190 = true
  rotate_left
  ·replace c5 := Bool.eq_false_iff.mpr c5
   subst c5
   have H1 : (spec_IsValidVersion.j0 k true a0_0 a0_1 a0_2 a0_3 a0_4) = some r := by rw [if_neg (show ¬ (false = true) by decide)] at H; exact H
   clear H
   have H := H1
   clear H1
   have H' := AM_ H
   clear H
   obtain ⟨hcz14_0, hcz14_1, hcz14_2, hcz14_3, hcz14_4, hfz14_0, hfz14_1, hfz14_2, hfz14_3, hfz14_4⟩ := bk5 BK189.out
   go_wp2_with (first | ((with_reducible refine gate_callee (f := 82) rfl ?_); refine goesL_ (some 5) rfl rfl Try.func82 (by kernel_rfl) rfl #[.int .i64 a0_1, .int .i64 (-1), .int .i64 99] rfl (by (try simp only [List.map_toArray, List.map_cons, List.map_nil]); first | done | rfl | (simp only [List.length_drop, List.length_take]; rfl)) ?_; (with_reducible refine (spec_l1In.calls a0_1 (-1) 99 false _ A4.out).mono ?_); rintro e w' ⟨rfl, ⟨nd, rfl⟩⟩; refine ⟨_, rfl, ?_⟩))
   go_meet
   case rel => exact ⟨_, (true), (by first | rfl | (simp; done) | (simp [*]; done)), H', ⟨by first | omega | exact Nat.le_refl _⟩, ⟨BH BK189.out⟩, ⟨BT HB.out⟩⟩
  subst c5
  have H1 : ((spec_l1In.f a0_2 0 999).bind fun t191 => (if t191 = true then ((spec_l1In.f a0_3 a0_2 999).bind fun t192 => (if t192 = true then ((spec_l1In.f a0_4 1 1000).bind fun t193 => (spec_IsValidVersion.j0 k (!t193) a0_0 a0_1 a0_2 a0_3 a0_4)) else (spec_IsValidVersion.j0 k true a0_0 a0_1 a0_2 a0_3 a0_4))) else (spec_IsValidVersion.j0 k true a0_0 a0_1 a0_2 a0_3 a0_4))) = some r := by rw [if_pos rfl] at H; exact H
  clear H
  have H := H1
  clear H1
  replace H := Option.bind_eq_some_iff.mp H
  obtain ⟨t191, A60, H⟩ := H
  replace H : (if t191 = true then ((spec_l1In.f a0_3 a0_2 999).bind fun t192 => (if t192 = true then ((spec_l1In.f a0_4 1 1000).bind fun t193 => (spec_IsValidVersion.j0 k (!t193) a0_0 a0_1 a0_2 a0_3 a0_4)) else (spec_IsValidVersion.j0 k true a0_0 a0_1 a0_2 a0_3 a0_4))) else (spec_IsValidVersion.j0 k true a0_0 a0_1 a0_2 a0_3 a0_4)) = some r := H
  have A6 := AM_ A60
  clear A60
  by_cases c7 : t191 = true
  rotate_left
  ·replace c7 := Bool.eq_false_iff.mpr c7
   subst c7
   have H1 : (spec_IsValidVersion.j0 k true a0_0 a0_1 a0_2 a0_3 a0_4) = some r := by rw [if_neg (show ¬ (false = true) by decide)] at H; exact H
   clear H
   have H := H1
   clear H1
   have H' := AM_ H
   clear H
   obtain ⟨hcz13_0, hcz13_1, hcz13_2, hcz13_3, hcz13_4, hfz13_0, hfz13_1, hfz13_2, hfz13_3, hfz13_4⟩ := bk5 BK189.out
   go_wp2_with (first | ((with_reducible refine gate_callee (f := 82) rfl ?_); refine goesL_ (some 5) rfl rfl Try.func82 (by kernel_rfl) rfl #[.int .i64 a0_1, .int .i64 (-1), .int .i64 99] rfl (by (try simp only [List.map_toArray, List.map_cons, List.map_nil]); first | done | rfl | (simp only [List.length_drop, List.length_take]; rfl)) ?_; (with_reducible refine (spec_l1In.calls a0_1 (-1) 99 true _ A4.out).mono ?_); rintro e w' ⟨rfl, ⟨nd, rfl⟩⟩; refine ⟨_, rfl, ?_⟩) | (go_at_call 82; (with_reducible refine (spec_l1In.calls a0_2 0 999 false _ A6.out).mono ?_); rintro e w' ⟨rfl, ⟨nd, rfl⟩⟩))
   go_meet
   case rel => exact ⟨_, (true), (by first | rfl | (simp; done) | (simp [*]; done)), H', ⟨by first | omega | exact Nat.le_refl _⟩, ⟨BH BK189.out⟩, ⟨BT HB.out⟩⟩
  subst c7
  have H1 : ((spec_l1In.f a0_3 a0_2 999).bind fun t192 => (if t192 = true then ((spec_l1In.f a0_4 1 1000).bind fun t193 => (spec_IsValidVersion.j0 k (!t193) a0_0 a0_1 a0_2 a0_3 a0_4)) else (spec_IsValidVersion.j0 k true a0_0 a0_1 a0_2 a0_3 a0_4))) = some r := by rw [if_pos rfl] at H; exact H
  clear H
  have H := H1
  clear H1
  replace H := Option.bind_eq_some_iff.mp H
  obtain ⟨t192, A80, H⟩ := H
  replace H : (if t192 = true then ((spec_l1In.f a0_4 1 1000).bind fun t193 => (spec_IsValidVersion.j0 k (!t193) a0_0 a0_1 a0_2 a0_3 a0_4)) else (spec_IsValidVersion.j0 k true a0_0 a0_1 a0_2 a0_3 a0_4)) = some r := H
  have A8 := AM_ A80
  clear A80
  by_cases c9 : t192 = true
  rotate_left
  ·replace c9 := Bool.eq_false_iff.mpr c9
   subst c9
   have H1 : (spec_IsValidVersion.j0 k true a0_0 a0_1 a0_2 a0_3 a0_4) = some r := by rw [if_neg (show ¬ (false = true) by decide)] at H; exact H
   clear H
   have H := H1
   clear H1
   have H' := AM_ H
   clear H
   obtain ⟨hcz12_0, hcz12_1, hcz12_2, hcz12_3, hcz12_4, hfz12_0, hfz12_1, hfz12_2, hfz12_3, hfz12_4⟩ := bk5 BK189.out
   go_wp2_with (first | ((with_reducible refine gate_callee (f := 82) rfl ?_); refine goesL_ (some 5) rfl rfl Try.func82 (by kernel_rfl) rfl #[.int .i64 a0_1, .int .i64 (-1), .int .i64 99] rfl (by (try simp only [List.map_toArray, List.map_cons, List.map_nil]); first | done | rfl | (simp only [List.length_drop, List.length_take]; rfl)) ?_; (with_reducible refine (spec_l1In.calls a0_1 (-1) 99 true _ A4.out).mono ?_); rintro e w' ⟨rfl, ⟨nd, rfl⟩⟩; refine ⟨_, rfl, ?_⟩) | (go_at_call 82; (with_reducible refine (spec_l1In.calls a0_2 0 999 true _ A6.out).mono ?_); rintro e w' ⟨rfl, ⟨nd, rfl⟩⟩) | (go_at_call 82; (with_reducible refine (spec_l1In.calls a0_3 a0_2 999 false _ A8.out).mono ?_); rintro e w' ⟨rfl, ⟨nd, rfl⟩⟩))
   go_meet
   case rel => exact ⟨_, (true), (by first | rfl | (simp; done) | (simp [*]; done)), H', ⟨by first | omega | exact Nat.le_refl _⟩, ⟨BH BK189.out⟩, ⟨BT HB.out⟩⟩
  subst c9
  have H1 : ((spec_l1In.f a0_4 1 1000).bind fun t193 => (spec_IsValidVersion.j0 k (!t193) a0_0 a0_1 a0_2 a0_3 a0_4)) = some r := by rw [if_pos rfl] at H; exact H
  clear H
  have H := H1
  clear H1
  replace H := Option.bind_eq_some_iff.mp H
  obtain ⟨t193, A100, H⟩ := H
  replace H : (spec_IsValidVersion.j0 k (!t193) a0_0 a0_1 a0_2 a0_3 a0_4) = some r := H
  have A10 := AM_ A100
  clear A100
  have H' := AM_ H
  clear H
  obtain ⟨hcz11_0, hcz11_1, hcz11_2, hcz11_3, hcz11_4, hfz11_0, hfz11_1, hfz11_2, hfz11_3, hfz11_4⟩ := bk5 BK189.out
  go_wp2_with (first | ((with_reducible refine gate_callee (f := 82) rfl ?_); refine goesL_ (some 5) rfl rfl Try.func82 (by kernel_rfl) rfl #[.int .i64 a0_1, .int .i64 (-1), .int .i64 99] rfl (by (try simp only [List.map_toArray, List.map_cons, List.map_nil]); first | done | rfl | (simp only [List.length_drop, List.length_take]; rfl)) ?_; (with_reducible refine (spec_l1In.calls a0_1 (-1) 99 true _ A4.out).mono ?_); rintro e w' ⟨rfl, ⟨nd, rfl⟩⟩; refine ⟨_, rfl, ?_⟩) | (go_at_call 82; (with_reducible refine (spec_l1In.calls a0_2 0 999 true _ A6.out).mono ?_); rintro e w' ⟨rfl, ⟨nd, rfl⟩⟩) | (go_at_call 82; (with_reducible refine (spec_l1In.calls a0_3 a0_2 999 true _ A8.out).mono ?_); rintro e w' ⟨rfl, ⟨nd, rfl⟩⟩) | (go_at_call 82; (with_reducible refine (spec_l1In.calls a0_4 1 1000 t193 _ A10.out).mono ?_); rintro e w' ⟨rfl, ⟨nd, rfl⟩⟩))
  go_meet
  case rel => exact ⟨_, (!t193), (by first | rfl | (simp; done) | (simp [*]; done)), H', ⟨by first | omega | exact Nat.le_refl _⟩, ⟨BH BK189.out⟩, ⟨BT HB.out⟩⟩
 case rest =>
  clear HC2
  try clear c1
  try clear p2
  try clear c5
  try clear c7
  try clear c8
  try clear c9
  try clear hcz11_0
  try clear hcz11_1
  try clear hcz11_2
  try clear hcz11_3
  try clear hcz11_4
  try clear hcz12_0
  try clear hcz12_1
  try clear hcz12_2
  try clear hcz12_3
  try clear hcz12_4
  try clear hcz13_0
  try clear hcz13_1
  try clear hcz13_2
  try clear hcz13_3
  try clear hcz13_4
  try clear hcz14_0
  try clear hcz14_1
  try clear hcz14_2
  try clear hcz14_3
  try clear hcz14_4
  try clear hfz11_0
  try clear hfz11_1
  try clear hfz11_2
  try clear hfz11_3
  try clear hfz11_4
  try clear hfz12_0
  try clear hfz12_1
  try clear hfz12_2
  try clear hfz12_3
  try clear hfz12_4
  try clear hfz13_0
  try clear hfz13_1
  try clear hfz13_2
  try clear hfz13_3
  try clear hfz13_4
  try clear hfz14_0
  try clear hfz14_1
  try clear hfz14_2
  try clear hfz14_3
  try clear hfz14_4
  obtain ⟨kq, x26_1, rfl, HA, HJ1, BK189, HB⟩ := hcut
  cases kq with
  | zero => exact absurd HA.out (by simp [spec_IsValidVersion.j0])
  | succ kj1 =>
   have H := HA.out
   clear HA
   simp only [spec_IsValidVersion.j0] at H
   by_cases c15 : x26_1 = true
   ·subst c15
    have H1 : (some false) = some r := by rw [if_pos rfl] at H; exact H
    clear H
    have H := H1
    clear H1
    obtain rfl := Option.some.inj H
    go_wp2
    go_ret
    exact QT (BT HB.out)
   replace c15 := Bool.eq_false_iff.mpr c15
   subst c15
   have H1 : (if a0_2 = 0 then (if a0_0 = 0 then (some (a0_1 == (-1))) else (some false)) else ((spec_l1In.f a0_0 1 9).bind fun t194 => (some t194))) = some r := by rw [if_neg (show ¬ (false = true) by decide)] at H; exact H
   clear H
   have H := H1
   clear H1
   by_cases c16 : a0_2 = 0
   rotate_left
   ·rw [if_neg c16] at H
    have c16b0 : (a0_2 == 0) = false := beq_eq_false_iff_ne.mpr c16
    have c16b1 : (a0_2 != 0) = true := bne_iff_ne.mpr c16
    replace H := Option.bind_eq_some_iff.mp H
    obtain ⟨t194, A200, H⟩ := H
    replace H : (some t194) = some r := H
    have A20 := AM_ A200
    clear A200
    obtain rfl := Option.some.inj H
    obtain ⟨hcz21_0, hcz21_1, hcz21_2, hcz21_3, hcz21_4, hfz21_0, hfz21_1, hfz21_2, hfz21_3, hfz21_4⟩ := bk5 BK189.out
    go_wp2_with (first | ((with_reducible refine gate_callee (f := 82) rfl ?_); refine goesL_ (some 40) rfl rfl Try.func82 (by kernel_rfl) rfl #[.int .i64 a0_0, .int .i64 1, .int .i64 9] rfl (by (try simp only [List.map_toArray, List.map_cons, List.map_nil]); first | done | rfl | (simp only [List.length_drop, List.length_take]; rfl)) ?_; (with_reducible refine (spec_l1In.calls a0_0 1 9 t194 _ A20.out).mono ?_); rintro e w' ⟨rfl, ⟨nd, rfl⟩⟩; refine ⟨_, rfl, ?_⟩))
    go_ret
    exact QT (BT HB.out)
   rw [if_pos c16] at H
   have c16b0 : (a0_2 == 0) = true := beq_iff_eq.mpr c16
   have c16b1 : (a0_2 != 0) = false := bne_eq_false_iff_eq.mpr c16
   clear c16
   by_cases c17 : a0_0 = 0
   rotate_left
   ·rw [if_neg c17] at H
    have c17b0 : (a0_0 == 0) = false := beq_eq_false_iff_ne.mpr c17
    have c17b1 : (a0_0 != 0) = true := bne_iff_ne.mpr c17
    obtain rfl := Option.some.inj H
    obtain ⟨hcz19_0, hcz19_1, hcz19_2, hcz19_3, hcz19_4, hfz19_0, hfz19_1, hfz19_2, hfz19_3, hfz19_4⟩ := bk5 BK189.out
    go_wp2
    go_ret
    exact QT (BT HB.out)
   rw [if_pos c17] at H
   have c17b0 : (a0_0 == 0) = true := beq_iff_eq.mpr c17
   have c17b1 : (a0_0 != 0) = false := bne_eq_false_iff_eq.mpr c17
   clear c17
   obtain rfl := Option.some.inj H
   obtain ⟨hcz18_0, hcz18_1, hcz18_2, hcz18_3, hcz18_4, hfz18_0, hfz18_1, hfz18_2, hfz18_3, hfz18_4⟩ := bk5 BK189.out
   go_wp2
   go_ret
   exact QT (BT HB.out)

/-! ### spec_IsValidChain: function 136 -/
def spec_IsValidChain.l0 : Nat → List (S76) → Int → Option (Bool)
 | 0, _, _ => none
 | k + 1, x0, x3 => if x3 < (x0.length : Int) then (if 0 ≤ x3 then ((spec_IsValidVersion.f k ((rd_T76 x0 x3).f0) ((rd_T76 x0 x3).f1) ((rd_T76 x0 x3).f2) ((rd_T76 x0 x3).f3) ((rd_T76 x0 x3).f4)).bind fun t197 => (if t197 = true then (if (wrap64 (x3 + 1)) < (x0.length : Int) then (if 0 ≤ (wrap64 (x3 + 1)) then (if ((rd_T76 x0 x3).f2) ≥ ((rd_T76 x0 (wrap64 (x3 + 1))).f2) then (some false) else (if ((rd_T76 x0 x3).f4) > ((rd_T76 x0 (wrap64 (x3 + 1))).f2) then (some false) else (spec_IsValidChain.l0 k x0 (wrap64 (x3 + 1))))) else (none)) else (spec_IsValidChain.l0 k x0 (wrap64 (x3 + 1)))) else (some false))) else (none)) else (if (x0.length : Int) > 0 then (if 0 ≤ (wrap64 ((x0.length : Int) - 1)) then (if (wrap64 ((x0.length : Int) - 1)) < (x0.length : Int) then (some (((rd_T76 x0 (wrap64 ((x0.length : Int) - 1))).f4) == 1000)) else (none)) else (none)) else (some false))
def spec_IsValidChain.f (k : Nat) (l0 : List (S76)) : Option (Bool) := spec_IsValidChain.l0 k l0 0
theorem spec_IsValidChain.mono_l : ∀ k, (∀ y0 y1, LeO (spec_IsValidChain.l0 k y0 y1) (spec_IsValidChain.l0 (k + 1) y0 y1))
 | 0 => fun _ _ r h => by simp [spec_IsValidChain.l0] at h
 | k + 1 => by
  have ih0 := spec_IsValidChain.mono_l k
  ·intro y0 y1
   unfold spec_IsValidChain.l0
   repeat' first
   | (with_reducible exact ih0 _ _)
   | (with_reducible exact spec_IsValidVersion.mono _ _ _ _ _ _)
   | (with_reducible exact LeO.refl _)
   | (with_reducible exact LeO.none _)
   | (with_reducible refine LeO.ite ?_ ?_)
   | (with_reducible refine LeO.bind ?_ (fun _ => ?_))
   | exact ih0 _ _
   | exact spec_IsValidVersion.mono _ _ _ _ _ _
   | exact LeO.none _
   | refine LeO.ite ?_ ?_
   | refine LeO.bind ?_ (fun _ => ?_)
theorem spec_IsValidChain.mono : ∀ a0 k, LeO (spec_IsValidChain.f k a0) (spec_IsValidChain.f (k + 1) a0) := by
 intro a0 k
 have ih0 := spec_IsValidChain.mono_l k
 unfold spec_IsValidChain.f
 repeat' first
   | (with_reducible exact ih0 _ _)
   | (with_reducible exact spec_IsValidVersion.mono _ _ _ _ _ _)
   | (with_reducible exact LeO.refl _)
   | (with_reducible exact LeO.none _)
   | (with_reducible refine LeO.ite ?_ ?_)
   | (with_reducible refine LeO.bind ?_ (fun _ => ?_))
   | exact ih0 _ _
   | exact spec_IsValidVersion.mono _ _ _ _ _ _
   | exact LeO.none _
   | refine LeO.ite ?_ ?_
   | refine LeO.bind ?_ (fun _ => ?_)
set_option maxHeartbeats 8000000 in
set_option maxRecDepth 100000 in
theorem spec_IsValidChain.calls (k : Nat) (A0 : Option Addr) (c0 : Nat) (l0 : List (S76)) (r : Bool) (w : World) (hr0 : Kd.C k76 w A0 l0.length l0) (hc0 : l0.length ≤ c0) (h : spec_IsValidChain.f k l0 = some r) :
  Calls Try.prog 136 #[.slice A0 l0.length c0] w fun e w' => e = .returned (.bool r) ∧ Below w.heap.size w w' := by
 have hu76 := Try.underlying76
 have HR0 := AM_ hr0
 have HC0 := AM_ hc0
 clear hr0 hc0
 have HB := AM_ (Below.refl w.heap.size w)
 have H : (spec_IsValidChain.l0 k l0 0) = some r := h
 clear h
 have H' := AM_ H
 clear H
 go_enter Try.func136, Try.ntmps136
 go_wp2
 repeat (go_quiet (fail); try go_wp2)
 go_loopg [3] k (fun kq v3 w' => ∃ (x3_1 : Int), v3 = .int .i64 x3_1 ∧ Aside0 (spec_IsValidChain.l0 kq l0 x3_1 = some r) ∧ Aside0 (kq ≤ k) ∧ Aside0 (Below w.heap.size w w'))
 case atStart => exact ⟨(0), (by first | rfl | (simp; done) | (simp [*]; done)), H', ⟨Nat.le_refl _⟩, ⟨BT HB.out⟩⟩
 case round =>
  clear H'
  try clear c1
  obtain ⟨x3_1, rfl, HA, HK1, HB⟩ := hrel
  cases gk with
  | zero => exact absurd HA.out (by simp [spec_IsValidChain.l0])
  | succ k1 =>
   have H := HA.out
   clear HA
   simp only [spec_IsValidChain.l0] at H
   by_cases c2 : x3_1 < (l0.length : Int)
   rotate_left
   ·rw [if_neg c2] at H
    have c2b0 : decide (x3_1 < (l0.length : Int)) = false := decide_eq_false c2
    clear c2
    by_cases c16 : (l0.length : Int) > 0
    rotate_left
    ·rw [if_neg c16] at H
     have c16b0 : decide (0 < (l0.length : Int)) = false := decide_eq_false c16
     have c16b1 : decide (0 < l0.length) = false := decide_eq_false (by omega)
     clear c16
     obtain rfl := Option.some.inj H
     go_wp2
     repeat (go_quiet (fail); try go_wp2)
     go_ret
     exact QT (BT HB.out)
    rw [if_pos c16] at H
    have c16b0 : decide (0 < (l0.length : Int)) = true := decide_eq_true c16
    have c16b1 : decide (0 < l0.length) = true := decide_eq_true (by omega)
    clear c16
    obtain ⟨ji17, hji17⟩ : ∃ j_ : Int, (wrap64 ((l0.length : Int) - 1)) = j_ := ⟨_, rfl⟩
    replace H : (if 0 ≤ (ji17) then (if (ji17) < (l0.length : Int) then (some (((rd_T76 l0 (ji17)).f4) == 1000)) else (none)) else (none)) = some r := by first | (rw [hji17] at H; exact H) | (simp only [hji17] at H ⊢; exact H)
    have hji17w : (IntKind.i64.wrap ((l0.length : Int) - 1)) = ji17 := (i64_w _).trans hji17
    by_cases c18 : 0 ≤ (ji17)
    rotate_left
    ·rw [if_neg c18] at H
     exact absurd H (by simp)
    rw [if_pos c18] at H
    have c18b0 : decide (0 ≤ (ji17)) = true := decide_eq_true c18
    clear c18
    by_cases c19 : (ji17) < (l0.length : Int)
    rotate_left
    ·rw [if_neg c19] at H
     exact absurd H (by simp)
    rw [if_pos c19] at H
    have c19b0 : decide ((ji17) < (l0.length : Int)) = true := decide_eq_true c19
    clear c19
    obtain rfl := Option.some.inj H
    have p195 : 0 ≤ ((ji17) : Int) := DT
    have q195 : (ji17) < (l0.length : Int) := DT
    obtain ⟨ad195, e195, hx195_0, hx195_1, hx195_2, hx195_3, hx195_4⟩ := at_T76 HR0.out (ji17) p195 q195
    cases e195
    replace hx195_0 := BC HB.out hx195_0
    replace hx195_1 := BC HB.out hx195_1
    replace hx195_2 := BC HB.out hx195_2
    replace hx195_3 := BC HB.out hx195_3
    replace hx195_4 := BC HB.out hx195_4
    replace p195 := eq_true p195
    replace q195 := eq_true q195
    go_wp2
    repeat (go_quiet (fail); try go_wp2)
    go_ret
    exact ⟨by first | rfl | (simp [errW_none, errW_some] <;> rfl) | (simp only [← hji17]; first | rfl | (simp [errW_none, errW_some] <;> rfl)) | (simp [*, errW_none, errW_some] <;> rfl), BT HB.out⟩
   rw [if_pos c2] at H
   have c2b0 : decide (x3_1 < (l0.length : Int)) = true := decide_eq_true c2
   clear c2
   by_cases c3 : 0 ≤ x3_1
   rotate_left
   ·rw [if_neg c3] at H
    exact absurd H (by simp)
   rw [if_pos c3] at H
   have c3b0 : decide (0 ≤ x3_1) = true := decide_eq_true c3
   clear c3
   replace H := Option.bind_eq_some_iff.mp H
   obtain ⟨t197, A40, H⟩ := H
   replace H : (if t197 = true then (if (wrap64 (x3_1 + 1)) < (l0.length : Int) then (if 0 ≤ (wrap64 (x3_1 + 1)) then (if ((rd_T76 l0 x3_1).f2) ≥ ((rd_T76 l0 (wrap64 (x3_1 + 1))).f2) then (some false) else (if ((rd_T76 l0 x3_1).f4) > ((rd_T76 l0 (wrap64 (x3_1 + 1))).f2) then (some false) else (spec_IsValidChain.l0 k1 l0 (wrap64 (x3_1 + 1))))) else (none)) else (spec_IsValidChain.l0 k1 l0 (wrap64 (x3_1 + 1)))) else (some false)) = some r := H
   have A4 := AM_ A40
   clear A40
   by_cases c5 : t197 = true
   rotate_left
   ·replace c5 := Bool.eq_false_iff.mpr c5
    subst c5
    have H1 : (some false) = some r := by rw [if_neg (show ¬ (false = true) by decide)] at H; exact H
    clear H
    have H := H1
    clear H1
    obtain rfl := Option.some.inj H
    have p196 : 0 ≤ (x3_1 : Int) := DT
    have q196 : x3_1 < (l0.length : Int) := DT
    obtain ⟨ad196, e196, hx196_0, hx196_1, hx196_2, hx196_3, hx196_4⟩ := at_T76 HR0.out x3_1 p196 q196
    cases e196
    replace hx196_0 := BC HB.out hx196_0
    replace hx196_1 := BC HB.out hx196_1
    replace hx196_2 := BC HB.out hx196_2
    replace hx196_3 := BC HB.out hx196_3
    replace hx196_4 := BC HB.out hx196_4
    replace p196 := eq_true p196
    replace q196 := eq_true q196
    go_wp2_with (first | (go_at_call 194; (with_reducible refine (spec_IsValidVersion.calls k1 ((rd_T76 l0 x3_1).f0) ((rd_T76 l0 x3_1).f1) ((rd_T76 l0 x3_1).f2) ((rd_T76 l0 x3_1).f3) ((rd_T76 l0 x3_1).f4) false _ A4.out).mono ?_); rintro e w15 ⟨rfl, hb⟩; have n0_ := AM_ (below_step (BT HB.out) hb); clear HB; have HB := n0_; clear n0_; (try clear hb); (try clear hb2); (try clear hk); (try clear hi)))
    repeat (go_quiet (first | (go_at_call 194; (with_reducible refine (spec_IsValidVersion.calls k1 ((rd_T76 l0 x3_1).f0) ((rd_T76 l0 x3_1).f1) ((rd_T76 l0 x3_1).f2) ((rd_T76 l0 x3_1).f3) ((rd_T76 l0 x3_1).f4) false _ A4.out).mono ?_); rintro e w15 ⟨rfl, hb⟩; have n0_ := AM_ (below_step (BT HB.out) hb); clear HB; have HB := n0_; clear n0_; (try clear hb); (try clear hb2); (try clear hk); (try clear hi))); try go_wp2_with (first | (go_at_call 194; (with_reducible refine (spec_IsValidVersion.calls k1 ((rd_T76 l0 x3_1).f0) ((rd_T76 l0 x3_1).f1) ((rd_T76 l0 x3_1).f2) ((rd_T76 l0 x3_1).f3) ((rd_T76 l0 x3_1).f4) false _ A4.out).mono ?_); rintro e w15 ⟨rfl, hb⟩; have n0_ := AM_ (below_step (BT HB.out) hb); clear HB; have HB := n0_; clear n0_; (try clear hb); (try clear hb2); (try clear hk); (try clear hi))))
    go_ret
    exact QT (BT HB.out)
   subst c5
   have H1 : (if (wrap64 (x3_1 + 1)) < (l0.length : Int) then (if 0 ≤ (wrap64 (x3_1 + 1)) then (if ((rd_T76 l0 x3_1).f2) ≥ ((rd_T76 l0 (wrap64 (x3_1 + 1))).f2) then (some false) else (if ((rd_T76 l0 x3_1).f4) > ((rd_T76 l0 (wrap64 (x3_1 + 1))).f2) then (some false) else (spec_IsValidChain.l0 k1 l0 (wrap64 (x3_1 + 1))))) else (none)) else (spec_IsValidChain.l0 k1 l0 (wrap64 (x3_1 + 1)))) = some r := by rw [if_pos rfl] at H; exact H
   clear H
   have H := H1
   clear H1
   by_cases c6 : (wrap64 (x3_1 + 1)) < (l0.length : Int)
   rotate_left
   ·rw [if_neg c6] at H
    have c6b0 : decide ((wrap64 (x3_1 + 1)) < (l0.length : Int)) = false := decide_eq_false c6
    clear c6
    have H' := AM_ H
    clear H
    have p196 : 0 ≤ (x3_1 : Int) := DT
    have q196 : x3_1 < (l0.length : Int) := DT
    obtain ⟨ad196, e196, hx196_0, hx196_1, hx196_2, hx196_3, hx196_4⟩ := at_T76 HR0.out x3_1 p196 q196
    cases e196
    replace hx196_0 := BC HB.out hx196_0
    replace hx196_1 := BC HB.out hx196_1
    replace hx196_2 := BC HB.out hx196_2
    replace hx196_3 := BC HB.out hx196_3
    replace hx196_4 := BC HB.out hx196_4
    replace p196 := eq_true p196
    replace q196 := eq_true q196
    go_wp2_with (first | (go_at_call 194; (with_reducible refine (spec_IsValidVersion.calls k1 ((rd_T76 l0 x3_1).f0) ((rd_T76 l0 x3_1).f1) ((rd_T76 l0 x3_1).f2) ((rd_T76 l0 x3_1).f3) ((rd_T76 l0 x3_1).f4) true _ A4.out).mono ?_); rintro e w14 ⟨rfl, hb⟩; have n0_ := AM_ (below_step (BT HB.out) hb); clear HB; have HB := n0_; clear n0_; (try clear hb); (try clear hb2); (try clear hk); (try clear hi)))
    repeat (go_quiet (first | (go_at_call 194; (with_reducible refine (spec_IsValidVersion.calls k1 ((rd_T76 l0 x3_1).f0) ((rd_T76 l0 x3_1).f1) ((rd_T76 l0 x3_1).f2) ((rd_T76 l0 x3_1).f3) ((rd_T76 l0 x3_1).f4) true _ A4.out).mono ?_); rintro e w14 ⟨rfl, hb⟩; have n0_ := AM_ (below_step (BT HB.out) hb); clear HB; have HB := n0_; clear n0_; (try clear hb); (try clear hb2); (try clear hk); (try clear hi))); try go_wp2_with (first | (go_at_call 194; (with_reducible refine (spec_IsValidVersion.calls k1 ((rd_T76 l0 x3_1).f0) ((rd_T76 l0 x3_1).f1) ((rd_T76 l0 x3_1).f2) ((rd_T76 l0 x3_1).f3) ((rd_T76 l0 x3_1).f4) true _ A4.out).mono ?_); rintro e w14 ⟨rfl, hb⟩; have n0_ := AM_ (below_step (BT HB.out) hb); clear HB; have HB := n0_; clear n0_; (try clear hb); (try clear hb2); (try clear hk); (try clear hi))))
    go_roundg k1
    case measure => have := HK1.out; omega
    case rel => exact ⟨(wrap64 (x3_1 + 1)), (by first | rfl | (simp; done) | (simp [*]; done)), H', ⟨by have := HK1.out; omega⟩, ⟨BT HB.out⟩⟩
   rw [if_pos c6] at H
   have c6b0 : decide ((wrap64 (x3_1 + 1)) < (l0.length : Int)) = true := decide_eq_true c6
   clear c6
   obtain ⟨ji7, hji7⟩ : ∃ j_ : Int, (wrap64 (x3_1 + 1)) = j_ := ⟨_, rfl⟩
   replace H : (if 0 ≤ (ji7) then (if ((rd_T76 l0 x3_1).f2) ≥ ((rd_T76 l0 (ji7)).f2) then (some false) else (if ((rd_T76 l0 x3_1).f4) > ((rd_T76 l0 (ji7)).f2) then (some false) else (spec_IsValidChain.l0 k1 l0 ji7))) else (none)) = some r := by first | (rw [hji7] at H; exact H) | (simp only [hji7] at H ⊢; exact H)
   (try rw [hji7] at c6b0)
   (try rw [hji7] at A4)
   have hji7w : (IntKind.i64.wrap (x3_1 + 1)) = ji7 := (i64_w _).trans hji7
   by_cases c8 : 0 ≤ (ji7)
   rotate_left
   ·rw [if_neg c8] at H
    exact absurd H (by simp)
   rw [if_pos c8] at H
   have c8b0 : decide (0 ≤ (ji7)) = true := decide_eq_true c8
   clear c8
   by_cases c9 : ((rd_T76 l0 x3_1).f2) ≥ ((rd_T76 l0 (ji7)).f2)
   ·rw [if_pos c9] at H
    have c9b0 : decide (((rd_T76 l0 (ji7)).f2) ≤ ((rd_T76 l0 x3_1).f2)) = true := decide_eq_true c9
    clear c9
    obtain rfl := Option.some.inj H
    have p196 : 0 ≤ (x3_1 : Int) := DT
    have q196 : x3_1 < (l0.length : Int) := DT
    obtain ⟨ad196, e196, hx196_0, hx196_1, hx196_2, hx196_3, hx196_4⟩ := at_T76 HR0.out x3_1 p196 q196
    cases e196
    replace hx196_0 := BC HB.out hx196_0
    replace hx196_1 := BC HB.out hx196_1
    replace hx196_2 := BC HB.out hx196_2
    replace hx196_3 := BC HB.out hx196_3
    replace hx196_4 := BC HB.out hx196_4
    replace p196 := eq_true p196
    replace q196 := eq_true q196
    go_wp2_with (first | (go_at_call 194; (with_reducible refine (spec_IsValidVersion.calls k1 ((rd_T76 l0 x3_1).f0) ((rd_T76 l0 x3_1).f1) ((rd_T76 l0 x3_1).f2) ((rd_T76 l0 x3_1).f3) ((rd_T76 l0 x3_1).f4) true _ A4.out).mono ?_); rintro e w10 ⟨rfl, hb⟩; have n0_ := AM_ (below_step (BT HB.out) hb); clear HB; have HB := n0_; clear n0_; (try clear hb); (try clear hb2); (try clear hk); (try clear hi); have p198 : 0 ≤ (x3_1 : Int) := DT; have q198 : x3_1 < (l0.length : Int) := DT; obtain ⟨ad198, e198, hx198_0, hx198_1, hx198_2, hx198_3, hx198_4⟩ := at_T76 HR0.out x3_1 p198 q198; obtain rfl : ad196 = ad198 := (by injection e198); replace hx198_0 := BD HB.out hx198_0; replace hx198_1 := BD HB.out hx198_1; replace hx198_2 := BD HB.out hx198_2; replace hx198_3 := BD HB.out hx198_3; replace hx198_4 := BD HB.out hx198_4; replace p198 := eq_true p198; replace q198 := eq_true q198; have p199 : 0 ≤ ((ji7) : Int) := DT; have q199 : (ji7) < (l0.length : Int) := DT; obtain ⟨ad199, e199, hx199_0, hx199_1, hx199_2, hx199_3, hx199_4⟩ := at_T76 HR0.out (ji7) p199 q199; obtain rfl : ad196 = ad199 := (by injection e199); replace hx199_0 := BD HB.out hx199_0; replace hx199_1 := BD HB.out hx199_1; replace hx199_2 := BD HB.out hx199_2; replace hx199_3 := BD HB.out hx199_3; replace hx199_4 := BD HB.out hx199_4; replace p199 := eq_true p199; replace q199 := eq_true q199))
    repeat (go_quiet (first | (go_at_call 194; (with_reducible refine (spec_IsValidVersion.calls k1 ((rd_T76 l0 x3_1).f0) ((rd_T76 l0 x3_1).f1) ((rd_T76 l0 x3_1).f2) ((rd_T76 l0 x3_1).f3) ((rd_T76 l0 x3_1).f4) true _ A4.out).mono ?_); rintro e w10 ⟨rfl, hb⟩; have n0_ := AM_ (below_step (BT HB.out) hb); clear HB; have HB := n0_; clear n0_; (try clear hb); (try clear hb2); (try clear hk); (try clear hi); have p198 : 0 ≤ (x3_1 : Int) := DT; have q198 : x3_1 < (l0.length : Int) := DT; obtain ⟨ad198, e198, hx198_0, hx198_1, hx198_2, hx198_3, hx198_4⟩ := at_T76 HR0.out x3_1 p198 q198; obtain rfl : ad196 = ad198 := (by injection e198); replace hx198_0 := BD HB.out hx198_0; replace hx198_1 := BD HB.out hx198_1; replace hx198_2 := BD HB.out hx198_2; replace hx198_3 := BD HB.out hx198_3; replace hx198_4 := BD HB.out hx198_4; replace p198 := eq_true p198; replace q198 := eq_true q198; have p199 : 0 ≤ ((ji7) : Int) := DT; have q199 : (ji7) < (l0.length : Int) := DT; obtain ⟨ad199, e199, hx199_0, hx199_1, hx199_2, hx199_3, hx199_4⟩ := at_T76 HR0.out (ji7) p199 q199; obtain rfl : ad196 = ad199 := (by injection e199); replace hx199_0 := BD HB.out hx199_0; replace hx199_1 := BD HB.out hx199_1; replace hx199_2 := BD HB.out hx199_2; replace hx199_3 := BD HB.out hx199_3; replace hx199_4 := BD HB.out hx199_4; replace p199 := eq_true p199; replace q199 := eq_true q199)); try go_wp2_with (first | (go_at_call 194; (with_reducible refine (spec_IsValidVersion.calls k1 ((rd_T76 l0 x3_1).f0) ((rd_T76 l0 x3_1).f1) ((rd_T76 l0 x3_1).f2) ((rd_T76 l0 x3_1).f3) ((rd_T76 l0 x3_1).f4) true _ A4.out).mono ?_); rintro e w10 ⟨rfl, hb⟩; have n0_ := AM_ (below_step (BT HB.out) hb); clear HB; have HB := n0_; clear n0_; (try clear hb); (try clear hb2); (try clear hk); (try clear hi); have p198 : 0 ≤ (x3_1 : Int) := DT; have q198 : x3_1 < (l0.length : Int) := DT; obtain ⟨ad198, e198, hx198_0, hx198_1, hx198_2, hx198_3, hx198_4⟩ := at_T76 HR0.out x3_1 p198 q198; obtain rfl : ad196 = ad198 := (by injection e198); replace hx198_0 := BD HB.out hx198_0; replace hx198_1 := BD HB.out hx198_1; replace hx198_2 := BD HB.out hx198_2; replace hx198_3 := BD HB.out hx198_3; replace hx198_4 := BD HB.out hx198_4; replace p198 := eq_true p198; replace q198 := eq_true q198; have p199 : 0 ≤ ((ji7) : Int) := DT; have q199 : (ji7) < (l0.length : Int) := DT; obtain ⟨ad199, e199, hx199_0, hx199_1, hx199_2, hx199_3, hx199_4⟩ := at_T76 HR0.out (ji7) p199 q199; obtain rfl : ad196 = ad199 := (by injection e199); replace hx199_0 := BD HB.out hx199_0; replace hx199_1 := BD HB.out hx199_1; replace hx199_2 := BD HB.out hx199_2; replace hx199_3 := BD HB.out hx199_3; replace hx199_4 := BD HB.out hx199_4; replace p199 := eq_true p199; replace q199 := eq_true q199)))
    go_ret
    exact ⟨by first | rfl | (simp [errW_none, errW_some] <;> rfl) | (simp only [← hji7]; first | rfl | (simp [errW_none, errW_some] <;> rfl)) | (simp [*, errW_none, errW_some] <;> rfl), BT HB.out⟩
   rw [if_neg c9] at H
   have c9b0 : decide (((rd_T76 l0 (ji7)).f2) ≤ ((rd_T76 l0 x3_1).f2)) = false := decide_eq_false c9
   clear c9
   by_cases c11 : ((rd_T76 l0 x3_1).f4) > ((rd_T76 l0 (ji7)).f2)
   ·rw [if_pos c11] at H
    have c11b0 : decide (((rd_T76 l0 (ji7)).f2) < ((rd_T76 l0 x3_1).f4)) = true := decide_eq_true c11
    clear c11
    obtain rfl := Option.some.inj H
    have p196 : 0 ≤ (x3_1 : Int) := DT
    have q196 : x3_1 < (l0.length : Int) := DT
    obtain ⟨ad196, e196, hx196_0, hx196_1, hx196_2, hx196_3, hx196_4⟩ := at_T76 HR0.out x3_1 p196 q196
    cases e196
    replace hx196_0 := BC HB.out hx196_0
    replace hx196_1 := BC HB.out hx196_1
    replace hx196_2 := BC HB.out hx196_2
    replace hx196_3 := BC HB.out hx196_3
    replace hx196_4 := BC HB.out hx196_4
    replace p196 := eq_true p196
    replace q196 := eq_true q196
    go_wp2_with (first | (go_at_call 194; (with_reducible refine (spec_IsValidVersion.calls k1 ((rd_T76 l0 x3_1).f0) ((rd_T76 l0 x3_1).f1) ((rd_T76 l0 x3_1).f2) ((rd_T76 l0 x3_1).f3) ((rd_T76 l0 x3_1).f4) true _ A4.out).mono ?_); rintro e w12 ⟨rfl, hb⟩; have n0_ := AM_ (below_step (BT HB.out) hb); clear HB; have HB := n0_; clear n0_; (try clear hb); (try clear hb2); (try clear hk); (try clear hi); have p198 : 0 ≤ (x3_1 : Int) := DT; have q198 : x3_1 < (l0.length : Int) := DT; obtain ⟨ad198, e198, hx198_0, hx198_1, hx198_2, hx198_3, hx198_4⟩ := at_T76 HR0.out x3_1 p198 q198; obtain rfl : ad196 = ad198 := (by injection e198); replace hx198_0 := BD HB.out hx198_0; replace hx198_1 := BD HB.out hx198_1; replace hx198_2 := BD HB.out hx198_2; replace hx198_3 := BD HB.out hx198_3; replace hx198_4 := BD HB.out hx198_4; replace p198 := eq_true p198; replace q198 := eq_true q198; have p199 : 0 ≤ ((ji7) : Int) := DT; have q199 : (ji7) < (l0.length : Int) := DT; obtain ⟨ad199, e199, hx199_0, hx199_1, hx199_2, hx199_3, hx199_4⟩ := at_T76 HR0.out (ji7) p199 q199; obtain rfl : ad196 = ad199 := (by injection e199); replace hx199_0 := BD HB.out hx199_0; replace hx199_1 := BD HB.out hx199_1; replace hx199_2 := BD HB.out hx199_2; replace hx199_3 := BD HB.out hx199_3; replace hx199_4 := BD HB.out hx199_4; replace p199 := eq_true p199; replace q199 := eq_true q199; have p200 : 0 ≤ (x3_1 : Int) := DT; have q200 : x3_1 < (l0.length : Int) := DT; obtain ⟨ad200, e200, hx200_0, hx200_1, hx200_2, hx200_3, hx200_4⟩ := at_T76 HR0.out x3_1 p200 q200; obtain rfl : ad196 = ad200 := (by injection e200); replace hx200_0 := BD HB.out hx200_0; replace hx200_1 := BD HB.out hx200_1; replace hx200_2 := BD HB.out hx200_2; replace hx200_3 := BD HB.out hx200_3; replace hx200_4 := BD HB.out hx200_4; replace p200 := eq_true p200; replace q200 := eq_true q200; have p201 : 0 ≤ ((ji7) : Int) := DT; have q201 : (ji7) < (l0.length : Int) := DT; obtain ⟨ad201, e201, hx201_0, hx201_1, hx201_2, hx201_3, hx201_4⟩ := at_T76 HR0.out (ji7) p201 q201; obtain rfl : ad196 = ad201 := (by injection e201); replace hx201_0 := BD HB.out hx201_0; replace hx201_1 := BD HB.out hx201_1; replace hx201_2 := BD HB.out hx201_2; replace hx201_3 := BD HB.out hx201_3; replace hx201_4 := BD HB.out hx201_4; replace p201 := eq_true p201; replace q201 := eq_true q201))
    repeat (go_quiet (first | (go_at_call 194; (with_reducible refine (spec_IsValidVersion.calls k1 ((rd_T76 l0 x3_1).f0) ((rd_T76 l0 x3_1).f1) ((rd_T76 l0 x3_1).f2) ((rd_T76 l0 x3_1).f3) ((rd_T76 l0 x3_1).f4) true _ A4.out).mono ?_); rintro e w12 ⟨rfl, hb⟩; have n0_ := AM_ (below_step (BT HB.out) hb); clear HB; have HB := n0_; clear n0_; (try clear hb); (try clear hb2); (try clear hk); (try clear hi); have p198 : 0 ≤ (x3_1 : Int) := DT; have q198 : x3_1 < (l0.length : Int) := DT; obtain ⟨ad198, e198, hx198_0, hx198_1, hx198_2, hx198_3, hx198_4⟩ := at_T76 HR0.out x3_1 p198 q198; obtain rfl : ad196 = ad198 := (by injection e198); replace hx198_0 := BD HB.out hx198_0; replace hx198_1 := BD HB.out hx198_1; replace hx198_2 := BD HB.out hx198_2; replace hx198_3 := BD HB.out hx198_3; replace hx198_4 := BD HB.out hx198_4; replace p198 := eq_true p198; replace q198 := eq_true q198; have p199 : 0 ≤ ((ji7) : Int) := DT; have q199 : (ji7) < (l0.length : Int) := DT; obtain ⟨ad199, e199, hx199_0, hx199_1, hx199_2, hx199_3, hx199_4⟩ := at_T76 HR0.out (ji7) p199 q199; obtain rfl : ad196 = ad199 := (by injection e199); replace hx199_0 := BD HB.out hx199_0; replace hx199_1 := BD HB.out hx199_1; replace hx199_2 := BD HB.out hx199_2; replace hx199_3 := BD HB.out hx199_3; replace hx199_4 := BD HB.out hx199_4; replace p199 := eq_true p199; replace q199 := eq_true q199; have p200 : 0 ≤ (x3_1 : Int) := DT; have q200 : x3_1 < (l0.length : Int) := DT; obtain ⟨ad200, e200, hx200_0, hx200_1, hx200_2, hx200_3, hx200_4⟩ := at_T76 HR0.out x3_1 p200 q200; obtain rfl : ad196 = ad200 := (by injection e200); replace hx200_0 := BD HB.out hx200_0; replace hx200_1 := BD HB.out hx200_1; replace hx200_2 := BD HB.out hx200_2; replace hx200_3 := BD HB.out hx200_3; replace hx200_4 := BD HB.out hx200_4; replace p200 := eq_true p200; replace q200 := eq_true q200; have p201 : 0 ≤ ((ji7) : Int) := DT; have q201 : (ji7) < (l0.length : Int) := DT; obtain ⟨ad201, e201, hx201_0, hx201_1, hx201_2, hx201_3, hx201_4⟩ := at_T76 HR0.out (ji7) p201 q201; obtain rfl : ad196 = ad201 := (by injection e201); replace hx201_0 := BD HB.out hx201_0; replace hx201_1 := BD HB.out hx201_1; replace hx201_2 := BD HB.out hx201_2; replace hx201_3 := BD HB.out hx201_3; replace hx201_4 := BD HB.out hx201_4; replace p201 := eq_true p201; replace q201 := eq_true q201)); try go_wp2_with (first | (go_at_call 194; (with_reducible refine (spec_IsValidVersion.calls k1 ((rd_T76 l0 x3_1).f0) ((rd_T76 l0 x3_1).f1) ((rd_T76 l0 x3_1).f2) ((rd_T76 l0 x3_1).f3) ((rd_T76 l0 x3_1).f4) true _ A4.out).mono ?_); rintro e w12 ⟨rfl, hb⟩; have n0_ := AM_ (below_step (BT HB.out) hb); clear HB; have HB := n0_; clear n0_; (try clear hb); (try clear hb2); (try clear hk); (try clear hi); have p198 : 0 ≤ (x3_1 : Int) := DT; have q198 : x3_1 < (l0.length : Int) := DT; obtain ⟨ad198, e198, hx198_0, hx198_1, hx198_2, hx198_3, hx198_4⟩ := at_T76 HR0.out x3_1 p198 q198; obtain rfl : ad196 = ad198 := (by injection e198); replace hx198_0 := BD HB.out hx198_0; replace hx198_1 := BD HB.out hx198_1; replace hx198_2 := BD HB.out hx198_2; replace hx198_3 := BD HB.out hx198_3; replace hx198_4 := BD HB.out hx198_4; replace p198 := eq_true p198; replace q198 := eq_true q198; have p199 : 0 ≤ ((ji7) : Int) := DT; have q199 : (ji7) < (l0.length : Int) := DT; obtain ⟨ad199, e199, hx199_0, hx199_1, hx199_2, hx199_3, hx199_4⟩ := at_T76 HR0.out (ji7) p199 q199; obtain rfl : ad196 = ad199 := (by injection e199); replace hx199_0 := BD HB.out hx199_0; replace hx199_1 := BD HB.out hx199_1; replace hx199_2 := BD HB.out hx199_2; replace hx199_3 := BD HB.out hx199_3; replace hx199_4 := BD HB.out hx199_4; replace p199 := eq_true p199; replace q199 := eq_true q199; have p200 : 0 ≤ (x3_1 : Int) := DT; have q200 : x3_1 < (l0.length : Int) := DT; obtain ⟨ad200, e200, hx200_0, hx200_1, hx200_2, hx200_3, hx200_4⟩ := at_T76 HR0.out x3_1 p200 q200; obtain rfl : ad196 = ad200 := (by injection e200); replace hx200_0 := BD HB.out hx200_0; replace hx200_1 := BD HB.out hx200_1; replace hx200_2 := BD HB.out hx200_2; replace hx200_3 := BD HB.out hx200_3; replace hx200_4 := BD HB.out hx200_4; replace p200 := eq_true p200; replace q200 := eq_true q200; have p201 : 0 ≤ ((ji7) : Int) := DT; have q201 : (ji7) < (l0.length : Int) := DT; obtain ⟨ad201, e201, hx201_0, hx201_1, hx201_2, hx201_3, hx201_4⟩ := at_T76 HR0.out (ji7) p201 q201; obtain rfl : ad196 = ad201 := (by injection e201); replace hx201_0 := BD HB.out hx201_0; replace hx201_1 := BD HB.out hx201_1; replace hx201_2 := BD HB.out hx201_2; replace hx201_3 := BD HB.out hx201_3; replace hx201_4 := BD HB.out hx201_4; replace p201 := eq_true p201; replace q201 := eq_true q201)))
    go_ret
    exact ⟨by first | rfl | (simp [errW_none, errW_some] <;> rfl) | (simp only [← hji7]; first | rfl | (simp [errW_none, errW_some] <;> rfl)) | (simp [*, errW_none, errW_some] <;> rfl), BT HB.out⟩
   rw [if_neg c11] at H
   have c11b0 : decide (((rd_T76 l0 (ji7)).f2) < ((rd_T76 l0 x3_1).f4)) = false := decide_eq_false c11
   clear c11
   have H' := AM_ H
   clear H
   have p196 : 0 ≤ (x3_1 : Int) := DT
   have q196 : x3_1 < (l0.length : Int) := DT
   obtain ⟨ad196, e196, hx196_0, hx196_1, hx196_2, hx196_3, hx196_4⟩ := at_T76 HR0.out x3_1 p196 q196
   cases e196
   replace hx196_0 := BC HB.out hx196_0
   replace hx196_1 := BC HB.out hx196_1
   replace hx196_2 := BC HB.out hx196_2
   replace hx196_3 := BC HB.out hx196_3
   replace hx196_4 := BC HB.out hx196_4
   replace p196 := eq_true p196
   replace q196 := eq_true q196
   go_wp2_with (first | (go_at_call 194; (with_reducible refine (spec_IsValidVersion.calls k1 ((rd_T76 l0 x3_1).f0) ((rd_T76 l0 x3_1).f1) ((rd_T76 l0 x3_1).f2) ((rd_T76 l0 x3_1).f3) ((rd_T76 l0 x3_1).f4) true _ A4.out).mono ?_); rintro e w13 ⟨rfl, hb⟩; have n0_ := AM_ (below_step (BT HB.out) hb); clear HB; have HB := n0_; clear n0_; (try clear hb); (try clear hb2); (try clear hk); (try clear hi); have p198 : 0 ≤ (x3_1 : Int) := DT; have q198 : x3_1 < (l0.length : Int) := DT; obtain ⟨ad198, e198, hx198_0, hx198_1, hx198_2, hx198_3, hx198_4⟩ := at_T76 HR0.out x3_1 p198 q198; obtain rfl : ad196 = ad198 := (by injection e198); replace hx198_0 := BD HB.out hx198_0; replace hx198_1 := BD HB.out hx198_1; replace hx198_2 := BD HB.out hx198_2; replace hx198_3 := BD HB.out hx198_3; replace hx198_4 := BD HB.out hx198_4; replace p198 := eq_true p198; replace q198 := eq_true q198; have p199 : 0 ≤ ((ji7) : Int) := DT; have q199 : (ji7) < (l0.length : Int) := DT; obtain ⟨ad199, e199, hx199_0, hx199_1, hx199_2, hx199_3, hx199_4⟩ := at_T76 HR0.out (ji7) p199 q199; obtain rfl : ad196 = ad199 := (by injection e199); replace hx199_0 := BD HB.out hx199_0; replace hx199_1 := BD HB.out hx199_1; replace hx199_2 := BD HB.out hx199_2; replace hx199_3 := BD HB.out hx199_3; replace hx199_4 := BD HB.out hx199_4; replace p199 := eq_true p199; replace q199 := eq_true q199; have p200 : 0 ≤ (x3_1 : Int) := DT; have q200 : x3_1 < (l0.length : Int) := DT; obtain ⟨ad200, e200, hx200_0, hx200_1, hx200_2, hx200_3, hx200_4⟩ := at_T76 HR0.out x3_1 p200 q200; obtain rfl : ad196 = ad200 := (by injection e200); replace hx200_0 := BD HB.out hx200_0; replace hx200_1 := BD HB.out hx200_1; replace hx200_2 := BD HB.out hx200_2; replace hx200_3 := BD HB.out hx200_3; replace hx200_4 := BD HB.out hx200_4; replace p200 := eq_true p200; replace q200 := eq_true q200; have p201 : 0 ≤ ((ji7) : Int) := DT; have q201 : (ji7) < (l0.length : Int) := DT; obtain ⟨ad201, e201, hx201_0, hx201_1, hx201_2, hx201_3, hx201_4⟩ := at_T76 HR0.out (ji7) p201 q201; obtain rfl : ad196 = ad201 := (by injection e201); replace hx201_0 := BD HB.out hx201_0; replace hx201_1 := BD HB.out hx201_1; replace hx201_2 := BD HB.out hx201_2; replace hx201_3 := BD HB.out hx201_3; replace hx201_4 := BD HB.out hx201_4; replace p201 := eq_true p201; replace q201 := eq_true q201))
   repeat (go_quiet (first | (go_at_call 194; (with_reducible refine (spec_IsValidVersion.calls k1 ((rd_T76 l0 x3_1).f0) ((rd_T76 l0 x3_1).f1) ((rd_T76 l0 x3_1).f2) ((rd_T76 l0 x3_1).f3) ((rd_T76 l0 x3_1).f4) true _ A4.out).mono ?_); rintro e w13 ⟨rfl, hb⟩; have n0_ := AM_ (below_step (BT HB.out) hb); clear HB; have HB := n0_; clear n0_; (try clear hb); (try clear hb2); (try clear hk); (try clear hi); have p198 : 0 ≤ (x3_1 : Int) := DT; have q198 : x3_1 < (l0.length : Int) := DT; obtain ⟨ad198, e198, hx198_0, hx198_1, hx198_2, hx198_3, hx198_4⟩ := at_T76 HR0.out x3_1 p198 q198; obtain rfl : ad196 = ad198 := (by injection e198); replace hx198_0 := BD HB.out hx198_0; replace hx198_1 := BD HB.out hx198_1; replace hx198_2 := BD HB.out hx198_2; replace hx198_3 := BD HB.out hx198_3; replace hx198_4 := BD HB.out hx198_4; replace p198 := eq_true p198; replace q198 := eq_true q198; have p199 : 0 ≤ ((ji7) : Int) := DT; have q199 : (ji7) < (l0.length : Int) := DT; obtain ⟨ad199, e199, hx199_0, hx199_1, hx199_2, hx199_3, hx199_4⟩ := at_T76 HR0.out (ji7) p199 q199; obtain rfl : ad196 = ad199 := (by injection e199); replace hx199_0 := BD HB.out hx199_0; replace hx199_1 := BD HB.out hx199_1; replace hx199_2 := BD HB.out hx199_2; replace hx199_3 := BD HB.out hx199_3; replace hx199_4 := BD HB.out hx199_4; replace p199 := eq_true p199; replace q199 := eq_true q199; have p200 : 0 ≤ (x3_1 : Int) := DT; have q200 : x3_1 < (l0.length : Int) := DT; obtain ⟨ad200, e200, hx200_0, hx200_1, hx200_2, hx200_3, hx200_4⟩ := at_T76 HR0.out x3_1 p200 q200; obtain rfl : ad196 = ad200 := (by injection e200); replace hx200_0 := BD HB.out hx200_0; replace hx200_1 := BD HB.out hx200_1; replace hx200_2 := BD HB.out hx200_2; replace hx200_3 := BD HB.out hx200_3; replace hx200_4 := BD HB.out hx200_4; replace p200 := eq_true p200; replace q200 := eq_true q200; have p201 : 0 ≤ ((ji7) : Int) := DT; have q201 : (ji7) < (l0.length : Int) := DT; obtain ⟨ad201, e201, hx201_0, hx201_1, hx201_2, hx201_3, hx201_4⟩ := at_T76 HR0.out (ji7) p201 q201; obtain rfl : ad196 = ad201 := (by injection e201); replace hx201_0 := BD HB.out hx201_0; replace hx201_1 := BD HB.out hx201_1; replace hx201_2 := BD HB.out hx201_2; replace hx201_3 := BD HB.out hx201_3; replace hx201_4 := BD HB.out hx201_4; replace p201 := eq_true p201; replace q201 := eq_true q201)); try go_wp2_with (first | (go_at_call 194; (with_reducible refine (spec_IsValidVersion.calls k1 ((rd_T76 l0 x3_1).f0) ((rd_T76 l0 x3_1).f1) ((rd_T76 l0 x3_1).f2) ((rd_T76 l0 x3_1).f3) ((rd_T76 l0 x3_1).f4) true _ A4.out).mono ?_); rintro e w13 ⟨rfl, hb⟩; have n0_ := AM_ (below_step (BT HB.out) hb); clear HB; have HB := n0_; clear n0_; (try clear hb); (try clear hb2); (try clear hk); (try clear hi); have p198 : 0 ≤ (x3_1 : Int) := DT; have q198 : x3_1 < (l0.length : Int) := DT; obtain ⟨ad198, e198, hx198_0, hx198_1, hx198_2, hx198_3, hx198_4⟩ := at_T76 HR0.out x3_1 p198 q198; obtain rfl : ad196 = ad198 := (by injection e198); replace hx198_0 := BD HB.out hx198_0; replace hx198_1 := BD HB.out hx198_1; replace hx198_2 := BD HB.out hx198_2; replace hx198_3 := BD HB.out hx198_3; replace hx198_4 := BD HB.out hx198_4; replace p198 := eq_true p198; replace q198 := eq_true q198; have p199 : 0 ≤ ((ji7) : Int) := DT; have q199 : (ji7) < (l0.length : Int) := DT; obtain ⟨ad199, e199, hx199_0, hx199_1, hx199_2, hx199_3, hx199_4⟩ := at_T76 HR0.out (ji7) p199 q199; obtain rfl : ad196 = ad199 := (by injection e199); replace hx199_0 := BD HB.out hx199_0; replace hx199_1 := BD HB.out hx199_1; replace hx199_2 := BD HB.out hx199_2; replace hx199_3 := BD HB.out hx199_3; replace hx199_4 := BD HB.out hx199_4; replace p199 := eq_true p199; replace q199 := eq_true q199; have p200 : 0 ≤ (x3_1 : Int) := DT; have q200 : x3_1 < (l0.length : Int) := DT; obtain ⟨ad200, e200, hx200_0, hx200_1, hx200_2, hx200_3, hx200_4⟩ := at_T76 HR0.out x3_1 p200 q200; obtain rfl : ad196 = ad200 := (by injection e200); replace hx200_0 := BD HB.out hx200_0; replace hx200_1 := BD HB.out hx200_1; replace hx200_2 := BD HB.out hx200_2; replace hx200_3 := BD HB.out hx200_3; replace hx200_4 := BD HB.out hx200_4; replace p200 := eq_true p200; replace q200 := eq_true q200; have p201 : 0 ≤ ((ji7) : Int) := DT; have q201 : (ji7) < (l0.length : Int) := DT; obtain ⟨ad201, e201, hx201_0, hx201_1, hx201_2, hx201_3, hx201_4⟩ := at_T76 HR0.out (ji7) p201 q201; obtain rfl : ad196 = ad201 := (by injection e201); replace hx201_0 := BD HB.out hx201_0; replace hx201_1 := BD HB.out hx201_1; replace hx201_2 := BD HB.out hx201_2; replace hx201_3 := BD HB.out hx201_3; replace hx201_4 := BD HB.out hx201_4; replace p201 := eq_true p201; replace q201 := eq_true q201)))
   go_roundg k1
   case measure => have := HK1.out; omega
   case rel => exact ⟨(ji7), (by first | rfl | (simp; done) | (simp only [← hji7] <;> (first | rfl | simp)) | (simp [*]; done)), H', ⟨by have := HK1.out; omega⟩, ⟨BT HB.out⟩⟩

/-! ### spec_LatestVersion: function 55 -/
def spec_LatestVersion.f (k : Nat) (l0 : List (S76)) : Option (Int × Int × Int × Int × Int) := (spec_IsValidChain.f k l0).bind fun t203 => (if t203 = true then (if 0 ≤ (wrap64 ((l0.length : Int) - 1)) then (if (wrap64 ((l0.length : Int) - 1)) < (l0.length : Int) then (some ((rd_T76 l0 (wrap64 ((l0.length : Int) - 1))).f0, (rd_T76 l0 (wrap64 ((l0.length : Int) - 1))).f1, (rd_T76 l0 (wrap64 ((l0.length : Int) - 1))).f2, (rd_T76 l0 (wrap64 ((l0.length : Int) - 1))).f3, (rd_T76 l0 (wrap64 ((l0.length : Int) - 1))).f4)) else (none)) else (none)) else (some (0, 0, 0, 0, 0)))
theorem spec_LatestVersion.mono : ∀ a0 k, LeO (spec_LatestVersion.f k a0) (spec_LatestVersion.f (k + 1) a0) := by
 intro a0 k
 unfold spec_LatestVersion.f
 repeat' first
   | (with_reducible exact spec_IsValidChain.mono _ _)
   | (with_reducible exact LeO.refl _)
   | (with_reducible exact LeO.none _)
   | (with_reducible refine LeO.ite ?_ ?_)
   | (with_reducible refine LeO.bind ?_ (fun _ => ?_))
   | exact spec_IsValidChain.mono _ _
   | exact LeO.none _
   | refine LeO.ite ?_ ?_
   | refine LeO.bind ?_ (fun _ => ?_)
set_option maxHeartbeats 8000000 in
set_option maxRecDepth 100000 in
theorem spec_LatestVersion.calls (k : Nat) (A0 : Option Addr) (c0 : Nat) (l0 : List (S76)) (r1 : Int) (r2 : Int) (r3 : Int) (r4 : Int) (r5 : Int) (w : World) (hr0 : Kd.C k76 w A0 l0.length l0) (hc0 : l0.length ≤ c0) (h : spec_LatestVersion.f k l0 = some (r1, r2, r3, r4, r5)) :
  Calls Try.prog 55 #[.slice A0 l0.length c0] w fun e w' => e = .returned (.agg #[.int .i64 r1, .int .i64 r2, .int .i64 r3, .int .i64 r4, .int .i64 r5]) ∧ Below w.heap.size w w' := by
 have hu76 := Try.underlying76
 have HR0 := AM_ hr0
 have HC0 := AM_ hc0
 clear hr0 hc0
 have HB := AM_ (Below.refl w.heap.size w)
 have H : ((spec_IsValidChain.f k l0).bind fun t203 => (if t203 = true then (if 0 ≤ (wrap64 ((l0.length : Int) - 1)) then (if (wrap64 ((l0.length : Int) - 1)) < (l0.length : Int) then (some ((rd_T76 l0 (wrap64 ((l0.length : Int) - 1))).f0, (rd_T76 l0 (wrap64 ((l0.length : Int) - 1))).f1, (rd_T76 l0 (wrap64 ((l0.length : Int) - 1))).f2, (rd_T76 l0 (wrap64 ((l0.length : Int) - 1))).f3, (rd_T76 l0 (wrap64 ((l0.length : Int) - 1))).f4)) else (none)) else (none)) else (some (0, 0, 0, 0, 0)))) = some (r1, r2, r3, r4, r5) := h
 clear h
 replace H := Option.bind_eq_some_iff.mp H
 obtain ⟨t203, A20, H⟩ := H
 replace H : (if t203 = true then (if 0 ≤ (wrap64 ((l0.length : Int) - 1)) then (if (wrap64 ((l0.length : Int) - 1)) < (l0.length : Int) then (some ((rd_T76 l0 (wrap64 ((l0.length : Int) - 1))).f0, (rd_T76 l0 (wrap64 ((l0.length : Int) - 1))).f1, (rd_T76 l0 (wrap64 ((l0.length : Int) - 1))).f2, (rd_T76 l0 (wrap64 ((l0.length : Int) - 1))).f3, (rd_T76 l0 (wrap64 ((l0.length : Int) - 1))).f4)) else (none)) else (none)) else (some (0, 0, 0, 0, 0))) = some (r1, r2, r3, r4, r5) := H
 have A2 := AM_ A20
 clear A20
 by_cases c3 : t203 = true
 rotate_left
 ·replace c3 := Bool.eq_false_iff.mpr c3
  subst c3
  have H1 : (some (0, 0, 0, 0, 0)) = some (r1, r2, r3, r4, r5) := by rw [if_neg (show ¬ (false = true) by decide)] at H; exact H
  clear H
  have H := H1
  clear H1
  simp only [Option.some.injEq, Prod.mk.injEq] at H
  obtain ⟨rfl, rfl, rfl, rfl, rfl⟩ := H
  go_enter Try.func55, Try.ntmps55
  go_wp2_with (first | ((with_reducible refine gate_dst (N := 2) rfl ?_); refine box_event ?hg (N := 2) ?hd (cs := #[.int .i64 0, .int .i64 0, .int .i64 0, .int .i64 0, .int .i64 0]) (t := 76) ?hr ?_; (case hd => rfl); (case hg => rfl); (case hr => first | (go_simp; done) | (go_simp; rfl)); intro gb202 hg w10 hbox hb; have n0_ := AM_ (below_step (BT HB.out) hb); have n1_ := AM_ (hbox); have n2_ := AM_ ((GS HB.out hg)); have n3_ := AM_ ((GS HB.out hg)); clear HB; have HB := n0_; have BK202 := n1_; have GW202 := n2_; have GE202 := n3_; clear n0_ n1_ n2_ n3_; clear hb hbox hg) | ((with_reducible refine gate_callee (f := 136) rfl ?_); refine goesL_ (some 4) rfl rfl Try.func136 (by kernel_rfl) rfl #[.slice A0 l0.length c0] rfl (by (try simp only [List.map_toArray, List.map_cons, List.map_nil]); first | done | rfl | (simp only [List.length_drop, List.length_take]; rfl)) ?_; (with_reducible refine (spec_IsValidChain.calls k _ _ l0 false _ ?side1 ?side2 A2.out).mono ?_); (case side1 => exact CB HR0.out HB.out); (case side2 => exact HC0.out); rintro e w11 ⟨rfl, hb⟩; refine ⟨_, rfl, ?_⟩; have n0_ := AM_ (BB BK202.out hb); have n1_ := AM_ (below_step (BT HB.out) hb); clear BK202; clear HB; have BK202 := n0_; have HB := n1_; clear n0_ n1_; (try clear hb); (try clear hb2); (try clear hk); (try clear hi); obtain ⟨hcz12_0, hcz12_1, hcz12_2, hcz12_3, hcz12_4, hfz12_0, hfz12_1, hfz12_2, hfz12_3, hfz12_4⟩ := bk5 BK202.out))
  refine bodyPost_ret (results_cell_row rfl _ _ gb202 76 #[.int .i64 0, .int .i64 0, .int .i64 0, .int .i64 0, .int .i64 0] (0, 0) _ rfl (by (with_reducible repeat (first | refine blk_drewN ?_ _ | refine blk_drew ?_ | refine blk_alloc ?_ _)); refine blk_put (cs := #[.int .i64 0, .int .i64 0, .int .i64 0, .int .i64 0, .int .i64 0]) ?_ 4 _ rfl; (with_reducible repeat (first | refine blk_drewN ?_ _ | refine blk_drew ?_ | refine blk_alloc ?_ _)); refine blk_put (cs := #[.int .i64 0, .int .i64 0, .int .i64 0, .int .i64 0, .int .i64 0]) ?_ 3 _ rfl; (with_reducible repeat (first | refine blk_drewN ?_ _ | refine blk_drew ?_ | refine blk_alloc ?_ _)); refine blk_put (cs := #[.int .i64 0, .int .i64 0, .int .i64 0, .int .i64 0, .int .i64 0]) ?_ 2 _ rfl; (with_reducible repeat (first | refine blk_drewN ?_ _ | refine blk_drew ?_ | refine blk_alloc ?_ _)); refine blk_put (cs := #[.int .i64 0, .int .i64 0, .int .i64 0, .int .i64 0, .int .i64 0]) ?_ 1 _ rfl; (with_reducible repeat (first | refine blk_drewN ?_ _ | refine blk_drew ?_ | refine blk_alloc ?_ _)); refine blk_put (cs := #[.int .i64 0, .int .i64 0, .int .i64 0, .int .i64 0, .int .i64 0]) ?_ 0 _ rfl; (with_reducible repeat (first | refine blk_drewN ?_ _ | refine blk_drew ?_ | refine blk_alloc ?_ _)); exact BK202.out) Try.underlying76 rfl (by kernel_rfl)) rfl ?_
  exact QT (BT HB.out)
 subst c3
 have H1 : (if 0 ≤ (wrap64 ((l0.length : Int) - 1)) then (if (wrap64 ((l0.length : Int) - 1)) < (l0.length : Int) then (some ((rd_T76 l0 (wrap64 ((l0.length : Int) - 1))).f0, (rd_T76 l0 (wrap64 ((l0.length : Int) - 1))).f1, (rd_T76 l0 (wrap64 ((l0.length : Int) - 1))).f2, (rd_T76 l0 (wrap64 ((l0.length : Int) - 1))).f3, (rd_T76 l0 (wrap64 ((l0.length : Int) - 1))).f4)) else (none)) else (none)) = some (r1, r2, r3, r4, r5) := by rw [if_pos rfl] at H; exact H
 clear H
 have H := H1
 clear H1
 obtain ⟨ji4, hji4⟩ : ∃ j_ : Int, (wrap64 ((l0.length : Int) - 1)) = j_ := ⟨_, rfl⟩
 replace H : (if 0 ≤ (ji4) then (if (ji4) < (l0.length : Int) then (some ((rd_T76 l0 (ji4)).f0, (rd_T76 l0 (ji4)).f1, (rd_T76 l0 (ji4)).f2, (rd_T76 l0 (ji4)).f3, (rd_T76 l0 (ji4)).f4)) else (none)) else (none)) = some (r1, r2, r3, r4, r5) := by first | (rw [hji4] at H; exact H) | (simp only [hji4] at H ⊢; exact H)
 (try rw [hji4] at A2)
 have hji4w : (IntKind.i64.wrap ((l0.length : Int) - 1)) = ji4 := (i64_w _).trans hji4
 by_cases c5 : 0 ≤ (ji4)
 rotate_left
 ·rw [if_neg c5] at H
  exact absurd H (by simp)
 rw [if_pos c5] at H
 have c5b0 : decide (0 ≤ (ji4)) = true := decide_eq_true c5
 clear c5
 by_cases c6 : (ji4) < (l0.length : Int)
 rotate_left
 ·rw [if_neg c6] at H
  exact absurd H (by simp)
 rw [if_pos c6] at H
 have c6b0 : decide ((ji4) < (l0.length : Int)) = true := decide_eq_true c6
 clear c6
 simp only [Option.some.injEq, Prod.mk.injEq] at H
 obtain ⟨rfl, rfl, rfl, rfl, rfl⟩ := H
 go_enter Try.func55, Try.ntmps55
 go_wp2_with (first | ((with_reducible refine gate_dst (N := 2) rfl ?_); refine box_event ?hg (N := 2) ?hd (cs := #[.int .i64 0, .int .i64 0, .int .i64 0, .int .i64 0, .int .i64 0]) (t := 76) ?hr ?_; (case hd => rfl); (case hg => rfl); (case hr => first | (go_simp; done) | (go_simp; rfl)); intro gb202 hg w7 hbox hb; have n0_ := AM_ (below_step (BT HB.out) hb); have n1_ := AM_ (hbox); have n2_ := AM_ ((GS HB.out hg)); have n3_ := AM_ ((GS HB.out hg)); clear HB; have HB := n0_; have BK202 := n1_; have GW202 := n2_; have GE202 := n3_; clear n0_ n1_ n2_ n3_; clear hb hbox hg) | ((with_reducible refine gate_callee (f := 136) rfl ?_); refine goesL_ (some 4) rfl rfl Try.func136 (by kernel_rfl) rfl #[.slice A0 l0.length c0] rfl (by (try simp only [List.map_toArray, List.map_cons, List.map_nil]); first | done | rfl | (simp only [List.length_drop, List.length_take]; rfl)) ?_; (with_reducible refine (spec_IsValidChain.calls k _ _ l0 true _ ?side1 ?side2 A2.out).mono ?_); (case side1 => exact CB HR0.out HB.out); (case side2 => exact HC0.out); rintro e w8 ⟨rfl, hb⟩; refine ⟨_, rfl, ?_⟩; have n0_ := AM_ (BB BK202.out hb); have n1_ := AM_ (below_step (BT HB.out) hb); clear BK202; clear HB; have BK202 := n0_; have HB := n1_; clear n0_ n1_; (try clear hb); (try clear hb2); (try clear hk); (try clear hi); have p204 : 0 ≤ ((ji4) : Int) := DT; have q204 : (ji4) < (l0.length : Int) := DT; obtain ⟨ad204, e204, hx204_0, hx204_1, hx204_2, hx204_3, hx204_4⟩ := at_T76 HR0.out (ji4) p204 q204; cases e204; replace hx204_0 := BD HB.out hx204_0; replace hx204_1 := BD HB.out hx204_1; replace hx204_2 := BD HB.out hx204_2; replace hx204_3 := BD HB.out hx204_3; replace hx204_4 := BD HB.out hx204_4; replace p204 := eq_true p204; replace q204 := eq_true q204; obtain ⟨hcz9_0, hcz9_1, hcz9_2, hcz9_3, hcz9_4, hfz9_0, hfz9_1, hfz9_2, hfz9_3, hfz9_4⟩ := bk5 BK202.out))
 refine bodyPost_ret (results_cell_row rfl _ _ gb202 76 #[.int .i64 ((rd_T76 l0 (ji4)).f0), .int .i64 ((rd_T76 l0 (ji4)).f1), .int .i64 ((rd_T76 l0 (ji4)).f2), .int .i64 ((rd_T76 l0 (ji4)).f3), .int .i64 ((rd_T76 l0 (ji4)).f4)] (0, 0) _ rfl (by (with_reducible repeat (first | refine blk_drewN ?_ _ | refine blk_drew ?_ | refine blk_alloc ?_ _)); refine blk_put (cs := #[.int .i64 ((rd_T76 l0 (ji4)).f0), .int .i64 ((rd_T76 l0 (ji4)).f1), .int .i64 ((rd_T76 l0 (ji4)).f2), .int .i64 ((rd_T76 l0 (ji4)).f3), .int .i64 0]) ?_ 4 _ rfl; (with_reducible repeat (first | refine blk_drewN ?_ _ | refine blk_drew ?_ | refine blk_alloc ?_ _)); refine blk_put (cs := #[.int .i64 ((rd_T76 l0 (ji4)).f0), .int .i64 ((rd_T76 l0 (ji4)).f1), .int .i64 ((rd_T76 l0 (ji4)).f2), .int .i64 0, .int .i64 0]) ?_ 3 _ rfl; (with_reducible repeat (first | refine blk_drewN ?_ _ | refine blk_drew ?_ | refine blk_alloc ?_ _)); refine blk_put (cs := #[.int .i64 ((rd_T76 l0 (ji4)).f0), .int .i64 ((rd_T76 l0 (ji4)).f1), .int .i64 0, .int .i64 0, .int .i64 0]) ?_ 2 _ rfl; (with_reducible repeat (first | refine blk_drewN ?_ _ | refine blk_drew ?_ | refine blk_alloc ?_ _)); refine blk_put (cs := #[.int .i64 ((rd_T76 l0 (ji4)).f0), .int .i64 0, .int .i64 0, .int .i64 0, .int .i64 0]) ?_ 1 _ rfl; (with_reducible repeat (first | refine blk_drewN ?_ _ | refine blk_drew ?_ | refine blk_alloc ?_ _)); refine blk_put (cs := #[.int .i64 0, .int .i64 0, .int .i64 0, .int .i64 0, .int .i64 0]) ?_ 0 _ rfl; (with_reducible repeat (first | refine blk_drewN ?_ _ | refine blk_drew ?_ | refine blk_alloc ?_ _)); exact BK202.out) Try.underlying76 rfl (by kernel_rfl)) rfl ?_
 exact ⟨by first | rfl | (simp [errW_none, errW_some] <;> rfl) | (simp only [← hji4]; first | rfl | (simp [errW_none, errW_some] <;> rfl)) | (simp [*, errW_none, errW_some] <;> rfl), BT HB.out⟩

/-! ### spec_IsValidStore: function 140 -/
def spec_IsValidStore.l0 : Nat → Int → List (List (S76)) → Option (Bool)
 | 0, _, _ => none
 | k + 1, x3, x206000 => if x3 < (x206000.length : Int) then (if 0 ≤ x3 then ((spec_IsValidChain.f k (rd_L6 x206000 x3)).bind fun t207 => (if t207 = true then (if 0 < ((rd_L6 x206000 x3).length : Int) then (if ((rd_T76 (rd_L6 x206000 x3) 0).f2) > 0 then (if ((rd_L6 x206000 x3).length : Int) > 50 then (some false) else (spec_IsValidStore.l0 k (wrap64 (x3 + 1)) x206000)) else (if ((rd_L6 x206000 x3).length : Int) > 50 then (some false) else (spec_IsValidStore.l0 k (wrap64 (x3 + 1)) x206000))) else (none)) else (some false))) else (none)) else (some ((x206000.length : Int) == 6))
def spec_IsValidStore.f (k : Nat) (l0_0 : List (List (S76))) : Option (Bool) := spec_IsValidStore.l0 k 0 l0_0
theorem spec_IsValidStore.mono_l : ∀ k, (∀ y0 y1, LeO (spec_IsValidStore.l0 k y0 y1) (spec_IsValidStore.l0 (k + 1) y0 y1))
 | 0 => fun _ _ r h => by simp [spec_IsValidStore.l0] at h
 | k + 1 => by
  have ih0 := spec_IsValidStore.mono_l k
  ·intro y0 y1
   unfold spec_IsValidStore.l0
   repeat' first
   | (with_reducible exact ih0 _ _)
   | (with_reducible exact spec_IsValidChain.mono _ _)
   | (with_reducible exact LeO.refl _)
   | (with_reducible exact LeO.none _)
   | (with_reducible refine LeO.ite ?_ ?_)
   | (with_reducible refine LeO.bind ?_ (fun _ => ?_))
   | exact ih0 _ _
   | exact spec_IsValidChain.mono _ _
   | exact LeO.none _
   | refine LeO.ite ?_ ?_
   | refine LeO.bind ?_ (fun _ => ?_)
theorem spec_IsValidStore.mono : ∀ a0 k, LeO (spec_IsValidStore.f k a0) (spec_IsValidStore.f (k + 1) a0) := by
 intro a0 k
 have ih0 := spec_IsValidStore.mono_l k
 unfold spec_IsValidStore.f
 repeat' first
   | (with_reducible exact ih0 _ _)
   | (with_reducible exact spec_IsValidChain.mono _ _)
   | (with_reducible exact LeO.refl _)
   | (with_reducible exact LeO.none _)
   | (with_reducible refine LeO.ite ?_ ?_)
   | (with_reducible refine LeO.bind ?_ (fun _ => ?_))
   | exact ih0 _ _
   | exact spec_IsValidChain.mono _ _
   | exact LeO.none _
   | refine LeO.ite ?_ ?_
   | refine LeO.bind ?_ (fun _ => ?_)
set_option maxHeartbeats 8000000 in
set_option maxRecDepth 100000 in
theorem spec_IsValidStore.calls (k : Nat) (A0_0 : Option Addr) (c0_0 : Nat) (l0_0 : List (List (S76))) (r : Bool) (w : World) (hr0_0 : Kd.C (Kd.slice 76 k76) w A0_0 l0_0.length l0_0) (hc0_0 : l0_0.length ≤ c0_0) (h : spec_IsValidStore.f k l0_0 = some r) :
  Calls Try.prog 140 #[.agg #[.slice A0_0 l0_0.length c0_0]] w fun e w' => e = .returned (.bool r) ∧ Below w.heap.size w w' := by
 have hu49 := Try.underlying49
 have HR0_0 := AM_ hr0_0
 have HC0_0 := AM_ hc0_0
 clear hr0_0 hc0_0
 have HB := AM_ (Below.refl w.heap.size w)
 have H : (spec_IsValidStore.l0 k 0 l0_0) = some r := h
 clear h
 have H' := AM_ H
 clear H
 go_enter Try.func140, Try.ntmps140
 go_wp2_with (first | ((with_reducible refine gate_dst (N := 1) rfl ?_); (try (refine gate_guard (by rfl) ?_; dsimp only)); refine box_event ?hg (N := 1) ?hd (cs := #[.slice A0_0 l0_0.length c0_0]) (t := 49) ?hr ?_; (case hd => rfl); (case hg => rfl); (case hr => first | (go_simp; done) | (go_simp; rfl)); intro gb205 hg w2 hbox hb; have n0_ := AM_ (below_step (BT HB.out) hb); have n1_ := AM_ (hbox); have n2_ := AM_ ((GS HB.out hg)); have n3_ := AM_ ((GS HB.out hg)); clear HB; have HB := n0_; have BK205 := n1_; have GW205 := n2_; have GE205 := n3_; clear n0_ n1_ n2_ n3_; clear hb hbox hg))
 go_loopg [3] k (fun kq v3 w' => ∃ (x3_1 : Int), v3 = .int .i64 x3_1 ∧ Aside0 (spec_IsValidStore.l0 kq x3_1 l0_0 = some r) ∧ Aside0 (kq ≤ k) ∧ Aside0 (w'.heap[gb205]? = some (.cells #[(.slice A0_0 l0_0.length c0_0)] 49 (0, 0))) ∧ Aside0 (Below w.heap.size w w'))
 case atStart => exact ⟨(0), (by first | rfl | (simp; done) | (simp [*]; done)), H', ⟨Nat.le_refl _⟩, ⟨BH BK205.out⟩, ⟨BT HB.out⟩⟩
 case round =>
  clear H'
  try clear c1
  try clear p2
  obtain ⟨x3_1, rfl, HA, HK1, BK205, HB⟩ := hrel
  cases gk with
  | zero => exact absurd HA.out (by simp [spec_IsValidStore.l0])
  | succ k1 =>
   have H := HA.out
   clear HA
   simp only [spec_IsValidStore.l0] at H
   by_cases c3 : x3_1 < (l0_0.length : Int)
   rotate_left
   ·rw [if_neg c3] at H
    have c3b0 : decide (x3_1 < (l0_0.length : Int)) = false := decide_eq_false c3
    clear c3
    obtain rfl := Option.some.inj H
    obtain ⟨hcz25_0, hfz25_0⟩ := bk1 BK205.out
    go_wp2
    go_ret
    exact QT (BT HB.out)
   rw [if_pos c3] at H
   have c3b0 : decide (x3_1 < (l0_0.length : Int)) = true := decide_eq_true c3
   clear c3
   by_cases c4 : 0 ≤ x3_1
   rotate_left
   ·rw [if_neg c4] at H
    exact absurd H (by simp)
   rw [if_pos c4] at H
   have c4b0 : decide (0 ≤ x3_1) = true := decide_eq_true c4
   clear c4
   replace H := Option.bind_eq_some_iff.mp H
   obtain ⟨t207, A50, H⟩ := H
   replace H : (if t207 = true then (if 0 < ((rd_L6 l0_0 x3_1).length : Int) then (if ((rd_T76 (rd_L6 l0_0 x3_1) 0).f2) > 0 then (if ((rd_L6 l0_0 x3_1).length : Int) > 50 then (some false) else (spec_IsValidStore.l0 k1 (wrap64 (x3_1 + 1)) l0_0)) else (if ((rd_L6 l0_0 x3_1).length : Int) > 50 then (some false) else (spec_IsValidStore.l0 k1 (wrap64 (x3_1 + 1)) l0_0))) else (none)) else (some false)) = some r := H
   have A5 := AM_ A50
   clear A50
   by_cases c6 : t207 = true
   rotate_left
   ·replace c6 := Bool.eq_false_iff.mpr c6
    subst c6
    have H1 : (some false) = some r := by rw [if_neg (show ¬ (false = true) by decide)] at H; exact H
    clear H
    have H := H1
    clear H1
    obtain rfl := Option.some.inj H
    obtain ⟨hcz23_0, hfz23_0⟩ := bk1 BK205.out
    have p206 : 0 ≤ (x3_1 : Int) := DT
    have q206 : x3_1 < (l0_0.length : Int) := DT
    obtain ⟨ad206, A206_0, c206_0, e206, hx206_0, hl206_0, hi206_0⟩ := at_L6 HR0_0.out x3_1 p206 q206
    cases e206
    replace hx206_0 := BC HB.out hx206_0
    have HR206_0 := AM_ hi206_0
    have HC206_0 := AM_ hl206_0
    clear hi206_0 hl206_0
    replace p206 := eq_true p206
    replace q206 := eq_true q206
    go_wp2_with (first | ((with_reducible refine gate_callee (f := 136) rfl ?_); refine goesL_ (some 16) rfl rfl Try.func136 (by kernel_rfl) rfl #[.slice A206_0 (rd_L6 l0_0 x3_1).length c206_0] rfl (by (try simp only [List.map_toArray, List.map_cons, List.map_nil]); first | done | rfl | (simp only [List.length_drop, List.length_take]; rfl)) ?_; (with_reducible refine (spec_IsValidChain.calls k1 _ _ (rd_L6 l0_0 x3_1) false _ ?side1 ?side2 A5.out).mono ?_); (case side1 => exact CB HR206_0.out HB.out); (case side2 => exact HC206_0.out); rintro e w24 ⟨rfl, hb⟩; refine ⟨_, rfl, ?_⟩; have n0_ := AM_ (BB BK205.out hb); have n1_ := AM_ (below_step (BT HB.out) hb); clear BK205; clear HB; have BK205 := n0_; have HB := n1_; clear n0_ n1_; (try clear hb); (try clear hb2); (try clear hk); (try clear hi)))
    go_ret
    exact QT (BT HB.out)
   subst c6
   have H1 : (if 0 < ((rd_L6 l0_0 x3_1).length : Int) then (if ((rd_T76 (rd_L6 l0_0 x3_1) 0).f2) > 0 then (if ((rd_L6 l0_0 x3_1).length : Int) > 50 then (some false) else (spec_IsValidStore.l0 k1 (wrap64 (x3_1 + 1)) l0_0)) else (if ((rd_L6 l0_0 x3_1).length : Int) > 50 then (some false) else (spec_IsValidStore.l0 k1 (wrap64 (x3_1 + 1)) l0_0))) else (none)) = some r := by rw [if_pos rfl] at H; exact H
   clear H
   have H := H1
   clear H1
   by_cases c7 : 0 < ((rd_L6 l0_0 x3_1).length : Int)
   rotate_left
   ·rw [if_neg c7] at H
    exact absurd H (by simp)
   rw [if_pos c7] at H
   have c7b0 : decide (0 < ((rd_L6 l0_0 x3_1).length : Int)) = true := decide_eq_true c7
   have c7b1 : decide (0 < (rd_L6 l0_0 x3_1).length) = true := decide_eq_true (by omega)
   clear c7
   by_cases c8 : ((rd_T76 (rd_L6 l0_0 x3_1) 0).f2) > 0
   rotate_left
   ·rw [if_neg c8] at H
    have c8b0 : decide (0 < ((rd_T76 (rd_L6 l0_0 x3_1) 0).f2)) = false := decide_eq_false c8
    clear c8
    by_cases c16 : ((rd_L6 l0_0 x3_1).length : Int) > 50
    ·rw [if_pos c16] at H
     have c16b0 : decide (50 < ((rd_L6 l0_0 x3_1).length : Int)) = true := decide_eq_true c16
     have c16b1 : decide (50 < (rd_L6 l0_0 x3_1).length) = true := decide_eq_true (by omega)
     clear c16
     obtain rfl := Option.some.inj H
     obtain ⟨hcz17_0, hfz17_0⟩ := bk1 BK205.out
     have p206 : 0 ≤ (x3_1 : Int) := DT
     have q206 : x3_1 < (l0_0.length : Int) := DT
     obtain ⟨ad206, A206_0, c206_0, e206, hx206_0, hl206_0, hi206_0⟩ := at_L6 HR0_0.out x3_1 p206 q206
     cases e206
     replace hx206_0 := BC HB.out hx206_0
     have HR206_0 := AM_ hi206_0
     have HC206_0 := AM_ hl206_0
     clear hi206_0 hl206_0
     replace p206 := eq_true p206
     replace q206 := eq_true q206
     go_wp2_with (first | ((with_reducible refine gate_callee (f := 136) rfl ?_); refine goesL_ (some 16) rfl rfl Try.func136 (by kernel_rfl) rfl #[.slice A206_0 (rd_L6 l0_0 x3_1).length c206_0] rfl (by (try simp only [List.map_toArray, List.map_cons, List.map_nil]); first | done | rfl | (simp only [List.length_drop, List.length_take]; rfl)) ?_; (with_reducible refine (spec_IsValidChain.calls k1 _ _ (rd_L6 l0_0 x3_1) true _ ?side1 ?side2 A5.out).mono ?_); (case side1 => exact CB HR206_0.out HB.out); (case side2 => exact HC206_0.out); rintro e w18 ⟨rfl, hb⟩; refine ⟨_, rfl, ?_⟩; have n0_ := AM_ (BB BK205.out hb); have n1_ := AM_ (below_step (BT HB.out) hb); clear BK205; clear HB; have BK205 := n0_; have HB := n1_; clear n0_ n1_; (try clear hb); (try clear hb2); (try clear hk); (try clear hi); obtain ⟨hcz19_0, hfz19_0⟩ := bk1 BK205.out; have p208 : 0 ≤ (x3_1 : Int) := DT; have q208 : x3_1 < (l0_0.length : Int) := DT; obtain ⟨ad208, A208_0, c208_0, e208, hx208_0, hl208_0, hi208_0⟩ := at_L6 HR0_0.out x3_1 p208 q208; obtain rfl : ad206 = ad208 := (by injection e208); replace hx208_0 := BD HB.out hx208_0; have HR208_0 := AM_ hi208_0; have HC208_0 := AM_ hl208_0; clear hi208_0 hl208_0; replace p208 := eq_true p208; replace q208 := eq_true q208; have p209 : 0 ≤ (0 : Int) := (by omega); have q209 : 0 < ((rd_L6 l0_0 x3_1).length : Int) := DT; obtain ⟨ad209, e209, hx209_0, hx209_1, hx209_2, hx209_3, hx209_4⟩ := at_T76 HR208_0.out 0 p209 q209; cases e209; have qi209 : (0 < (rd_L6 l0_0 x3_1).length) = True := eq_true (by omega); (try rw [show ((0 : Int)).toNat = 0 from rfl] at hx209_0); (try rw [show 0 * 5 = 0 from rfl] at hx209_0); (try rw [Addr.add_zero'] at hx209_0); (try rw [show ((0 : Int)).toNat = 0 from rfl] at hx209_1); (try rw [show 0 * 5 = 0 from rfl] at hx209_1); (try rw [Addr.add_zero'] at hx209_1); (try rw [show ((0 : Int)).toNat = 0 from rfl] at hx209_2); (try rw [show 0 * 5 = 0 from rfl] at hx209_2); (try rw [Addr.add_zero'] at hx209_2); (try rw [show ((0 : Int)).toNat = 0 from rfl] at hx209_3); (try rw [show 0 * 5 = 0 from rfl] at hx209_3); (try rw [Addr.add_zero'] at hx209_3); (try rw [show ((0 : Int)).toNat = 0 from rfl] at hx209_4); (try rw [show 0 * 5 = 0 from rfl] at hx209_4); (try rw [Addr.add_zero'] at hx209_4); replace hx209_0 := BD HB.out hx209_0; replace hx209_1 := BD HB.out hx209_1; replace hx209_2 := BD HB.out hx209_2; replace hx209_3 := BD HB.out hx209_3; replace hx209_4 := BD HB.out hx209_4; replace p209 := eq_true p209; replace q209 := eq_true q209; have p212 : 0 ≤ (x3_1 : Int) := DT; have q212 : x3_1 < (l0_0.length : Int) := DT; obtain ⟨ad212, A212_0, c212_0, e212, hx212_0, hl212_0, hi212_0⟩ := at_L6 HR0_0.out x3_1 p212 q212; obtain rfl : ad206 = ad212 := (by injection e212); replace hx212_0 := BD HB.out hx212_0; have HR212_0 := AM_ hi212_0; have HC212_0 := AM_ hl212_0; clear hi212_0 hl212_0; replace p212 := eq_true p212; replace q212 := eq_true q212; have ea_ := Option.some.inj (hx208_0.symm.trans hx212_0); injection ea_ with ea_ en_ ec_; subst ea_; subst ec_; clear en_))
     go_ret
     exact QT (BT HB.out)
    rw [if_neg c16] at H
    have c16b0 : decide (50 < ((rd_L6 l0_0 x3_1).length : Int)) = false := decide_eq_false c16
    have c16b1 : decide (50 < (rd_L6 l0_0 x3_1).length) = false := decide_eq_false (by omega)
    clear c16
    have H' := AM_ H
    clear H
    obtain ⟨hcz20_0, hfz20_0⟩ := bk1 BK205.out
    have p206 : 0 ≤ (x3_1 : Int) := DT
    have q206 : x3_1 < (l0_0.length : Int) := DT
    obtain ⟨ad206, A206_0, c206_0, e206, hx206_0, hl206_0, hi206_0⟩ := at_L6 HR0_0.out x3_1 p206 q206
    cases e206
    replace hx206_0 := BC HB.out hx206_0
    have HR206_0 := AM_ hi206_0
    have HC206_0 := AM_ hl206_0
    clear hi206_0 hl206_0
    replace p206 := eq_true p206
    replace q206 := eq_true q206
    go_wp2_with (first | ((with_reducible refine gate_callee (f := 136) rfl ?_); refine goesL_ (some 16) rfl rfl Try.func136 (by kernel_rfl) rfl #[.slice A206_0 (rd_L6 l0_0 x3_1).length c206_0] rfl (by (try simp only [List.map_toArray, List.map_cons, List.map_nil]); first | done | rfl | (simp only [List.length_drop, List.length_take]; rfl)) ?_; (with_reducible refine (spec_IsValidChain.calls k1 _ _ (rd_L6 l0_0 x3_1) true _ ?side1 ?side2 A5.out).mono ?_); (case side1 => exact CB HR206_0.out HB.out); (case side2 => exact HC206_0.out); rintro e w21 ⟨rfl, hb⟩; refine ⟨_, rfl, ?_⟩; have n0_ := AM_ (BB BK205.out hb); have n1_ := AM_ (below_step (BT HB.out) hb); clear BK205; clear HB; have BK205 := n0_; have HB := n1_; clear n0_ n1_; (try clear hb); (try clear hb2); (try clear hk); (try clear hi); obtain ⟨hcz22_0, hfz22_0⟩ := bk1 BK205.out; have p208 : 0 ≤ (x3_1 : Int) := DT; have q208 : x3_1 < (l0_0.length : Int) := DT; obtain ⟨ad208, A208_0, c208_0, e208, hx208_0, hl208_0, hi208_0⟩ := at_L6 HR0_0.out x3_1 p208 q208; obtain rfl : ad206 = ad208 := (by injection e208); replace hx208_0 := BD HB.out hx208_0; have HR208_0 := AM_ hi208_0; have HC208_0 := AM_ hl208_0; clear hi208_0 hl208_0; replace p208 := eq_true p208; replace q208 := eq_true q208; have p209 : 0 ≤ (0 : Int) := (by omega); have q209 : 0 < ((rd_L6 l0_0 x3_1).length : Int) := DT; obtain ⟨ad209, e209, hx209_0, hx209_1, hx209_2, hx209_3, hx209_4⟩ := at_T76 HR208_0.out 0 p209 q209; cases e209; have qi209 : (0 < (rd_L6 l0_0 x3_1).length) = True := eq_true (by omega); (try rw [show ((0 : Int)).toNat = 0 from rfl] at hx209_0); (try rw [show 0 * 5 = 0 from rfl] at hx209_0); (try rw [Addr.add_zero'] at hx209_0); (try rw [show ((0 : Int)).toNat = 0 from rfl] at hx209_1); (try rw [show 0 * 5 = 0 from rfl] at hx209_1); (try rw [Addr.add_zero'] at hx209_1); (try rw [show ((0 : Int)).toNat = 0 from rfl] at hx209_2); (try rw [show 0 * 5 = 0 from rfl] at hx209_2); (try rw [Addr.add_zero'] at hx209_2); (try rw [show ((0 : Int)).toNat = 0 from rfl] at hx209_3); (try rw [show 0 * 5 = 0 from rfl] at hx209_3); (try rw [Addr.add_zero'] at hx209_3); (try rw [show ((0 : Int)).toNat = 0 from rfl] at hx209_4); (try rw [show 0 * 5 = 0 from rfl] at hx209_4); (try rw [Addr.add_zero'] at hx209_4); replace hx209_0 := BD HB.out hx209_0; replace hx209_1 := BD HB.out hx209_1; replace hx209_2 := BD HB.out hx209_2; replace hx209_3 := BD HB.out hx209_3; replace hx209_4 := BD HB.out hx209_4; replace p209 := eq_true p209; replace q209 := eq_true q209; have p212 : 0 ≤ (x3_1 : Int) := DT; have q212 : x3_1 < (l0_0.length : Int) := DT; obtain ⟨ad212, A212_0, c212_0, e212, hx212_0, hl212_0, hi212_0⟩ := at_L6 HR0_0.out x3_1 p212 q212; obtain rfl : ad206 = ad212 := (by injection e212); replace hx212_0 := BD HB.out hx212_0; have HR212_0 := AM_ hi212_0; have HC212_0 := AM_ hl212_0; clear hi212_0 hl212_0; replace p212 := eq_true p212; replace q212 := eq_true q212; have ea_ := Option.some.inj (hx208_0.symm.trans hx212_0); injection ea_ with ea_ en_ ec_; subst ea_; subst ec_; clear en_))
    go_roundg k1
    case measure => have := HK1.out; omega
    case rel => exact ⟨(wrap64 (x3_1 + 1)), (by first | rfl | (simp; done) | (simp [*]; done)), H', ⟨by have := HK1.out; omega⟩, ⟨BH BK205.out⟩, ⟨BT HB.out⟩⟩
   rw [if_pos c8] at H
   have c8b0 : decide (0 < ((rd_T76 (rd_L6 l0_0 x3_1) 0).f2)) = true := decide_eq_true c8
   clear c8
   by_cases c9 : ((rd_L6 l0_0 x3_1).length : Int) > 50
   ·rw [if_pos c9] at H
    have c9b0 : decide (50 < ((rd_L6 l0_0 x3_1).length : Int)) = true := decide_eq_true c9
    have c9b1 : decide (50 < (rd_L6 l0_0 x3_1).length) = true := decide_eq_true (by omega)
    clear c9
    obtain rfl := Option.some.inj H
    obtain ⟨hcz10_0, hfz10_0⟩ := bk1 BK205.out
    have p206 : 0 ≤ (x3_1 : Int) := DT
    have q206 : x3_1 < (l0_0.length : Int) := DT
    obtain ⟨ad206, A206_0, c206_0, e206, hx206_0, hl206_0, hi206_0⟩ := at_L6 HR0_0.out x3_1 p206 q206
    cases e206
    replace hx206_0 := BC HB.out hx206_0
    have HR206_0 := AM_ hi206_0
    have HC206_0 := AM_ hl206_0
    clear hi206_0 hl206_0
    replace p206 := eq_true p206
    replace q206 := eq_true q206
    go_wp2_with (first | ((with_reducible refine gate_callee (f := 136) rfl ?_); refine goesL_ (some 16) rfl rfl Try.func136 (by kernel_rfl) rfl #[.slice A206_0 (rd_L6 l0_0 x3_1).length c206_0] rfl (by (try simp only [List.map_toArray, List.map_cons, List.map_nil]); first | done | rfl | (simp only [List.length_drop, List.length_take]; rfl)) ?_; (with_reducible refine (spec_IsValidChain.calls k1 _ _ (rd_L6 l0_0 x3_1) true _ ?side1 ?side2 A5.out).mono ?_); (case side1 => exact CB HR206_0.out HB.out); (case side2 => exact HC206_0.out); rintro e w11 ⟨rfl, hb⟩; refine ⟨_, rfl, ?_⟩; have n0_ := AM_ (BB BK205.out hb); have n1_ := AM_ (below_step (BT HB.out) hb); clear BK205; clear HB; have BK205 := n0_; have HB := n1_; clear n0_ n1_; (try clear hb); (try clear hb2); (try clear hk); (try clear hi); obtain ⟨hcz12_0, hfz12_0⟩ := bk1 BK205.out; have p208 : 0 ≤ (x3_1 : Int) := DT; have q208 : x3_1 < (l0_0.length : Int) := DT; obtain ⟨ad208, A208_0, c208_0, e208, hx208_0, hl208_0, hi208_0⟩ := at_L6 HR0_0.out x3_1 p208 q208; obtain rfl : ad206 = ad208 := (by injection e208); replace hx208_0 := BD HB.out hx208_0; have HR208_0 := AM_ hi208_0; have HC208_0 := AM_ hl208_0; clear hi208_0 hl208_0; replace p208 := eq_true p208; replace q208 := eq_true q208; have p209 : 0 ≤ (0 : Int) := (by omega); have q209 : 0 < ((rd_L6 l0_0 x3_1).length : Int) := DT; obtain ⟨ad209, e209, hx209_0, hx209_1, hx209_2, hx209_3, hx209_4⟩ := at_T76 HR208_0.out 0 p209 q209; cases e209; have qi209 : (0 < (rd_L6 l0_0 x3_1).length) = True := eq_true (by omega); (try rw [show ((0 : Int)).toNat = 0 from rfl] at hx209_0); (try rw [show 0 * 5 = 0 from rfl] at hx209_0); (try rw [Addr.add_zero'] at hx209_0); (try rw [show ((0 : Int)).toNat = 0 from rfl] at hx209_1); (try rw [show 0 * 5 = 0 from rfl] at hx209_1); (try rw [Addr.add_zero'] at hx209_1); (try rw [show ((0 : Int)).toNat = 0 from rfl] at hx209_2); (try rw [show 0 * 5 = 0 from rfl] at hx209_2); (try rw [Addr.add_zero'] at hx209_2); (try rw [show ((0 : Int)).toNat = 0 from rfl] at hx209_3); (try rw [show 0 * 5 = 0 from rfl] at hx209_3); (try rw [Addr.add_zero'] at hx209_3); (try rw [show ((0 : Int)).toNat = 0 from rfl] at hx209_4); (try rw [show 0 * 5 = 0 from rfl] at hx209_4); (try rw [Addr.add_zero'] at hx209_4); replace hx209_0 := BD HB.out hx209_0; replace hx209_1 := BD HB.out hx209_1; replace hx209_2 := BD HB.out hx209_2; replace hx209_3 := BD HB.out hx209_3; replace hx209_4 := BD HB.out hx209_4; replace p209 := eq_true p209; replace q209 := eq_true q209; have p210 : 0 ≤ (x3_1 : Int) := DT; have q210 : x3_1 < (l0_0.length : Int) := DT; obtain ⟨ad210, A210_0, c210_0, e210, hx210_0, hl210_0, hi210_0⟩ := at_L6 HR0_0.out x3_1 p210 q210; obtain rfl : ad206 = ad210 := (by injection e210); replace hx210_0 := BD HB.out hx210_0; have HR210_0 := AM_ hi210_0; have HC210_0 := AM_ hl210_0; clear hi210_0 hl210_0; replace p210 := eq_true p210; replace q210 := eq_true q210; have ea_ := Option.some.inj (hx208_0.symm.trans hx210_0); injection ea_ with ea_ en_ ec_; subst ea_; subst ec_; clear en_))
    go_ret
    exact QT (BT HB.out)
   rw [if_neg c9] at H
   have c9b0 : decide (50 < ((rd_L6 l0_0 x3_1).length : Int)) = false := decide_eq_false c9
   have c9b1 : decide (50 < (rd_L6 l0_0 x3_1).length) = false := decide_eq_false (by omega)
   clear c9
   have H' := AM_ H
   clear H
   obtain ⟨hcz13_0, hfz13_0⟩ := bk1 BK205.out
   have p206 : 0 ≤ (x3_1 : Int) := DT
   have q206 : x3_1 < (l0_0.length : Int) := DT
   obtain ⟨ad206, A206_0, c206_0, e206, hx206_0, hl206_0, hi206_0⟩ := at_L6 HR0_0.out x3_1 p206 q206
   cases e206
   replace hx206_0 := BC HB.out hx206_0
   have HR206_0 := AM_ hi206_0
   have HC206_0 := AM_ hl206_0
   clear hi206_0 hl206_0
   replace p206 := eq_true p206
   replace q206 := eq_true q206
   go_wp2_with (first | ((with_reducible refine gate_callee (f := 136) rfl ?_); refine goesL_ (some 16) rfl rfl Try.func136 (by kernel_rfl) rfl #[.slice A206_0 (rd_L6 l0_0 x3_1).length c206_0] rfl (by (try simp only [List.map_toArray, List.map_cons, List.map_nil]); first | done | rfl | (simp only [List.length_drop, List.length_take]; rfl)) ?_; (with_reducible refine (spec_IsValidChain.calls k1 _ _ (rd_L6 l0_0 x3_1) true _ ?side1 ?side2 A5.out).mono ?_); (case side1 => exact CB HR206_0.out HB.out); (case side2 => exact HC206_0.out); rintro e w14 ⟨rfl, hb⟩; refine ⟨_, rfl, ?_⟩; have n0_ := AM_ (BB BK205.out hb); have n1_ := AM_ (below_step (BT HB.out) hb); clear BK205; clear HB; have BK205 := n0_; have HB := n1_; clear n0_ n1_; (try clear hb); (try clear hb2); (try clear hk); (try clear hi); obtain ⟨hcz15_0, hfz15_0⟩ := bk1 BK205.out; have p208 : 0 ≤ (x3_1 : Int) := DT; have q208 : x3_1 < (l0_0.length : Int) := DT; obtain ⟨ad208, A208_0, c208_0, e208, hx208_0, hl208_0, hi208_0⟩ := at_L6 HR0_0.out x3_1 p208 q208; obtain rfl : ad206 = ad208 := (by injection e208); replace hx208_0 := BD HB.out hx208_0; have HR208_0 := AM_ hi208_0; have HC208_0 := AM_ hl208_0; clear hi208_0 hl208_0; replace p208 := eq_true p208; replace q208 := eq_true q208; have p209 : 0 ≤ (0 : Int) := (by omega); have q209 : 0 < ((rd_L6 l0_0 x3_1).length : Int) := DT; obtain ⟨ad209, e209, hx209_0, hx209_1, hx209_2, hx209_3, hx209_4⟩ := at_T76 HR208_0.out 0 p209 q209; cases e209; have qi209 : (0 < (rd_L6 l0_0 x3_1).length) = True := eq_true (by omega); (try rw [show ((0 : Int)).toNat = 0 from rfl] at hx209_0); (try rw [show 0 * 5 = 0 from rfl] at hx209_0); (try rw [Addr.add_zero'] at hx209_0); (try rw [show ((0 : Int)).toNat = 0 from rfl] at hx209_1); (try rw [show 0 * 5 = 0 from rfl] at hx209_1); (try rw [Addr.add_zero'] at hx209_1); (try rw [show ((0 : Int)).toNat = 0 from rfl] at hx209_2); (try rw [show 0 * 5 = 0 from rfl] at hx209_2); (try rw [Addr.add_zero'] at hx209_2); (try rw [show ((0 : Int)).toNat = 0 from rfl] at hx209_3); (try rw [show 0 * 5 = 0 from rfl] at hx209_3); (try rw [Addr.add_zero'] at hx209_3); (try rw [show ((0 : Int)).toNat = 0 from rfl] at hx209_4); (try rw [show 0 * 5 = 0 from rfl] at hx209_4); (try rw [Addr.add_zero'] at hx209_4); replace hx209_0 := BD HB.out hx209_0; replace hx209_1 := BD HB.out hx209_1; replace hx209_2 := BD HB.out hx209_2; replace hx209_3 := BD HB.out hx209_3; replace hx209_4 := BD HB.out hx209_4; replace p209 := eq_true p209; replace q209 := eq_true q209; have p210 : 0 ≤ (x3_1 : Int) := DT; have q210 : x3_1 < (l0_0.length : Int) := DT; obtain ⟨ad210, A210_0, c210_0, e210, hx210_0, hl210_0, hi210_0⟩ := at_L6 HR0_0.out x3_1 p210 q210; obtain rfl : ad206 = ad210 := (by injection e210); replace hx210_0 := BD HB.out hx210_0; have HR210_0 := AM_ hi210_0; have HC210_0 := AM_ hl210_0; clear hi210_0 hl210_0; replace p210 := eq_true p210; replace q210 := eq_true q210; have ea_ := Option.some.inj (hx208_0.symm.trans hx210_0); injection ea_ with ea_ en_ ec_; subst ea_; subst ec_; clear en_; have p211 : 0 ≤ (x3_1 : Int) := DT; have q211 : x3_1 < (l0_0.length : Int) := DT; obtain ⟨ad211, A211_0, c211_0, e211, hx211_0, hl211_0, hi211_0⟩ := at_L6 HR0_0.out x3_1 p211 q211; obtain rfl : ad206 = ad211 := (by injection e211); replace hx211_0 := BD HB.out hx211_0; have HR211_0 := AM_ hi211_0; have HC211_0 := AM_ hl211_0; clear hi211_0 hl211_0; replace p211 := eq_true p211; replace q211 := eq_true q211; have ea_ := Option.some.inj (hx208_0.symm.trans hx211_0); injection ea_ with ea_ en_ ec_; subst ea_; subst ec_; clear en_))
   go_roundg k1
   case measure => have := HK1.out; omega
   case rel => exact ⟨(wrap64 (x3_1 + 1)), (by first | rfl | (simp; done) | (simp [*]; done)), H', ⟨by have := HK1.out; omega⟩, ⟨BH BK205.out⟩, ⟨BT HB.out⟩⟩

/-! ### spec_l5Before: function 196 -/
def spec_l5Before.f (a0_0 : Int) (a0_1 : Int) (a1_0 : Int) (a1_1 : Int) : Option (Bool) := if a0_0 < a1_0 then (some true) else (if a0_0 = a1_0 then (some (decide (a0_1 < a1_1))) else (some false))
set_option maxHeartbeats 8000000 in
set_option maxRecDepth 100000 in
theorem spec_l5Before.calls (a0_0 : Int) (a0_1 : Int) (a1_0 : Int) (a1_1 : Int) (r : Bool) (w : World) (h : spec_l5Before.f a0_0 a0_1 a1_0 a1_1 = some r) :
  Calls Try.prog 196 #[.agg #[.int .i64 a0_0, .int .i64 a0_1], .agg #[.int .i64 a1_0, .int .i64 a1_1]] w fun e w' => e = .returned (.bool r) ∧ Below w.heap.size w w' := by
 have hu165 := Try.underlying165
 have HB := AM_ (Below.refl w.heap.size w)
 have H : (if a0_0 < a1_0 then (some true) else (if a0_0 = a1_0 then (some (decide (a0_1 < a1_1))) else (some false))) = some r := h
 clear h
 by_cases c3 : a0_0 < a1_0
 ·rw [if_pos c3] at H
  have c3b0 : decide (a0_0 < a1_0) = true := decide_eq_true c3
  clear c3
  obtain rfl := Option.some.inj H
  go_enter Try.func196, Try.ntmps196
  go_wp2_with (first | ((with_reducible refine gate_dst (N := 2) rfl ?_); refine box_event ?hg (N := 2) ?hd (cs := #[.int .i64 a0_0, .int .i64 a0_1]) (t := 165) ?hr ?_; (case hd => rfl); (case hg => rfl); (case hr => first | (go_simp; done) | (go_simp; rfl)); intro gb213 hg w4 hbox hb; have n0_ := AM_ (below_step (BT HB.out) hb); have n1_ := AM_ (hbox); have n2_ := AM_ ((GS HB.out hg)); have n3_ := AM_ ((GS HB.out hg)); clear HB; have HB := n0_; have BK213 := n1_; have GW213 := n2_; have GE213 := n3_; clear n0_ n1_ n2_ n3_; clear hb hbox hg) | ((with_reducible refine gate_dst (N := 3) rfl ?_); refine box_event ?hg (N := 3) ?hd (cs := #[.int .i64 a1_0, .int .i64 a1_1]) (t := 165) ?hr ?_; (case hd => rfl); (case hg => rfl); (case hr => first | (go_simp; done) | (go_simp; rfl)); intro gb214 hg w5 hbox hb; have n0_ := AM_ (BB BK213.out hb); have n1_ := AM_ (below_step (BT HB.out) hb); have n2_ := AM_ (hbox); have n3_ := AM_ ((GS HB.out hg)); have n4_ := AM_ ((GS HB.out hg)); have n5_ := AM_ ((NL BK213.out hg)); have n6_ := AM_ ((NG BK213.out hg)); clear BK213; clear HB; have BK213 := n0_; have HB := n1_; have BK214 := n2_; have GW214 := n3_; have GE214 := n4_; have NB213_214 := n5_; have NB214_213 := n6_; clear n0_ n1_ n2_ n3_ n4_ n5_ n6_; clear hb hbox hg; have hnb6 := NB213_214.out; have hnc6 := NB214_213.out; obtain ⟨hcz7_0, hcz7_1, hfz7_0, hfz7_1⟩ := bk2 BK213.out; obtain ⟨hcz8_0, hcz8_1, hfz8_0, hfz8_1⟩ := bk2 BK214.out))
  go_ret
  exact QT (BT HB.out)
 rw [if_neg c3] at H
 have c3b0 : decide (a0_0 < a1_0) = false := decide_eq_false c3
 clear c3
 by_cases c9 : a0_0 = a1_0
 rotate_left
 ·rw [if_neg c9] at H
  have c9b0 : (a0_0 == a1_0) = false := beq_eq_false_iff_ne.mpr c9
  have c9b1 : (a0_0 != a1_0) = true := bne_iff_ne.mpr c9
  obtain rfl := Option.some.inj H
  go_enter Try.func196, Try.ntmps196
  go_wp2_with (first | ((with_reducible refine gate_dst (N := 2) rfl ?_); refine box_event ?hg (N := 2) ?hd (cs := #[.int .i64 a0_0, .int .i64 a0_1]) (t := 165) ?hr ?_; (case hd => rfl); (case hg => rfl); (case hr => first | (go_simp; done) | (go_simp; rfl)); intro gb213 hg w15 hbox hb; have n0_ := AM_ (below_step (BT HB.out) hb); have n1_ := AM_ (hbox); have n2_ := AM_ ((GS HB.out hg)); have n3_ := AM_ ((GS HB.out hg)); clear HB; have HB := n0_; have BK213 := n1_; have GW213 := n2_; have GE213 := n3_; clear n0_ n1_ n2_ n3_; clear hb hbox hg) | ((with_reducible refine gate_dst (N := 3) rfl ?_); refine box_event ?hg (N := 3) ?hd (cs := #[.int .i64 a1_0, .int .i64 a1_1]) (t := 165) ?hr ?_; (case hd => rfl); (case hg => rfl); (case hr => first | (go_simp; done) | (go_simp; rfl)); intro gb214 hg w16 hbox hb; have n0_ := AM_ (BB BK213.out hb); have n1_ := AM_ (below_step (BT HB.out) hb); have n2_ := AM_ (hbox); have n3_ := AM_ ((GS HB.out hg)); have n4_ := AM_ ((GS HB.out hg)); have n5_ := AM_ ((NL BK213.out hg)); have n6_ := AM_ ((NG BK213.out hg)); clear BK213; clear HB; have BK213 := n0_; have HB := n1_; have BK214 := n2_; have GW214 := n3_; have GE214 := n4_; have NB213_214 := n5_; have NB214_213 := n6_; clear n0_ n1_ n2_ n3_ n4_ n5_ n6_; clear hb hbox hg; have hnb17 := NB213_214.out; have hnc17 := NB214_213.out; obtain ⟨hcz18_0, hcz18_1, hfz18_0, hfz18_1⟩ := bk2 BK213.out; obtain ⟨hcz19_0, hcz19_1, hfz19_0, hfz19_1⟩ := bk2 BK214.out))
  go_ret
  exact QT (BT HB.out)
 rw [if_pos c9] at H
 have c9b0 : (a0_0 == a1_0) = true := beq_iff_eq.mpr c9
 have c9b1 : (a0_0 != a1_0) = false := bne_eq_false_iff_eq.mpr c9
 clear c9
 obtain rfl := Option.some.inj H
 go_enter Try.func196, Try.ntmps196
 go_wp2_with (first | ((with_reducible refine gate_dst (N := 2) rfl ?_); refine box_event ?hg (N := 2) ?hd (cs := #[.int .i64 a0_0, .int .i64 a0_1]) (t := 165) ?hr ?_; (case hd => rfl); (case hg => rfl); (case hr => first | (go_simp; done) | (go_simp; rfl)); intro gb213 hg w10 hbox hb; have n0_ := AM_ (below_step (BT HB.out) hb); have n1_ := AM_ (hbox); have n2_ := AM_ ((GS HB.out hg)); have n3_ := AM_ ((GS HB.out hg)); clear HB; have HB := n0_; have BK213 := n1_; have GW213 := n2_; have GE213 := n3_; clear n0_ n1_ n2_ n3_; clear hb hbox hg) | ((with_reducible refine gate_dst (N := 3) rfl ?_); refine box_event ?hg (N := 3) ?hd (cs := #[.int .i64 a1_0, .int .i64 a1_1]) (t := 165) ?hr ?_; (case hd => rfl); (case hg => rfl); (case hr => first | (go_simp; done) | (go_simp; rfl)); intro gb214 hg w11 hbox hb; have n0_ := AM_ (BB BK213.out hb); have n1_ := AM_ (below_step (BT HB.out) hb); have n2_ := AM_ (hbox); have n3_ := AM_ ((GS HB.out hg)); have n4_ := AM_ ((GS HB.out hg)); have n5_ := AM_ ((NL BK213.out hg)); have n6_ := AM_ ((NG BK213.out hg)); clear BK213; clear HB; have BK213 := n0_; have HB := n1_; have BK214 := n2_; have GW214 := n3_; have GE214 := n4_; have NB213_214 := n5_; have NB214_213 := n6_; clear n0_ n1_ n2_ n3_ n4_ n5_ n6_; clear hb hbox hg; have hnb12 := NB213_214.out; have hnc12 := NB214_213.out; obtain ⟨hcz13_0, hcz13_1, hfz13_0, hfz13_1⟩ := bk2 BK213.out; obtain ⟨hcz14_0, hcz14_1, hfz14_0, hfz14_1⟩ := bk2 BK214.out))
 go_ret
 exact QT (BT HB.out)

end Go.Proofs.Ytakpkmlbklahhaa.PFnExactChooseVersion
