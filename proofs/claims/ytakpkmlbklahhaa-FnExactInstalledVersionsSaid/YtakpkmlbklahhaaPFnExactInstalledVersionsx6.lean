-- Printed by a program of mine (wip/myprint.py), which runs the printer of the kit with contracts of mine beside it.
import Derived.Test.YtakpkmlbklahhaaPFnExactInstalledVersionsx0
import Derived.Test.YtakpkmlbklahhaaPFnExactInstalledVersionsx4
import Derived.Test.YtakpkmlbklahhaaPFnExactInstalledVersionsx5
namespace Go.Proofs.Ytakpkmlbklahhaa.PFnExactInstalledVersions
open Go.RowKit Go.Proofs.YtakpkmlbklahhaaW.PrintWords Go.Proofs.YtakpkmlbklahhaaW.PrintLast Go.Proofs.YtakpkmlbklahhaaW.PrintMore
attribute [local go_sem] max2_int min2_int max_two min_two max_three min_three max_four min_four   -- for this text's walks alone
set_option linter.unusedVariables false
set_option linter.unusedSimpArgs false

/-! ### spec_CommittedStamp: function 139 -/
def spec_CommittedStamp.f (k : Nat) (a0_0 : Int) (a0_1 : Int) (a0_2 : Int) (a0_3 : Int) (a0_4 : Int) (a0_5 : Int) (a0_6 : Int) (l0_7 : List (S165)) (l0_8 : List (S133)) : Option (Int) := (spec_IsValidTransaction.f k a0_0 a0_1 a0_2 a0_3 a0_4 a0_5 a0_6 l0_7 l0_8).bind fun t211 => (if t211 = true then (if a0_2 = 2 then (some a0_6) else (some 0)) else (some 0))
theorem spec_CommittedStamp.mono : ∀ a0 a1 a2 a3 a4 a5 a6 a7 a8 k, LeO (spec_CommittedStamp.f k a0 a1 a2 a3 a4 a5 a6 a7 a8) (spec_CommittedStamp.f (k + 1) a0 a1 a2 a3 a4 a5 a6 a7 a8) := by
 intro a0 a1 a2 a3 a4 a5 a6 a7 a8 k
 unfold spec_CommittedStamp.f
 repeat' first
   | (with_reducible exact spec_IsValidTransaction.mono _ _ _ _ _ _ _ _ _ _)
   | (with_reducible exact LeO.refl _)
   | (with_reducible exact LeO.none _)
   | (with_reducible refine LeO.ite ?_ ?_)
   | (with_reducible refine LeO.bind ?_ (fun _ => ?_))
   | exact spec_IsValidTransaction.mono _ _ _ _ _ _ _ _ _ _
   | exact LeO.none _
   | refine LeO.ite ?_ ?_
   | refine LeO.bind ?_ (fun _ => ?_)
set_option maxHeartbeats 8000000 in
set_option maxRecDepth 100000 in
theorem spec_CommittedStamp.calls (k : Nat) (a0_0 : Int) (a0_1 : Int) (a0_2 : Int) (a0_3 : Int) (a0_4 : Int) (a0_5 : Int) (a0_6 : Int) (A0_7 : Option Addr) (c0_7 : Nat) (l0_7 : List (S165)) (A0_8 : Option Addr) (c0_8 : Nat) (l0_8 : List (S133)) (r : Int) (w : World) (hr0_7 : Kd.C k165 w A0_7 l0_7.length l0_7) (hc0_7 : l0_7.length ≤ c0_7) (hr0_8 : Kd.C k133 w A0_8 l0_8.length l0_8) (hc0_8 : l0_8.length ≤ c0_8) (h : spec_CommittedStamp.f k a0_0 a0_1 a0_2 a0_3 a0_4 a0_5 a0_6 l0_7 l0_8 = some r) :
  Calls Try.prog 139 #[.agg #[.int .i64 a0_0, .int .i64 a0_1, .int .i64 a0_2, .int .i64 a0_3, .int .i64 a0_4, .int .i64 a0_5, .int .i64 a0_6, .slice A0_7 l0_7.length c0_7, .slice A0_8 l0_8.length c0_8]] w fun e w' => e = .returned (.int .i64 r) ∧ Below w.heap.size w w' := by
 have hu68 := Try.underlying68
 have HR0_7 := AM_ hr0_7
 have HC0_7 := AM_ hc0_7
 clear hr0_7 hc0_7
 have HR0_8 := AM_ hr0_8
 have HC0_8 := AM_ hc0_8
 clear hr0_8 hc0_8
 have HB := AM_ (Below.refl w.heap.size w)
 have H : ((spec_IsValidTransaction.f k a0_0 a0_1 a0_2 a0_3 a0_4 a0_5 a0_6 l0_7 l0_8).bind fun t211 => (if t211 = true then (if a0_2 = 2 then (some a0_6) else (some 0)) else (some 0))) = some r := h
 clear h
 replace H := Option.bind_eq_some_iff.mp H
 obtain ⟨t211, A20, H⟩ := H
 replace H : (if t211 = true then (if a0_2 = 2 then (some a0_6) else (some 0)) else (some 0)) = some r := H
 have A2 := AM_ A20
 clear A20
 by_cases c3 : t211 = true
 rotate_left
 ·replace c3 := Bool.eq_false_iff.mpr c3
  subst c3
  have H1 : (some 0) = some r := by rw [if_neg (show ¬ (false = true) by decide)] at H; exact H
  clear H
  have H := H1
  clear H1
  obtain rfl := Option.some.inj H
  go_enter Try.func139, Try.ntmps139
  go_wp2_with (first | ((with_reducible refine gate_dst (N := 1) rfl ?_); refine box_event ?hg (N := 1) ?hd (cs := #[.int .i64 a0_0, .int .i64 a0_1, .int .i64 a0_2, .int .i64 a0_3, .int .i64 a0_4, .int .i64 a0_5, .int .i64 a0_6, .slice A0_7 l0_7.length c0_7, .slice A0_8 l0_8.length c0_8]) (t := 68) ?hr ?_; (case hd => rfl); (case hg => rfl); (case hr => first | (go_simp; done) | (go_simp; rfl)); intro gb210 hg w13 hbox hb; have BK210 := AM_ (hbox); have GW210 := AM_ ((GS HB.out hg)); have GE210 := AM_ ((GS HB.out hg)); replace HB := AM_ (below_step (BT HB.out) hb); clear hb hbox hg; obtain ⟨hcz14_0, hcz14_1, hcz14_2, hcz14_3, hcz14_4, hcz14_5, hcz14_6, hcz14_7, hcz14_8, hfz14_0, hfz14_1, hfz14_2, hfz14_3, hfz14_4, hfz14_5, hfz14_6, hfz14_7, hfz14_8⟩ := bk9 BK210.out) | ((with_reducible refine gate_callee (f := 148) rfl ?_); refine goesL_ (some 4) rfl rfl Try.func148 (by kernel_rfl) rfl #[.agg #[.int .i64 a0_0, .int .i64 a0_1, .int .i64 a0_2, .int .i64 a0_3, .int .i64 a0_4, .int .i64 a0_5, .int .i64 a0_6, .slice A0_7 l0_7.length c0_7, .slice A0_8 l0_8.length c0_8]] rfl (by (try simp only [List.map_toArray, List.map_cons, List.map_nil]); first | done | rfl | (simp only [List.length_drop, List.length_take]; rfl)) ?_; (with_reducible refine (spec_IsValidTransaction.calls k a0_0 a0_1 a0_2 a0_3 a0_4 a0_5 a0_6 _ _ l0_7 _ _ l0_8 false _ ?side1 ?side2 ?side3 ?side4 A2.out).mono ?_); (case side1 => exact CB HR0_7.out HB.out); (case side2 => exact HC0_7.out); (case side3 => exact CB HR0_8.out HB.out); (case side4 => exact HC0_8.out); rintro e w15 ⟨rfl, hb⟩; refine ⟨_, rfl, ?_⟩; replace BK210 := AM_ (BB BK210.out hb); replace HB := AM_ (below_step (BT HB.out) hb); (try clear hb); (try clear hb2); (try clear hk); (try clear hi)))
  go_ret
  exact QT (BT HB.out)
 subst c3
 have H1 : (if a0_2 = 2 then (some a0_6) else (some 0)) = some r := by rw [if_pos rfl] at H; exact H
 clear H
 have H := H1
 clear H1
 by_cases c4 : a0_2 = 2
 ·rw [if_pos c4] at H
  have c4b0 : (a0_2 == 2) = true := beq_iff_eq.mpr c4
  have c4b1 : (a0_2 != 2) = false := bne_eq_false_iff_eq.mpr c4
  clear c4
  obtain rfl := Option.some.inj H
  go_enter Try.func139, Try.ntmps139
  go_wp2_with (first | ((with_reducible refine gate_dst (N := 1) rfl ?_); refine box_event ?hg (N := 1) ?hd (cs := #[.int .i64 a0_0, .int .i64 a0_1, .int .i64 a0_2, .int .i64 a0_3, .int .i64 a0_4, .int .i64 a0_5, .int .i64 a0_6, .slice A0_7 l0_7.length c0_7, .slice A0_8 l0_8.length c0_8]) (t := 68) ?hr ?_; (case hd => rfl); (case hg => rfl); (case hr => first | (go_simp; done) | (go_simp; rfl)); intro gb210 hg w5 hbox hb; have BK210 := AM_ (hbox); have GW210 := AM_ ((GS HB.out hg)); have GE210 := AM_ ((GS HB.out hg)); replace HB := AM_ (below_step (BT HB.out) hb); clear hb hbox hg; obtain ⟨hcz6_0, hcz6_1, hcz6_2, hcz6_3, hcz6_4, hcz6_5, hcz6_6, hcz6_7, hcz6_8, hfz6_0, hfz6_1, hfz6_2, hfz6_3, hfz6_4, hfz6_5, hfz6_6, hfz6_7, hfz6_8⟩ := bk9 BK210.out) | ((with_reducible refine gate_callee (f := 148) rfl ?_); refine goesL_ (some 4) rfl rfl Try.func148 (by kernel_rfl) rfl #[.agg #[.int .i64 a0_0, .int .i64 a0_1, .int .i64 a0_2, .int .i64 a0_3, .int .i64 a0_4, .int .i64 a0_5, .int .i64 a0_6, .slice A0_7 l0_7.length c0_7, .slice A0_8 l0_8.length c0_8]] rfl (by (try simp only [List.map_toArray, List.map_cons, List.map_nil]); first | done | rfl | (simp only [List.length_drop, List.length_take]; rfl)) ?_; (with_reducible refine (spec_IsValidTransaction.calls k a0_0 a0_1 a0_2 a0_3 a0_4 a0_5 a0_6 _ _ l0_7 _ _ l0_8 true _ ?side1 ?side2 ?side3 ?side4 A2.out).mono ?_); (case side1 => exact CB HR0_7.out HB.out); (case side2 => exact HC0_7.out); (case side3 => exact CB HR0_8.out HB.out); (case side4 => exact HC0_8.out); rintro e w7 ⟨rfl, hb⟩; refine ⟨_, rfl, ?_⟩; replace BK210 := AM_ (BB BK210.out hb); replace HB := AM_ (below_step (BT HB.out) hb); (try clear hb); (try clear hb2); (try clear hk); (try clear hi); obtain ⟨hcz8_0, hcz8_1, hcz8_2, hcz8_3, hcz8_4, hcz8_5, hcz8_6, hcz8_7, hcz8_8, hfz8_0, hfz8_1, hfz8_2, hfz8_3, hfz8_4, hfz8_5, hfz8_6, hfz8_7, hfz8_8⟩ := bk9 BK210.out))
  go_ret
  exact QT (BT HB.out)
 rw [if_neg c4] at H
 have c4b0 : (a0_2 == 2) = false := beq_eq_false_iff_ne.mpr c4
 have c4b1 : (a0_2 != 2) = true := bne_iff_ne.mpr c4
 obtain rfl := Option.some.inj H
 go_enter Try.func139, Try.ntmps139
 go_wp2_with (first | ((with_reducible refine gate_dst (N := 1) rfl ?_); refine box_event ?hg (N := 1) ?hd (cs := #[.int .i64 a0_0, .int .i64 a0_1, .int .i64 a0_2, .int .i64 a0_3, .int .i64 a0_4, .int .i64 a0_5, .int .i64 a0_6, .slice A0_7 l0_7.length c0_7, .slice A0_8 l0_8.length c0_8]) (t := 68) ?hr ?_; (case hd => rfl); (case hg => rfl); (case hr => first | (go_simp; done) | (go_simp; rfl)); intro gb210 hg w9 hbox hb; have BK210 := AM_ (hbox); have GW210 := AM_ ((GS HB.out hg)); have GE210 := AM_ ((GS HB.out hg)); replace HB := AM_ (below_step (BT HB.out) hb); clear hb hbox hg; obtain ⟨hcz10_0, hcz10_1, hcz10_2, hcz10_3, hcz10_4, hcz10_5, hcz10_6, hcz10_7, hcz10_8, hfz10_0, hfz10_1, hfz10_2, hfz10_3, hfz10_4, hfz10_5, hfz10_6, hfz10_7, hfz10_8⟩ := bk9 BK210.out) | ((with_reducible refine gate_callee (f := 148) rfl ?_); refine goesL_ (some 4) rfl rfl Try.func148 (by kernel_rfl) rfl #[.agg #[.int .i64 a0_0, .int .i64 a0_1, .int .i64 a0_2, .int .i64 a0_3, .int .i64 a0_4, .int .i64 a0_5, .int .i64 a0_6, .slice A0_7 l0_7.length c0_7, .slice A0_8 l0_8.length c0_8]] rfl (by (try simp only [List.map_toArray, List.map_cons, List.map_nil]); first | done | rfl | (simp only [List.length_drop, List.length_take]; rfl)) ?_; (with_reducible refine (spec_IsValidTransaction.calls k a0_0 a0_1 a0_2 a0_3 a0_4 a0_5 a0_6 _ _ l0_7 _ _ l0_8 true _ ?side1 ?side2 ?side3 ?side4 A2.out).mono ?_); (case side1 => exact CB HR0_7.out HB.out); (case side2 => exact HC0_7.out); (case side3 => exact CB HR0_8.out HB.out); (case side4 => exact HC0_8.out); rintro e w11 ⟨rfl, hb⟩; refine ⟨_, rfl, ?_⟩; replace BK210 := AM_ (BB BK210.out hb); replace HB := AM_ (below_step (BT HB.out) hb); (try clear hb); (try clear hb2); (try clear hk); (try clear hi); obtain ⟨hcz12_0, hcz12_1, hcz12_2, hcz12_3, hcz12_4, hcz12_5, hcz12_6, hcz12_7, hcz12_8, hfz12_0, hfz12_1, hfz12_2, hfz12_3, hfz12_4, hfz12_5, hfz12_6, hfz12_7, hfz12_8⟩ := bk9 BK210.out))
 go_ret
 exact QT (BT HB.out)

/-! ### spec_IsValidVersion: function 194 -/
def spec_IsValidVersion.j0 : Nat → Bool → Int → Int → Int → Int → Int → Option (Bool)
 | 0, _, _, _, _, _, _ => none
 | k + 1, x26, x213000, x213001, x213002, x213003, x213004 => if x26 = true then (some false) else (if x213002 = 0 then (if x213000 = 0 then (some (x213001 == (-1))) else (some false)) else ((spec_l1In.f x213000 1 9).bind fun t217 => (some t217)))
def spec_IsValidVersion.f (k : Nat) (a0_0 : Int) (a0_1 : Int) (a0_2 : Int) (a0_3 : Int) (a0_4 : Int) : Option (Bool) := (spec_l1In.f a0_1 (-1) 99).bind fun t213 => (if t213 = true then ((spec_l1In.f a0_2 0 999).bind fun t214 => (if t214 = true then ((spec_l1In.f a0_3 a0_2 999).bind fun t215 => (if t215 = true then ((spec_l1In.f a0_4 1 1000).bind fun t216 => (spec_IsValidVersion.j0 k (!t216) a0_0 a0_1 a0_2 a0_3 a0_4)) else (spec_IsValidVersion.j0 k true a0_0 a0_1 a0_2 a0_3 a0_4))) else (spec_IsValidVersion.j0 k true a0_0 a0_1 a0_2 a0_3 a0_4))) else (spec_IsValidVersion.j0 k true a0_0 a0_1 a0_2 a0_3 a0_4))
theorem spec_IsValidVersion.mono_l : ∀ k, (∀ y0 y1 y2 y3 y4 y5, LeO (spec_IsValidVersion.j0 k y0 y1 y2 y3 y4 y5) (spec_IsValidVersion.j0 (k + 1) y0 y1 y2 y3 y4 y5))
 | 0 => fun _ _ _ _ _ _ r h => by simp [spec_IsValidVersion.j0] at h
 | k + 1 => by
  have ih0 := spec_IsValidVersion.mono_l k
  ·intro y0 y1 y2 y3 y4 y5
   unfold spec_IsValidVersion.j0
   repeat' first
   | (with_reducible exact ih0 _ _ _ _ _ _)
   | (with_reducible exact LeO.refl _)
   | (with_reducible exact LeO.none _)
   | (with_reducible refine LeO.ite ?_ ?_)
   | (with_reducible refine LeO.bind ?_ (fun _ => ?_))
   | exact ih0 _ _ _ _ _ _
   | exact LeO.none _
   | refine LeO.ite ?_ ?_
   | refine LeO.bind ?_ (fun _ => ?_)
theorem spec_IsValidVersion.mono : ∀ a0 a1 a2 a3 a4 k, LeO (spec_IsValidVersion.f k a0 a1 a2 a3 a4) (spec_IsValidVersion.f (k + 1) a0 a1 a2 a3 a4) := by
 intro a0 a1 a2 a3 a4 k
 have ih0 := spec_IsValidVersion.mono_l k
 unfold spec_IsValidVersion.f
 repeat' first
   | (with_reducible exact ih0 _ _ _ _ _ _)
   | (with_reducible exact LeO.refl _)
   | (with_reducible exact LeO.none _)
   | (with_reducible refine LeO.ite ?_ ?_)
   | (with_reducible refine LeO.bind ?_ (fun _ => ?_))
   | exact ih0 _ _ _ _ _ _
   | exact LeO.none _
   | refine LeO.ite ?_ ?_
   | refine LeO.bind ?_ (fun _ => ?_)
set_option maxHeartbeats 8000000 in
set_option maxRecDepth 100000 in
theorem spec_IsValidVersion.calls (k : Nat) (a0_0 : Int) (a0_1 : Int) (a0_2 : Int) (a0_3 : Int) (a0_4 : Int) (r : Bool) (w : World) (h : spec_IsValidVersion.f k a0_0 a0_1 a0_2 a0_3 a0_4 = some r) :
  Calls Try.prog 194 #[.agg #[.int .i64 a0_0, .int .i64 a0_1, .int .i64 a0_2, .int .i64 a0_3, .int .i64 a0_4]] w fun e w' => e = .returned (.bool r) ∧ Below w.heap.size w w' := by
 have hu76 := Try.underlying76
 have HB := AM_ (Below.refl w.heap.size w)
 have H : ((spec_l1In.f a0_1 (-1) 99).bind fun t213 => (if t213 = true then ((spec_l1In.f a0_2 0 999).bind fun t214 => (if t214 = true then ((spec_l1In.f a0_3 a0_2 999).bind fun t215 => (if t215 = true then ((spec_l1In.f a0_4 1 1000).bind fun t216 => (spec_IsValidVersion.j0 k (!t216) a0_0 a0_1 a0_2 a0_3 a0_4)) else (spec_IsValidVersion.j0 k true a0_0 a0_1 a0_2 a0_3 a0_4))) else (spec_IsValidVersion.j0 k true a0_0 a0_1 a0_2 a0_3 a0_4))) else (spec_IsValidVersion.j0 k true a0_0 a0_1 a0_2 a0_3 a0_4))) = some r := h
 clear h
 have HC2 := AM_ H
 clear H
 go_enter Try.func194, Try.ntmps194
 go_upto_region 1 with (first | ((with_reducible refine gate_dst (N := 1) rfl ?_); refine box_event ?hg (N := 1) ?hd (cs := #[.int .i64 a0_0, .int .i64 a0_1, .int .i64 a0_2, .int .i64 a0_3, .int .i64 a0_4]) (t := 76) ?hr ?_; (case hd => rfl); (case hg => rfl); (case hr => first | (go_simp; done) | (go_simp; rfl)); intro gb212 hg w3 hbox hb; have BK212 := AM_ (hbox); have GW212 := AM_ ((GS HB.out hg)); have GE212 := AM_ ((GS HB.out hg)); replace HB := AM_ (below_step (BT HB.out) hb); clear hb hbox hg))
 (try simp only [pA, pS, pZ, pK])
 go_cut [26] (fun v26 wc => ∃ (kq : Nat) (x26_1 : Bool), v26 = .bool x26_1 ∧ Aside0 (spec_IsValidVersion.j0 kq x26_1 a0_0 a0_1 a0_2 a0_3 a0_4 = some r) ∧ Aside0 (kq ≤ k) ∧ Aside0 (wc.heap[gb212]? = some (.cells #[.int .i64 a0_0, .int .i64 a0_1, .int .i64 a0_2, .int .i64 a0_3, .int .i64 a0_4] 76 (0, 0))) ∧ Aside0 (Below w.heap.size w wc))
 case first =>
  have H := HC2.out
  clear HC2
  replace H := Option.bind_eq_some_iff.mp H
  obtain ⟨t213, A40, H⟩ := H
  replace H : (if t213 = true then ((spec_l1In.f a0_2 0 999).bind fun t214 => (if t214 = true then ((spec_l1In.f a0_3 a0_2 999).bind fun t215 => (if t215 = true then ((spec_l1In.f a0_4 1 1000).bind fun t216 => (spec_IsValidVersion.j0 k (!t216) a0_0 a0_1 a0_2 a0_3 a0_4)) else (spec_IsValidVersion.j0 k true a0_0 a0_1 a0_2 a0_3 a0_4))) else (spec_IsValidVersion.j0 k true a0_0 a0_1 a0_2 a0_3 a0_4))) else (spec_IsValidVersion.j0 k true a0_0 a0_1 a0_2 a0_3 a0_4)) = some r := H
  have A4 := AM_ A40
  clear A40
  by_cases c5 : t213 = true
  rotate_left
  ·replace c5 := Bool.eq_false_iff.mpr c5
   subst c5
   have H1 : (spec_IsValidVersion.j0 k true a0_0 a0_1 a0_2 a0_3 a0_4) = some r := by rw [if_neg (show ¬ (false = true) by decide)] at H; exact H
   clear H
   have H := H1
   clear H1
   have H' := AM_ H
   clear H
   obtain ⟨hcz14_0, hcz14_1, hcz14_2, hcz14_3, hcz14_4, hfz14_0, hfz14_1, hfz14_2, hfz14_3, hfz14_4⟩ := bk5 BK212.out
   go_wp2_with (first | ((with_reducible refine gate_callee (f := 82) rfl ?_); refine goesL_ (some 5) rfl rfl Try.func82 (by kernel_rfl) rfl #[.int .i64 a0_1, .int .i64 (-1), .int .i64 99] rfl (by (try simp only [List.map_toArray, List.map_cons, List.map_nil]); first | done | rfl | (simp only [List.length_drop, List.length_take]; rfl)) ?_; (with_reducible refine (spec_l1In.calls a0_1 (-1) 99 false _ A4.out).mono ?_); rintro e w' ⟨rfl, ⟨nd, rfl⟩⟩; refine ⟨_, rfl, ?_⟩))
   go_meet
   case rel => exact ⟨_, (true), (by first | rfl | (simp; done) | (simp [*]; done)), H', ⟨by first | omega | exact Nat.le_refl _⟩, ⟨BH BK212.out⟩, ⟨BT HB.out⟩⟩
  subst c5
  have H1 : ((spec_l1In.f a0_2 0 999).bind fun t214 => (if t214 = true then ((spec_l1In.f a0_3 a0_2 999).bind fun t215 => (if t215 = true then ((spec_l1In.f a0_4 1 1000).bind fun t216 => (spec_IsValidVersion.j0 k (!t216) a0_0 a0_1 a0_2 a0_3 a0_4)) else (spec_IsValidVersion.j0 k true a0_0 a0_1 a0_2 a0_3 a0_4))) else (spec_IsValidVersion.j0 k true a0_0 a0_1 a0_2 a0_3 a0_4))) = some r := by rw [if_pos rfl] at H; exact H
  clear H
  have H := H1
  clear H1
  replace H := Option.bind_eq_some_iff.mp H
  obtain ⟨t214, A60, H⟩ := H
  replace H : (if t214 = true then ((spec_l1In.f a0_3 a0_2 999).bind fun t215 => (if t215 = true then ((spec_l1In.f a0_4 1 1000).bind fun t216 => (spec_IsValidVersion.j0 k (!t216) a0_0 a0_1 a0_2 a0_3 a0_4)) else (spec_IsValidVersion.j0 k true a0_0 a0_1 a0_2 a0_3 a0_4))) else (spec_IsValidVersion.j0 k true a0_0 a0_1 a0_2 a0_3 a0_4)) = some r := H
  have A6 := AM_ A60
  clear A60
  by_cases c7 : t214 = true
  rotate_left
  ·replace c7 := Bool.eq_false_iff.mpr c7
   subst c7
   have H1 : (spec_IsValidVersion.j0 k true a0_0 a0_1 a0_2 a0_3 a0_4) = some r := by rw [if_neg (show ¬ (false = true) by decide)] at H; exact H
   clear H
   have H := H1
   clear H1
   have H' := AM_ H
   clear H
   obtain ⟨hcz13_0, hcz13_1, hcz13_2, hcz13_3, hcz13_4, hfz13_0, hfz13_1, hfz13_2, hfz13_3, hfz13_4⟩ := bk5 BK212.out
   go_wp2_with (first | ((with_reducible refine gate_callee (f := 82) rfl ?_); refine goesL_ (some 5) rfl rfl Try.func82 (by kernel_rfl) rfl #[.int .i64 a0_1, .int .i64 (-1), .int .i64 99] rfl (by (try simp only [List.map_toArray, List.map_cons, List.map_nil]); first | done | rfl | (simp only [List.length_drop, List.length_take]; rfl)) ?_; (with_reducible refine (spec_l1In.calls a0_1 (-1) 99 true _ A4.out).mono ?_); rintro e w' ⟨rfl, ⟨nd, rfl⟩⟩; refine ⟨_, rfl, ?_⟩) | (go_at_call 82; (with_reducible refine (spec_l1In.calls a0_2 0 999 false _ A6.out).mono ?_); rintro e w' ⟨rfl, ⟨nd, rfl⟩⟩))
   go_meet
   case rel => exact ⟨_, (true), (by first | rfl | (simp; done) | (simp [*]; done)), H', ⟨by first | omega | exact Nat.le_refl _⟩, ⟨BH BK212.out⟩, ⟨BT HB.out⟩⟩
  subst c7
  have H1 : ((spec_l1In.f a0_3 a0_2 999).bind fun t215 => (if t215 = true then ((spec_l1In.f a0_4 1 1000).bind fun t216 => (spec_IsValidVersion.j0 k (!t216) a0_0 a0_1 a0_2 a0_3 a0_4)) else (spec_IsValidVersion.j0 k true a0_0 a0_1 a0_2 a0_3 a0_4))) = some r := by rw [if_pos rfl] at H; exact H
  clear H
  have H := H1
  clear H1
  replace H := Option.bind_eq_some_iff.mp H
  obtain ⟨t215, A80, H⟩ := H
  replace H : (if t215 = true then ((spec_l1In.f a0_4 1 1000).bind fun t216 => (spec_IsValidVersion.j0 k (!t216) a0_0 a0_1 a0_2 a0_3 a0_4)) else (spec_IsValidVersion.j0 k true a0_0 a0_1 a0_2 a0_3 a0_4)) = some r := H
  have A8 := AM_ A80
  clear A80
  by_cases c9 : t215 = true
  rotate_left
  ·replace c9 := Bool.eq_false_iff.mpr c9
   subst c9
   have H1 : (spec_IsValidVersion.j0 k true a0_0 a0_1 a0_2 a0_3 a0_4) = some r := by rw [if_neg (show ¬ (false = true) by decide)] at H; exact H
   clear H
   have H := H1
   clear H1
   have H' := AM_ H
   clear H
   obtain ⟨hcz12_0, hcz12_1, hcz12_2, hcz12_3, hcz12_4, hfz12_0, hfz12_1, hfz12_2, hfz12_3, hfz12_4⟩ := bk5 BK212.out
   go_wp2_with (first | ((with_reducible refine gate_callee (f := 82) rfl ?_); refine goesL_ (some 5) rfl rfl Try.func82 (by kernel_rfl) rfl #[.int .i64 a0_1, .int .i64 (-1), .int .i64 99] rfl (by (try simp only [List.map_toArray, List.map_cons, List.map_nil]); first | done | rfl | (simp only [List.length_drop, List.length_take]; rfl)) ?_; (with_reducible refine (spec_l1In.calls a0_1 (-1) 99 true _ A4.out).mono ?_); rintro e w' ⟨rfl, ⟨nd, rfl⟩⟩; refine ⟨_, rfl, ?_⟩) | (go_at_call 82; (with_reducible refine (spec_l1In.calls a0_2 0 999 true _ A6.out).mono ?_); rintro e w' ⟨rfl, ⟨nd, rfl⟩⟩) | (go_at_call 82; (with_reducible refine (spec_l1In.calls a0_3 a0_2 999 false _ A8.out).mono ?_); rintro e w' ⟨rfl, ⟨nd, rfl⟩⟩))
   go_meet
   case rel => exact ⟨_, (true), (by first | rfl | (simp; done) | (simp [*]; done)), H', ⟨by first | omega | exact Nat.le_refl _⟩, ⟨BH BK212.out⟩, ⟨BT HB.out⟩⟩
  subst c9
  have H1 : ((spec_l1In.f a0_4 1 1000).bind fun t216 => (spec_IsValidVersion.j0 k (!t216) a0_0 a0_1 a0_2 a0_3 a0_4)) = some r := by rw [if_pos rfl] at H; exact H
  clear H
  have H := H1
  clear H1
  replace H := Option.bind_eq_some_iff.mp H
  obtain ⟨t216, A100, H⟩ := H
  replace H : (spec_IsValidVersion.j0 k (!t216) a0_0 a0_1 a0_2 a0_3 a0_4) = some r := H
  have A10 := AM_ A100
  clear A100
  have H' := AM_ H
  clear H
  obtain ⟨hcz11_0, hcz11_1, hcz11_2, hcz11_3, hcz11_4, hfz11_0, hfz11_1, hfz11_2, hfz11_3, hfz11_4⟩ := bk5 BK212.out
  go_wp2_with (first | ((with_reducible refine gate_callee (f := 82) rfl ?_); refine goesL_ (some 5) rfl rfl Try.func82 (by kernel_rfl) rfl #[.int .i64 a0_1, .int .i64 (-1), .int .i64 99] rfl (by (try simp only [List.map_toArray, List.map_cons, List.map_nil]); first | done | rfl | (simp only [List.length_drop, List.length_take]; rfl)) ?_; (with_reducible refine (spec_l1In.calls a0_1 (-1) 99 true _ A4.out).mono ?_); rintro e w' ⟨rfl, ⟨nd, rfl⟩⟩; refine ⟨_, rfl, ?_⟩) | (go_at_call 82; (with_reducible refine (spec_l1In.calls a0_2 0 999 true _ A6.out).mono ?_); rintro e w' ⟨rfl, ⟨nd, rfl⟩⟩) | (go_at_call 82; (with_reducible refine (spec_l1In.calls a0_3 a0_2 999 true _ A8.out).mono ?_); rintro e w' ⟨rfl, ⟨nd, rfl⟩⟩) | (go_at_call 82; (with_reducible refine (spec_l1In.calls a0_4 1 1000 t216 _ A10.out).mono ?_); rintro e w' ⟨rfl, ⟨nd, rfl⟩⟩))
  go_meet
  case rel => exact ⟨_, (!t216), (by first | rfl | (simp; done) | (simp [*]; done)), H', ⟨by first | omega | exact Nat.le_refl _⟩, ⟨BH BK212.out⟩, ⟨BT HB.out⟩⟩
 case rest =>
  clear HC2
  try clear c1
  try clear p2
  try clear c5
  try clear c7
  try clear c8
  try clear c9
  try clear hcz11_0
  try clear hcz11_1
  try clear hcz11_2
  try clear hcz11_3
  try clear hcz11_4
  try clear hcz12_0
  try clear hcz12_1
  try clear hcz12_2
  try clear hcz12_3
  try clear hcz12_4
  try clear hcz13_0
  try clear hcz13_1
  try clear hcz13_2
  try clear hcz13_3
  try clear hcz13_4
  try clear hcz14_0
  try clear hcz14_1
  try clear hcz14_2
  try clear hcz14_3
  try clear hcz14_4
  try clear hfz11_0
  try clear hfz11_1
  try clear hfz11_2
  try clear hfz11_3
  try clear hfz11_4
  try clear hfz12_0
  try clear hfz12_1
  try clear hfz12_2
  try clear hfz12_3
  try clear hfz12_4
  try clear hfz13_0
  try clear hfz13_1
  try clear hfz13_2
  try clear hfz13_3
  try clear hfz13_4
  try clear hfz14_0
  try clear hfz14_1
  try clear hfz14_2
  try clear hfz14_3
  try clear hfz14_4
  obtain ⟨kq, x26_1, rfl, HA, HJ1, BK212, HB⟩ := hcut
  cases kq with
  | zero => exact absurd HA.out (by simp [spec_IsValidVersion.j0])
  | succ kj1 =>
   have H := HA.out
   clear HA
   simp only [spec_IsValidVersion.j0] at H
   by_cases c15 : x26_1 = true
   ·subst c15
    have H1 : (some false) = some r := by rw [if_pos rfl] at H; exact H
    clear H
    have H := H1
    clear H1
    obtain rfl := Option.some.inj H
    go_wp2
    go_ret
    exact QT (BT HB.out)
   replace c15 := Bool.eq_false_iff.mpr c15
   subst c15
   have H1 : (if a0_2 = 0 then (if a0_0 = 0 then (some (a0_1 == (-1))) else (some false)) else ((spec_l1In.f a0_0 1 9).bind fun t217 => (some t217))) = some r := by rw [if_neg (show ¬ (false = true) by decide)] at H; exact H
   clear H
   have H := H1
   clear H1
   by_cases c16 : a0_2 = 0
   ·rw [if_pos c16] at H
    have c16b0 : (a0_2 == 0) = true := beq_iff_eq.mpr c16
    have c16b1 : (a0_2 != 0) = false := bne_eq_false_iff_eq.mpr c16
    clear c16
    by_cases c17 : a0_0 = 0
    rotate_left
    ·rw [if_neg c17] at H
     have c17b0 : (a0_0 == 0) = false := beq_eq_false_iff_ne.mpr c17
     have c17b1 : (a0_0 != 0) = true := bne_iff_ne.mpr c17
     obtain rfl := Option.some.inj H
     obtain ⟨hcz19_0, hcz19_1, hcz19_2, hcz19_3, hcz19_4, hfz19_0, hfz19_1, hfz19_2, hfz19_3, hfz19_4⟩ := bk5 BK212.out
     go_wp2
     go_ret
     exact QT (BT HB.out)
    rw [if_pos c17] at H
    have c17b0 : (a0_0 == 0) = true := beq_iff_eq.mpr c17
    have c17b1 : (a0_0 != 0) = false := bne_eq_false_iff_eq.mpr c17
    clear c17
    obtain rfl := Option.some.inj H
    obtain ⟨hcz18_0, hcz18_1, hcz18_2, hcz18_3, hcz18_4, hfz18_0, hfz18_1, hfz18_2, hfz18_3, hfz18_4⟩ := bk5 BK212.out
    go_wp2
    go_ret
    exact QT (BT HB.out)
   rw [if_neg c16] at H
   have c16b0 : (a0_2 == 0) = false := beq_eq_false_iff_ne.mpr c16
   have c16b1 : (a0_2 != 0) = true := bne_iff_ne.mpr c16
   replace H := Option.bind_eq_some_iff.mp H
   obtain ⟨t217, A200, H⟩ := H
   replace H : (some t217) = some r := H
   have A20 := AM_ A200
   clear A200
   obtain rfl := Option.some.inj H
   obtain ⟨hcz21_0, hcz21_1, hcz21_2, hcz21_3, hcz21_4, hfz21_0, hfz21_1, hfz21_2, hfz21_3, hfz21_4⟩ := bk5 BK212.out
   go_wp2_with (first | ((with_reducible refine gate_callee (f := 82) rfl ?_); refine goesL_ (some 40) rfl rfl Try.func82 (by kernel_rfl) rfl #[.int .i64 a0_0, .int .i64 1, .int .i64 9] rfl (by (try simp only [List.map_toArray, List.map_cons, List.map_nil]); first | done | rfl | (simp only [List.length_drop, List.length_take]; rfl)) ?_; (with_reducible refine (spec_l1In.calls a0_0 1 9 t217 _ A20.out).mono ?_); rintro e w' ⟨rfl, ⟨nd, rfl⟩⟩; refine ⟨_, rfl, ?_⟩))
   go_ret
   exact QT (BT HB.out)

/-! ### spec_IsValidChain: function 136 -/
def spec_IsValidChain.l0 : Nat → List (S76) → Int → Option (Bool)
 | 0, _, _ => none
 | k + 1, x0, x3 => if x3 < (x0.length : Int) then (if 0 ≤ x3 then ((spec_IsValidVersion.f k ((rd_T76 x0 x3).f0) ((rd_T76 x0 x3).f1) ((rd_T76 x0 x3).f2) ((rd_T76 x0 x3).f3) ((rd_T76 x0 x3).f4)).bind fun t220 => (if t220 = true then (if (wrap64 (x3 + 1)) < (x0.length : Int) then (if 0 ≤ (wrap64 (x3 + 1)) then (if ((rd_T76 x0 x3).f2) ≥ ((rd_T76 x0 (wrap64 (x3 + 1))).f2) then (some false) else (if ((rd_T76 x0 x3).f4) > ((rd_T76 x0 (wrap64 (x3 + 1))).f2) then (some false) else (spec_IsValidChain.l0 k x0 (wrap64 (x3 + 1))))) else (none)) else (spec_IsValidChain.l0 k x0 (wrap64 (x3 + 1)))) else (some false))) else (none)) else (if (x0.length : Int) > 0 then (if 0 ≤ (wrap64 ((x0.length : Int) - 1)) then (if (wrap64 ((x0.length : Int) - 1)) < (x0.length : Int) then (some (((rd_T76 x0 (wrap64 ((x0.length : Int) - 1))).f4) == 1000)) else (none)) else (none)) else (some false))
def spec_IsValidChain.f (k : Nat) (l0 : List (S76)) : Option (Bool) := spec_IsValidChain.l0 k l0 0
theorem spec_IsValidChain.mono_l : ∀ k, (∀ y0 y1, LeO (spec_IsValidChain.l0 k y0 y1) (spec_IsValidChain.l0 (k + 1) y0 y1))
 | 0 => fun _ _ r h => by simp [spec_IsValidChain.l0] at h
 | k + 1 => by
  have ih0 := spec_IsValidChain.mono_l k
  ·intro y0 y1
   unfold spec_IsValidChain.l0
   repeat' first
   | (with_reducible exact ih0 _ _)
   | (with_reducible exact spec_IsValidVersion.mono _ _ _ _ _ _)
   | (with_reducible exact LeO.refl _)
   | (with_reducible exact LeO.none _)
   | (with_reducible refine LeO.ite ?_ ?_)
   | (with_reducible refine LeO.bind ?_ (fun _ => ?_))
   | exact ih0 _ _
   | exact spec_IsValidVersion.mono _ _ _ _ _ _
   | exact LeO.none _
   | refine LeO.ite ?_ ?_
   | refine LeO.bind ?_ (fun _ => ?_)
theorem spec_IsValidChain.mono : ∀ a0 k, LeO (spec_IsValidChain.f k a0) (spec_IsValidChain.f (k + 1) a0) := by
 intro a0 k
 have ih0 := spec_IsValidChain.mono_l k
 unfold spec_IsValidChain.f
 repeat' first
   | (with_reducible exact ih0 _ _)
   | (with_reducible exact spec_IsValidVersion.mono _ _ _ _ _ _)
   | (with_reducible exact LeO.refl _)
   | (with_reducible exact LeO.none _)
   | (with_reducible refine LeO.ite ?_ ?_)
   | (with_reducible refine LeO.bind ?_ (fun _ => ?_))
   | exact ih0 _ _
   | exact spec_IsValidVersion.mono _ _ _ _ _ _
   | exact LeO.none _
   | refine LeO.ite ?_ ?_
   | refine LeO.bind ?_ (fun _ => ?_)
set_option maxHeartbeats 8000000 in
set_option maxRecDepth 100000 in
theorem spec_IsValidChain.calls (k : Nat) (A0 : Option Addr) (c0 : Nat) (l0 : List (S76)) (r : Bool) (w : World) (hr0 : Kd.C k76 w A0 l0.length l0) (hc0 : l0.length ≤ c0) (h : spec_IsValidChain.f k l0 = some r) :
  Calls Try.prog 136 #[.slice A0 l0.length c0] w fun e w' => e = .returned (.bool r) ∧ Below w.heap.size w w' := by
 have hu76 := Try.underlying76
 have HR0 := AM_ hr0
 have HC0 := AM_ hc0
 clear hr0 hc0
 have HB := AM_ (Below.refl w.heap.size w)
 have H : (spec_IsValidChain.l0 k l0 0) = some r := h
 clear h
 have H' := AM_ H
 clear H
 go_enter Try.func136, Try.ntmps136
 go_wp2
 repeat (go_quiet (fail); try go_wp2)
 go_loopg [3] k (fun kq v3 w' => ∃ (x3_1 : Int), v3 = .int .i64 x3_1 ∧ Aside0 (spec_IsValidChain.l0 kq l0 x3_1 = some r) ∧ Aside0 (kq ≤ k) ∧ Aside0 (Below w.heap.size w w'))
 case atStart => exact ⟨(0), (by first | rfl | (simp; done) | (simp [*]; done)), H', ⟨Nat.le_refl _⟩, ⟨BT HB.out⟩⟩
 case round =>
  clear H'
  try clear c1
  obtain ⟨x3_1, rfl, HA, HK1, HB⟩ := hrel
  cases gk with
  | zero => exact absurd HA.out (by simp [spec_IsValidChain.l0])
  | succ k1 =>
   have H := HA.out
   clear HA
   simp only [spec_IsValidChain.l0] at H
   by_cases c2 : x3_1 < (l0.length : Int)
   rotate_left
   ·rw [if_neg c2] at H
    have c2b0 : decide (x3_1 < (l0.length : Int)) = false := decide_eq_false c2
    clear c2
    by_cases c16 : (l0.length : Int) > 0
    rotate_left
    ·rw [if_neg c16] at H
     have c16b0 : decide (0 < (l0.length : Int)) = false := decide_eq_false c16
     have c16b1 : decide (0 < l0.length) = false := decide_eq_false (by omega)
     clear c16
     obtain rfl := Option.some.inj H
     go_wp2
     repeat (go_quiet (fail); try go_wp2)
     go_ret
     exact QT (BT HB.out)
    rw [if_pos c16] at H
    have c16b0 : decide (0 < (l0.length : Int)) = true := decide_eq_true c16
    have c16b1 : decide (0 < l0.length) = true := decide_eq_true (by omega)
    clear c16
    obtain ⟨ji17, hji17⟩ : ∃ j_ : Int, (wrap64 ((l0.length : Int) - 1)) = j_ := ⟨_, rfl⟩
    replace H : (if 0 ≤ (ji17) then (if (ji17) < (l0.length : Int) then (some (((rd_T76 l0 (ji17)).f4) == 1000)) else (none)) else (none)) = some r := by first | (rw [hji17] at H; exact H) | (simp only [hji17] at H ⊢; exact H)
    have hji17w : (IntKind.i64.wrap ((l0.length : Int) - 1)) = ji17 := (i64_w _).trans hji17
    by_cases c18 : 0 ≤ (ji17)
    rotate_left
    ·rw [if_neg c18] at H
     exact absurd H (by simp)
    rw [if_pos c18] at H
    have c18b0 : decide (0 ≤ (ji17)) = true := decide_eq_true c18
    clear c18
    by_cases c19 : (ji17) < (l0.length : Int)
    rotate_left
    ·rw [if_neg c19] at H
     exact absurd H (by simp)
    rw [if_pos c19] at H
    have c19b0 : decide ((ji17) < (l0.length : Int)) = true := decide_eq_true c19
    clear c19
    obtain rfl := Option.some.inj H
    have p218 : 0 ≤ ((ji17) : Int) := DT
    have q218 : (ji17) < (l0.length : Int) := DT
    obtain ⟨ad218, e218, hx218_0, hx218_1, hx218_2, hx218_3, hx218_4⟩ := at_T76 HR0.out (ji17) p218 q218
    cases e218
    replace hx218_0 := BC HB.out hx218_0
    replace hx218_1 := BC HB.out hx218_1
    replace hx218_2 := BC HB.out hx218_2
    replace hx218_3 := BC HB.out hx218_3
    replace hx218_4 := BC HB.out hx218_4
    replace p218 := eq_true p218
    replace q218 := eq_true q218
    go_wp2
    repeat (go_quiet (fail); try go_wp2)
    go_ret
    exact ⟨by first | rfl | (simp [errW_none, errW_some] <;> rfl) | (simp only [← hji17]; first | rfl | (simp [errW_none, errW_some] <;> rfl)) | (simp [*, errW_none, errW_some] <;> rfl), BT HB.out⟩
   rw [if_pos c2] at H
   have c2b0 : decide (x3_1 < (l0.length : Int)) = true := decide_eq_true c2
   clear c2
   by_cases c3 : 0 ≤ x3_1
   rotate_left
   ·rw [if_neg c3] at H
    exact absurd H (by simp)
   rw [if_pos c3] at H
   have c3b0 : decide (0 ≤ x3_1) = true := decide_eq_true c3
   clear c3
   replace H := Option.bind_eq_some_iff.mp H
   obtain ⟨t220, A40, H⟩ := H
   replace H : (if t220 = true then (if (wrap64 (x3_1 + 1)) < (l0.length : Int) then (if 0 ≤ (wrap64 (x3_1 + 1)) then (if ((rd_T76 l0 x3_1).f2) ≥ ((rd_T76 l0 (wrap64 (x3_1 + 1))).f2) then (some false) else (if ((rd_T76 l0 x3_1).f4) > ((rd_T76 l0 (wrap64 (x3_1 + 1))).f2) then (some false) else (spec_IsValidChain.l0 k1 l0 (wrap64 (x3_1 + 1))))) else (none)) else (spec_IsValidChain.l0 k1 l0 (wrap64 (x3_1 + 1)))) else (some false)) = some r := H
   have A4 := AM_ A40
   clear A40
   by_cases c5 : t220 = true
   rotate_left
   ·replace c5 := Bool.eq_false_iff.mpr c5
    subst c5
    have H1 : (some false) = some r := by rw [if_neg (show ¬ (false = true) by decide)] at H; exact H
    clear H
    have H := H1
    clear H1
    obtain rfl := Option.some.inj H
    have p219 : 0 ≤ (x3_1 : Int) := DT
    have q219 : x3_1 < (l0.length : Int) := DT
    obtain ⟨ad219, e219, hx219_0, hx219_1, hx219_2, hx219_3, hx219_4⟩ := at_T76 HR0.out x3_1 p219 q219
    cases e219
    replace hx219_0 := BC HB.out hx219_0
    replace hx219_1 := BC HB.out hx219_1
    replace hx219_2 := BC HB.out hx219_2
    replace hx219_3 := BC HB.out hx219_3
    replace hx219_4 := BC HB.out hx219_4
    replace p219 := eq_true p219
    replace q219 := eq_true q219
    go_wp2_with (first | (go_at_call 194; (with_reducible refine (spec_IsValidVersion.calls k1 ((rd_T76 l0 x3_1).f0) ((rd_T76 l0 x3_1).f1) ((rd_T76 l0 x3_1).f2) ((rd_T76 l0 x3_1).f3) ((rd_T76 l0 x3_1).f4) false _ A4.out).mono ?_); rintro e w15 ⟨rfl, hb⟩; replace HB := AM_ (below_step (BT HB.out) hb); (try clear hb); (try clear hb2); (try clear hk); (try clear hi)))
    repeat (go_quiet (first | (go_at_call 194; (with_reducible refine (spec_IsValidVersion.calls k1 ((rd_T76 l0 x3_1).f0) ((rd_T76 l0 x3_1).f1) ((rd_T76 l0 x3_1).f2) ((rd_T76 l0 x3_1).f3) ((rd_T76 l0 x3_1).f4) false _ A4.out).mono ?_); rintro e w15 ⟨rfl, hb⟩; replace HB := AM_ (below_step (BT HB.out) hb); (try clear hb); (try clear hb2); (try clear hk); (try clear hi))); try go_wp2_with (first | (go_at_call 194; (with_reducible refine (spec_IsValidVersion.calls k1 ((rd_T76 l0 x3_1).f0) ((rd_T76 l0 x3_1).f1) ((rd_T76 l0 x3_1).f2) ((rd_T76 l0 x3_1).f3) ((rd_T76 l0 x3_1).f4) false _ A4.out).mono ?_); rintro e w15 ⟨rfl, hb⟩; replace HB := AM_ (below_step (BT HB.out) hb); (try clear hb); (try clear hb2); (try clear hk); (try clear hi))))
    go_ret
    exact QT (BT HB.out)
   subst c5
   have H1 : (if (wrap64 (x3_1 + 1)) < (l0.length : Int) then (if 0 ≤ (wrap64 (x3_1 + 1)) then (if ((rd_T76 l0 x3_1).f2) ≥ ((rd_T76 l0 (wrap64 (x3_1 + 1))).f2) then (some false) else (if ((rd_T76 l0 x3_1).f4) > ((rd_T76 l0 (wrap64 (x3_1 + 1))).f2) then (some false) else (spec_IsValidChain.l0 k1 l0 (wrap64 (x3_1 + 1))))) else (none)) else (spec_IsValidChain.l0 k1 l0 (wrap64 (x3_1 + 1)))) = some r := by rw [if_pos rfl] at H; exact H
   clear H
   have H := H1
   clear H1
   by_cases c6 : (wrap64 (x3_1 + 1)) < (l0.length : Int)
   rotate_left
   ·rw [if_neg c6] at H
    have c6b0 : decide ((wrap64 (x3_1 + 1)) < (l0.length : Int)) = false := decide_eq_false c6
    clear c6
    have H' := AM_ H
    clear H
    have p219 : 0 ≤ (x3_1 : Int) := DT
    have q219 : x3_1 < (l0.length : Int) := DT
    obtain ⟨ad219, e219, hx219_0, hx219_1, hx219_2, hx219_3, hx219_4⟩ := at_T76 HR0.out x3_1 p219 q219
    cases e219
    replace hx219_0 := BC HB.out hx219_0
    replace hx219_1 := BC HB.out hx219_1
    replace hx219_2 := BC HB.out hx219_2
    replace hx219_3 := BC HB.out hx219_3
    replace hx219_4 := BC HB.out hx219_4
    replace p219 := eq_true p219
    replace q219 := eq_true q219
    go_wp2_with (first | (go_at_call 194; (with_reducible refine (spec_IsValidVersion.calls k1 ((rd_T76 l0 x3_1).f0) ((rd_T76 l0 x3_1).f1) ((rd_T76 l0 x3_1).f2) ((rd_T76 l0 x3_1).f3) ((rd_T76 l0 x3_1).f4) true _ A4.out).mono ?_); rintro e w14 ⟨rfl, hb⟩; replace HB := AM_ (below_step (BT HB.out) hb); (try clear hb); (try clear hb2); (try clear hk); (try clear hi)))
    repeat (go_quiet (first | (go_at_call 194; (with_reducible refine (spec_IsValidVersion.calls k1 ((rd_T76 l0 x3_1).f0) ((rd_T76 l0 x3_1).f1) ((rd_T76 l0 x3_1).f2) ((rd_T76 l0 x3_1).f3) ((rd_T76 l0 x3_1).f4) true _ A4.out).mono ?_); rintro e w14 ⟨rfl, hb⟩; replace HB := AM_ (below_step (BT HB.out) hb); (try clear hb); (try clear hb2); (try clear hk); (try clear hi))); try go_wp2_with (first | (go_at_call 194; (with_reducible refine (spec_IsValidVersion.calls k1 ((rd_T76 l0 x3_1).f0) ((rd_T76 l0 x3_1).f1) ((rd_T76 l0 x3_1).f2) ((rd_T76 l0 x3_1).f3) ((rd_T76 l0 x3_1).f4) true _ A4.out).mono ?_); rintro e w14 ⟨rfl, hb⟩; replace HB := AM_ (below_step (BT HB.out) hb); (try clear hb); (try clear hb2); (try clear hk); (try clear hi))))
    go_roundg k1
    case measure => have := HK1.out; omega
    case rel => exact ⟨(wrap64 (x3_1 + 1)), (by first | rfl | (simp; done) | (simp [*]; done)), H', ⟨by have := HK1.out; omega⟩, ⟨BT HB.out⟩⟩
   rw [if_pos c6] at H
   have c6b0 : decide ((wrap64 (x3_1 + 1)) < (l0.length : Int)) = true := decide_eq_true c6
   clear c6
   obtain ⟨ji7, hji7⟩ : ∃ j_ : Int, (wrap64 (x3_1 + 1)) = j_ := ⟨_, rfl⟩
   replace H : (if 0 ≤ (ji7) then (if ((rd_T76 l0 x3_1).f2) ≥ ((rd_T76 l0 (ji7)).f2) then (some false) else (if ((rd_T76 l0 x3_1).f4) > ((rd_T76 l0 (ji7)).f2) then (some false) else (spec_IsValidChain.l0 k1 l0 ji7))) else (none)) = some r := by first | (rw [hji7] at H; exact H) | (simp only [hji7] at H ⊢; exact H)
   (try rw [hji7] at c6b0)
   (try rw [hji7] at A4)
   have hji7w : (IntKind.i64.wrap (x3_1 + 1)) = ji7 := (i64_w _).trans hji7
   by_cases c8 : 0 ≤ (ji7)
   rotate_left
   ·rw [if_neg c8] at H
    exact absurd H (by simp)
   rw [if_pos c8] at H
   have c8b0 : decide (0 ≤ (ji7)) = true := decide_eq_true c8
   clear c8
   by_cases c9 : ((rd_T76 l0 x3_1).f2) ≥ ((rd_T76 l0 (ji7)).f2)
   ·rw [if_pos c9] at H
    have c9b0 : decide (((rd_T76 l0 (ji7)).f2) ≤ ((rd_T76 l0 x3_1).f2)) = true := decide_eq_true c9
    clear c9
    obtain rfl := Option.some.inj H
    have p219 : 0 ≤ (x3_1 : Int) := DT
    have q219 : x3_1 < (l0.length : Int) := DT
    obtain ⟨ad219, e219, hx219_0, hx219_1, hx219_2, hx219_3, hx219_4⟩ := at_T76 HR0.out x3_1 p219 q219
    cases e219
    replace hx219_0 := BC HB.out hx219_0
    replace hx219_1 := BC HB.out hx219_1
    replace hx219_2 := BC HB.out hx219_2
    replace hx219_3 := BC HB.out hx219_3
    replace hx219_4 := BC HB.out hx219_4
    replace p219 := eq_true p219
    replace q219 := eq_true q219
    go_wp2_with (first | (go_at_call 194; (with_reducible refine (spec_IsValidVersion.calls k1 ((rd_T76 l0 x3_1).f0) ((rd_T76 l0 x3_1).f1) ((rd_T76 l0 x3_1).f2) ((rd_T76 l0 x3_1).f3) ((rd_T76 l0 x3_1).f4) true _ A4.out).mono ?_); rintro e w10 ⟨rfl, hb⟩; replace HB := AM_ (below_step (BT HB.out) hb); (try clear hb); (try clear hb2); (try clear hk); (try clear hi); have p221 : 0 ≤ (x3_1 : Int) := DT; have q221 : x3_1 < (l0.length : Int) := DT; obtain ⟨ad221, e221, hx221_0, hx221_1, hx221_2, hx221_3, hx221_4⟩ := at_T76 HR0.out x3_1 p221 q221; obtain rfl : ad219 = ad221 := (by injection e221); replace hx221_0 := BD HB.out hx221_0; replace hx221_1 := BD HB.out hx221_1; replace hx221_2 := BD HB.out hx221_2; replace hx221_3 := BD HB.out hx221_3; replace hx221_4 := BD HB.out hx221_4; replace p221 := eq_true p221; replace q221 := eq_true q221; have p222 : 0 ≤ ((ji7) : Int) := DT; have q222 : (ji7) < (l0.length : Int) := DT; obtain ⟨ad222, e222, hx222_0, hx222_1, hx222_2, hx222_3, hx222_4⟩ := at_T76 HR0.out (ji7) p222 q222; obtain rfl : ad219 = ad222 := (by injection e222); replace hx222_0 := BD HB.out hx222_0; replace hx222_1 := BD HB.out hx222_1; replace hx222_2 := BD HB.out hx222_2; replace hx222_3 := BD HB.out hx222_3; replace hx222_4 := BD HB.out hx222_4; replace p222 := eq_true p222; replace q222 := eq_true q222))
    repeat (go_quiet (first | (go_at_call 194; (with_reducible refine (spec_IsValidVersion.calls k1 ((rd_T76 l0 x3_1).f0) ((rd_T76 l0 x3_1).f1) ((rd_T76 l0 x3_1).f2) ((rd_T76 l0 x3_1).f3) ((rd_T76 l0 x3_1).f4) true _ A4.out).mono ?_); rintro e w10 ⟨rfl, hb⟩; replace HB := AM_ (below_step (BT HB.out) hb); (try clear hb); (try clear hb2); (try clear hk); (try clear hi); have p221 : 0 ≤ (x3_1 : Int) := DT; have q221 : x3_1 < (l0.length : Int) := DT; obtain ⟨ad221, e221, hx221_0, hx221_1, hx221_2, hx221_3, hx221_4⟩ := at_T76 HR0.out x3_1 p221 q221; obtain rfl : ad219 = ad221 := (by injection e221); replace hx221_0 := BD HB.out hx221_0; replace hx221_1 := BD HB.out hx221_1; replace hx221_2 := BD HB.out hx221_2; replace hx221_3 := BD HB.out hx221_3; replace hx221_4 := BD HB.out hx221_4; replace p221 := eq_true p221; replace q221 := eq_true q221; have p222 : 0 ≤ ((ji7) : Int) := DT; have q222 : (ji7) < (l0.length : Int) := DT; obtain ⟨ad222, e222, hx222_0, hx222_1, hx222_2, hx222_3, hx222_4⟩ := at_T76 HR0.out (ji7) p222 q222; obtain rfl : ad219 = ad222 := (by injection e222); replace hx222_0 := BD HB.out hx222_0; replace hx222_1 := BD HB.out hx222_1; replace hx222_2 := BD HB.out hx222_2; replace hx222_3 := BD HB.out hx222_3; replace hx222_4 := BD HB.out hx222_4; replace p222 := eq_true p222; replace q222 := eq_true q222)); try go_wp2_with (first | (go_at_call 194; (with_reducible refine (spec_IsValidVersion.calls k1 ((rd_T76 l0 x3_1).f0) ((rd_T76 l0 x3_1).f1) ((rd_T76 l0 x3_1).f2) ((rd_T76 l0 x3_1).f3) ((rd_T76 l0 x3_1).f4) true _ A4.out).mono ?_); rintro e w10 ⟨rfl, hb⟩; replace HB := AM_ (below_step (BT HB.out) hb); (try clear hb); (try clear hb2); (try clear hk); (try clear hi); have p221 : 0 ≤ (x3_1 : Int) := DT; have q221 : x3_1 < (l0.length : Int) := DT; obtain ⟨ad221, e221, hx221_0, hx221_1, hx221_2, hx221_3, hx221_4⟩ := at_T76 HR0.out x3_1 p221 q221; obtain rfl : ad219 = ad221 := (by injection e221); replace hx221_0 := BD HB.out hx221_0; replace hx221_1 := BD HB.out hx221_1; replace hx221_2 := BD HB.out hx221_2; replace hx221_3 := BD HB.out hx221_3; replace hx221_4 := BD HB.out hx221_4; replace p221 := eq_true p221; replace q221 := eq_true q221; have p222 : 0 ≤ ((ji7) : Int) := DT; have q222 : (ji7) < (l0.length : Int) := DT; obtain ⟨ad222, e222, hx222_0, hx222_1, hx222_2, hx222_3, hx222_4⟩ := at_T76 HR0.out (ji7) p222 q222; obtain rfl : ad219 = ad222 := (by injection e222); replace hx222_0 := BD HB.out hx222_0; replace hx222_1 := BD HB.out hx222_1; replace hx222_2 := BD HB.out hx222_2; replace hx222_3 := BD HB.out hx222_3; replace hx222_4 := BD HB.out hx222_4; replace p222 := eq_true p222; replace q222 := eq_true q222)))
    go_ret
    exact ⟨by first | rfl | (simp [errW_none, errW_some] <;> rfl) | (simp only [← hji7]; first | rfl | (simp [errW_none, errW_some] <;> rfl)) | (simp [*, errW_none, errW_some] <;> rfl), BT HB.out⟩
   rw [if_neg c9] at H
   have c9b0 : decide (((rd_T76 l0 (ji7)).f2) ≤ ((rd_T76 l0 x3_1).f2)) = false := decide_eq_false c9
   clear c9
   by_cases c11 : ((rd_T76 l0 x3_1).f4) > ((rd_T76 l0 (ji7)).f2)
   ·rw [if_pos c11] at H
    have c11b0 : decide (((rd_T76 l0 (ji7)).f2) < ((rd_T76 l0 x3_1).f4)) = true := decide_eq_true c11
    clear c11
    obtain rfl := Option.some.inj H
    have p219 : 0 ≤ (x3_1 : Int) := DT
    have q219 : x3_1 < (l0.length : Int) := DT
    obtain ⟨ad219, e219, hx219_0, hx219_1, hx219_2, hx219_3, hx219_4⟩ := at_T76 HR0.out x3_1 p219 q219
    cases e219
    replace hx219_0 := BC HB.out hx219_0
    replace hx219_1 := BC HB.out hx219_1
    replace hx219_2 := BC HB.out hx219_2
    replace hx219_3 := BC HB.out hx219_3
    replace hx219_4 := BC HB.out hx219_4
    replace p219 := eq_true p219
    replace q219 := eq_true q219
    go_wp2_with (first | (go_at_call 194; (with_reducible refine (spec_IsValidVersion.calls k1 ((rd_T76 l0 x3_1).f0) ((rd_T76 l0 x3_1).f1) ((rd_T76 l0 x3_1).f2) ((rd_T76 l0 x3_1).f3) ((rd_T76 l0 x3_1).f4) true _ A4.out).mono ?_); rintro e w12 ⟨rfl, hb⟩; replace HB := AM_ (below_step (BT HB.out) hb); (try clear hb); (try clear hb2); (try clear hk); (try clear hi); have p221 : 0 ≤ (x3_1 : Int) := DT; have q221 : x3_1 < (l0.length : Int) := DT; obtain ⟨ad221, e221, hx221_0, hx221_1, hx221_2, hx221_3, hx221_4⟩ := at_T76 HR0.out x3_1 p221 q221; obtain rfl : ad219 = ad221 := (by injection e221); replace hx221_0 := BD HB.out hx221_0; replace hx221_1 := BD HB.out hx221_1; replace hx221_2 := BD HB.out hx221_2; replace hx221_3 := BD HB.out hx221_3; replace hx221_4 := BD HB.out hx221_4; replace p221 := eq_true p221; replace q221 := eq_true q221; have p222 : 0 ≤ ((ji7) : Int) := DT; have q222 : (ji7) < (l0.length : Int) := DT; obtain ⟨ad222, e222, hx222_0, hx222_1, hx222_2, hx222_3, hx222_4⟩ := at_T76 HR0.out (ji7) p222 q222; obtain rfl : ad219 = ad222 := (by injection e222); replace hx222_0 := BD HB.out hx222_0; replace hx222_1 := BD HB.out hx222_1; replace hx222_2 := BD HB.out hx222_2; replace hx222_3 := BD HB.out hx222_3; replace hx222_4 := BD HB.out hx222_4; replace p222 := eq_true p222; replace q222 := eq_true q222; have p223 : 0 ≤ (x3_1 : Int) := DT; have q223 : x3_1 < (l0.length : Int) := DT; obtain ⟨ad223, e223, hx223_0, hx223_1, hx223_2, hx223_3, hx223_4⟩ := at_T76 HR0.out x3_1 p223 q223; obtain rfl : ad219 = ad223 := (by injection e223); replace hx223_0 := BD HB.out hx223_0; replace hx223_1 := BD HB.out hx223_1; replace hx223_2 := BD HB.out hx223_2; replace hx223_3 := BD HB.out hx223_3; replace hx223_4 := BD HB.out hx223_4; replace p223 := eq_true p223; replace q223 := eq_true q223; have p224 : 0 ≤ ((ji7) : Int) := DT; have q224 : (ji7) < (l0.length : Int) := DT; obtain ⟨ad224, e224, hx224_0, hx224_1, hx224_2, hx224_3, hx224_4⟩ := at_T76 HR0.out (ji7) p224 q224; obtain rfl : ad219 = ad224 := (by injection e224); replace hx224_0 := BD HB.out hx224_0; replace hx224_1 := BD HB.out hx224_1; replace hx224_2 := BD HB.out hx224_2; replace hx224_3 := BD HB.out hx224_3; replace hx224_4 := BD HB.out hx224_4; replace p224 := eq_true p224; replace q224 := eq_true q224))
    repeat (go_quiet (first | (go_at_call 194; (with_reducible refine (spec_IsValidVersion.calls k1 ((rd_T76 l0 x3_1).f0) ((rd_T76 l0 x3_1).f1) ((rd_T76 l0 x3_1).f2) ((rd_T76 l0 x3_1).f3) ((rd_T76 l0 x3_1).f4) true _ A4.out).mono ?_); rintro e w12 ⟨rfl, hb⟩; replace HB := AM_ (below_step (BT HB.out) hb); (try clear hb); (try clear hb2); (try clear hk); (try clear hi); have p221 : 0 ≤ (x3_1 : Int) := DT; have q221 : x3_1 < (l0.length : Int) := DT; obtain ⟨ad221, e221, hx221_0, hx221_1, hx221_2, hx221_3, hx221_4⟩ := at_T76 HR0.out x3_1 p221 q221; obtain rfl : ad219 = ad221 := (by injection e221); replace hx221_0 := BD HB.out hx221_0; replace hx221_1 := BD HB.out hx221_1; replace hx221_2 := BD HB.out hx221_2; replace hx221_3 := BD HB.out hx221_3; replace hx221_4 := BD HB.out hx221_4; replace p221 := eq_true p221; replace q221 := eq_true q221; have p222 : 0 ≤ ((ji7) : Int) := DT; have q222 : (ji7) < (l0.length : Int) := DT; obtain ⟨ad222, e222, hx222_0, hx222_1, hx222_2, hx222_3, hx222_4⟩ := at_T76 HR0.out (ji7) p222 q222; obtain rfl : ad219 = ad222 := (by injection e222); replace hx222_0 := BD HB.out hx222_0; replace hx222_1 := BD HB.out hx222_1; replace hx222_2 := BD HB.out hx222_2; replace hx222_3 := BD HB.out hx222_3; replace hx222_4 := BD HB.out hx222_4; replace p222 := eq_true p222; replace q222 := eq_true q222; have p223 : 0 ≤ (x3_1 : Int) := DT; have q223 : x3_1 < (l0.length : Int) := DT; obtain ⟨ad223, e223, hx223_0, hx223_1, hx223_2, hx223_3, hx223_4⟩ := at_T76 HR0.out x3_1 p223 q223; obtain rfl : ad219 = ad223 := (by injection e223); replace hx223_0 := BD HB.out hx223_0; replace hx223_1 := BD HB.out hx223_1; replace hx223_2 := BD HB.out hx223_2; replace hx223_3 := BD HB.out hx223_3; replace hx223_4 := BD HB.out hx223_4; replace p223 := eq_true p223; replace q223 := eq_true q223; have p224 : 0 ≤ ((ji7) : Int) := DT; have q224 : (ji7) < (l0.length : Int) := DT; obtain ⟨ad224, e224, hx224_0, hx224_1, hx224_2, hx224_3, hx224_4⟩ := at_T76 HR0.out (ji7) p224 q224; obtain rfl : ad219 = ad224 := (by injection e224); replace hx224_0 := BD HB.out hx224_0; replace hx224_1 := BD HB.out hx224_1; replace hx224_2 := BD HB.out hx224_2; replace hx224_3 := BD HB.out hx224_3; replace hx224_4 := BD HB.out hx224_4; replace p224 := eq_true p224; replace q224 := eq_true q224)); try go_wp2_with (first | (go_at_call 194; (with_reducible refine (spec_IsValidVersion.calls k1 ((rd_T76 l0 x3_1).f0) ((rd_T76 l0 x3_1).f1) ((rd_T76 l0 x3_1).f2) ((rd_T76 l0 x3_1).f3) ((rd_T76 l0 x3_1).f4) true _ A4.out).mono ?_); rintro e w12 ⟨rfl, hb⟩; replace HB := AM_ (below_step (BT HB.out) hb); (try clear hb); (try clear hb2); (try clear hk); (try clear hi); have p221 : 0 ≤ (x3_1 : Int) := DT; have q221 : x3_1 < (l0.length : Int) := DT; obtain ⟨ad221, e221, hx221_0, hx221_1, hx221_2, hx221_3, hx221_4⟩ := at_T76 HR0.out x3_1 p221 q221; obtain rfl : ad219 = ad221 := (by injection e221); replace hx221_0 := BD HB.out hx221_0; replace hx221_1 := BD HB.out hx221_1; replace hx221_2 := BD HB.out hx221_2; replace hx221_3 := BD HB.out hx221_3; replace hx221_4 := BD HB.out hx221_4; replace p221 := eq_true p221; replace q221 := eq_true q221; have p222 : 0 ≤ ((ji7) : Int) := DT; have q222 : (ji7) < (l0.length : Int) := DT; obtain ⟨ad222, e222, hx222_0, hx222_1, hx222_2, hx222_3, hx222_4⟩ := at_T76 HR0.out (ji7) p222 q222; obtain rfl : ad219 = ad222 := (by injection e222); replace hx222_0 := BD HB.out hx222_0; replace hx222_1 := BD HB.out hx222_1; replace hx222_2 := BD HB.out hx222_2; replace hx222_3 := BD HB.out hx222_3; replace hx222_4 := BD HB.out hx222_4; replace p222 := eq_true p222; replace q222 := eq_true q222; have p223 : 0 ≤ (x3_1 : Int) := DT; have q223 : x3_1 < (l0.length : Int) := DT; obtain ⟨ad223, e223, hx223_0, hx223_1, hx223_2, hx223_3, hx223_4⟩ := at_T76 HR0.out x3_1 p223 q223; obtain rfl : ad219 = ad223 := (by injection e223); replace hx223_0 := BD HB.out hx223_0; replace hx223_1 := BD HB.out hx223_1; replace hx223_2 := BD HB.out hx223_2; replace hx223_3 := BD HB.out hx223_3; replace hx223_4 := BD HB.out hx223_4; replace p223 := eq_true p223; replace q223 := eq_true q223; have p224 : 0 ≤ ((ji7) : Int) := DT; have q224 : (ji7) < (l0.length : Int) := DT; obtain ⟨ad224, e224, hx224_0, hx224_1, hx224_2, hx224_3, hx224_4⟩ := at_T76 HR0.out (ji7) p224 q224; obtain rfl : ad219 = ad224 := (by injection e224); replace hx224_0 := BD HB.out hx224_0; replace hx224_1 := BD HB.out hx224_1; replace hx224_2 := BD HB.out hx224_2; replace hx224_3 := BD HB.out hx224_3; replace hx224_4 := BD HB.out hx224_4; replace p224 := eq_true p224; replace q224 := eq_true q224)))
    go_ret
    exact ⟨by first | rfl | (simp [errW_none, errW_some] <;> rfl) | (simp only [← hji7]; first | rfl | (simp [errW_none, errW_some] <;> rfl)) | (simp [*, errW_none, errW_some] <;> rfl), BT HB.out⟩
   rw [if_neg c11] at H
   have c11b0 : decide (((rd_T76 l0 (ji7)).f2) < ((rd_T76 l0 x3_1).f4)) = false := decide_eq_false c11
   clear c11
   have H' := AM_ H
   clear H
   have p219 : 0 ≤ (x3_1 : Int) := DT
   have q219 : x3_1 < (l0.length : Int) := DT
   obtain ⟨ad219, e219, hx219_0, hx219_1, hx219_2, hx219_3, hx219_4⟩ := at_T76 HR0.out x3_1 p219 q219
   cases e219
   replace hx219_0 := BC HB.out hx219_0
   replace hx219_1 := BC HB.out hx219_1
   replace hx219_2 := BC HB.out hx219_2
   replace hx219_3 := BC HB.out hx219_3
   replace hx219_4 := BC HB.out hx219_4
   replace p219 := eq_true p219
   replace q219 := eq_true q219
   go_wp2_with (first | (go_at_call 194; (with_reducible refine (spec_IsValidVersion.calls k1 ((rd_T76 l0 x3_1).f0) ((rd_T76 l0 x3_1).f1) ((rd_T76 l0 x3_1).f2) ((rd_T76 l0 x3_1).f3) ((rd_T76 l0 x3_1).f4) true _ A4.out).mono ?_); rintro e w13 ⟨rfl, hb⟩; replace HB := AM_ (below_step (BT HB.out) hb); (try clear hb); (try clear hb2); (try clear hk); (try clear hi); have p221 : 0 ≤ (x3_1 : Int) := DT; have q221 : x3_1 < (l0.length : Int) := DT; obtain ⟨ad221, e221, hx221_0, hx221_1, hx221_2, hx221_3, hx221_4⟩ := at_T76 HR0.out x3_1 p221 q221; obtain rfl : ad219 = ad221 := (by injection e221); replace hx221_0 := BD HB.out hx221_0; replace hx221_1 := BD HB.out hx221_1; replace hx221_2 := BD HB.out hx221_2; replace hx221_3 := BD HB.out hx221_3; replace hx221_4 := BD HB.out hx221_4; replace p221 := eq_true p221; replace q221 := eq_true q221; have p222 : 0 ≤ ((ji7) : Int) := DT; have q222 : (ji7) < (l0.length : Int) := DT; obtain ⟨ad222, e222, hx222_0, hx222_1, hx222_2, hx222_3, hx222_4⟩ := at_T76 HR0.out (ji7) p222 q222; obtain rfl : ad219 = ad222 := (by injection e222); replace hx222_0 := BD HB.out hx222_0; replace hx222_1 := BD HB.out hx222_1; replace hx222_2 := BD HB.out hx222_2; replace hx222_3 := BD HB.out hx222_3; replace hx222_4 := BD HB.out hx222_4; replace p222 := eq_true p222; replace q222 := eq_true q222; have p223 : 0 ≤ (x3_1 : Int) := DT; have q223 : x3_1 < (l0.length : Int) := DT; obtain ⟨ad223, e223, hx223_0, hx223_1, hx223_2, hx223_3, hx223_4⟩ := at_T76 HR0.out x3_1 p223 q223; obtain rfl : ad219 = ad223 := (by injection e223); replace hx223_0 := BD HB.out hx223_0; replace hx223_1 := BD HB.out hx223_1; replace hx223_2 := BD HB.out hx223_2; replace hx223_3 := BD HB.out hx223_3; replace hx223_4 := BD HB.out hx223_4; replace p223 := eq_true p223; replace q223 := eq_true q223; have p224 : 0 ≤ ((ji7) : Int) := DT; have q224 : (ji7) < (l0.length : Int) := DT; obtain ⟨ad224, e224, hx224_0, hx224_1, hx224_2, hx224_3, hx224_4⟩ := at_T76 HR0.out (ji7) p224 q224; obtain rfl : ad219 = ad224 := (by injection e224); replace hx224_0 := BD HB.out hx224_0; replace hx224_1 := BD HB.out hx224_1; replace hx224_2 := BD HB.out hx224_2; replace hx224_3 := BD HB.out hx224_3; replace hx224_4 := BD HB.out hx224_4; replace p224 := eq_true p224; replace q224 := eq_true q224))
   repeat (go_quiet (first | (go_at_call 194; (with_reducible refine (spec_IsValidVersion.calls k1 ((rd_T76 l0 x3_1).f0) ((rd_T76 l0 x3_1).f1) ((rd_T76 l0 x3_1).f2) ((rd_T76 l0 x3_1).f3) ((rd_T76 l0 x3_1).f4) true _ A4.out).mono ?_); rintro e w13 ⟨rfl, hb⟩; replace HB := AM_ (below_step (BT HB.out) hb); (try clear hb); (try clear hb2); (try clear hk); (try clear hi); have p221 : 0 ≤ (x3_1 : Int) := DT; have q221 : x3_1 < (l0.length : Int) := DT; obtain ⟨ad221, e221, hx221_0, hx221_1, hx221_2, hx221_3, hx221_4⟩ := at_T76 HR0.out x3_1 p221 q221; obtain rfl : ad219 = ad221 := (by injection e221); replace hx221_0 := BD HB.out hx221_0; replace hx221_1 := BD HB.out hx221_1; replace hx221_2 := BD HB.out hx221_2; replace hx221_3 := BD HB.out hx221_3; replace hx221_4 := BD HB.out hx221_4; replace p221 := eq_true p221; replace q221 := eq_true q221; have p222 : 0 ≤ ((ji7) : Int) := DT; have q222 : (ji7) < (l0.length : Int) := DT; obtain ⟨ad222, e222, hx222_0, hx222_1, hx222_2, hx222_3, hx222_4⟩ := at_T76 HR0.out (ji7) p222 q222; obtain rfl : ad219 = ad222 := (by injection e222); replace hx222_0 := BD HB.out hx222_0; replace hx222_1 := BD HB.out hx222_1; replace hx222_2 := BD HB.out hx222_2; replace hx222_3 := BD HB.out hx222_3; replace hx222_4 := BD HB.out hx222_4; replace p222 := eq_true p222; replace q222 := eq_true q222; have p223 : 0 ≤ (x3_1 : Int) := DT; have q223 : x3_1 < (l0.length : Int) := DT; obtain ⟨ad223, e223, hx223_0, hx223_1, hx223_2, hx223_3, hx223_4⟩ := at_T76 HR0.out x3_1 p223 q223; obtain rfl : ad219 = ad223 := (by injection e223); replace hx223_0 := BD HB.out hx223_0; replace hx223_1 := BD HB.out hx223_1; replace hx223_2 := BD HB.out hx223_2; replace hx223_3 := BD HB.out hx223_3; replace hx223_4 := BD HB.out hx223_4; replace p223 := eq_true p223; replace q223 := eq_true q223; have p224 : 0 ≤ ((ji7) : Int) := DT; have q224 : (ji7) < (l0.length : Int) := DT; obtain ⟨ad224, e224, hx224_0, hx224_1, hx224_2, hx224_3, hx224_4⟩ := at_T76 HR0.out (ji7) p224 q224; obtain rfl : ad219 = ad224 := (by injection e224); replace hx224_0 := BD HB.out hx224_0; replace hx224_1 := BD HB.out hx224_1; replace hx224_2 := BD HB.out hx224_2; replace hx224_3 := BD HB.out hx224_3; replace hx224_4 := BD HB.out hx224_4; replace p224 := eq_true p224; replace q224 := eq_true q224)); try go_wp2_with (first | (go_at_call 194; (with_reducible refine (spec_IsValidVersion.calls k1 ((rd_T76 l0 x3_1).f0) ((rd_T76 l0 x3_1).f1) ((rd_T76 l0 x3_1).f2) ((rd_T76 l0 x3_1).f3) ((rd_T76 l0 x3_1).f4) true _ A4.out).mono ?_); rintro e w13 ⟨rfl, hb⟩; replace HB := AM_ (below_step (BT HB.out) hb); (try clear hb); (try clear hb2); (try clear hk); (try clear hi); have p221 : 0 ≤ (x3_1 : Int) := DT; have q221 : x3_1 < (l0.length : Int) := DT; obtain ⟨ad221, e221, hx221_0, hx221_1, hx221_2, hx221_3, hx221_4⟩ := at_T76 HR0.out x3_1 p221 q221; obtain rfl : ad219 = ad221 := (by injection e221); replace hx221_0 := BD HB.out hx221_0; replace hx221_1 := BD HB.out hx221_1; replace hx221_2 := BD HB.out hx221_2; replace hx221_3 := BD HB.out hx221_3; replace hx221_4 := BD HB.out hx221_4; replace p221 := eq_true p221; replace q221 := eq_true q221; have p222 : 0 ≤ ((ji7) : Int) := DT; have q222 : (ji7) < (l0.length : Int) := DT; obtain ⟨ad222, e222, hx222_0, hx222_1, hx222_2, hx222_3, hx222_4⟩ := at_T76 HR0.out (ji7) p222 q222; obtain rfl : ad219 = ad222 := (by injection e222); replace hx222_0 := BD HB.out hx222_0; replace hx222_1 := BD HB.out hx222_1; replace hx222_2 := BD HB.out hx222_2; replace hx222_3 := BD HB.out hx222_3; replace hx222_4 := BD HB.out hx222_4; replace p222 := eq_true p222; replace q222 := eq_true q222; have p223 : 0 ≤ (x3_1 : Int) := DT; have q223 : x3_1 < (l0.length : Int) := DT; obtain ⟨ad223, e223, hx223_0, hx223_1, hx223_2, hx223_3, hx223_4⟩ := at_T76 HR0.out x3_1 p223 q223; obtain rfl : ad219 = ad223 := (by injection e223); replace hx223_0 := BD HB.out hx223_0; replace hx223_1 := BD HB.out hx223_1; replace hx223_2 := BD HB.out hx223_2; replace hx223_3 := BD HB.out hx223_3; replace hx223_4 := BD HB.out hx223_4; replace p223 := eq_true p223; replace q223 := eq_true q223; have p224 : 0 ≤ ((ji7) : Int) := DT; have q224 : (ji7) < (l0.length : Int) := DT; obtain ⟨ad224, e224, hx224_0, hx224_1, hx224_2, hx224_3, hx224_4⟩ := at_T76 HR0.out (ji7) p224 q224; obtain rfl : ad219 = ad224 := (by injection e224); replace hx224_0 := BD HB.out hx224_0; replace hx224_1 := BD HB.out hx224_1; replace hx224_2 := BD HB.out hx224_2; replace hx224_3 := BD HB.out hx224_3; replace hx224_4 := BD HB.out hx224_4; replace p224 := eq_true p224; replace q224 := eq_true q224)))
   go_roundg k1
   case measure => have := HK1.out; omega
   case rel => exact ⟨(ji7), (by first | rfl | (simp; done) | (simp only [← hji7] <;> (first | rfl | simp)) | (simp [*]; done)), H', ⟨by have := HK1.out; omega⟩, ⟨BT HB.out⟩⟩

/-! ### spec_IsValidStore: function 140 -/
def spec_IsValidStore.l0 : Nat → Int → List (List (S76)) → Option (Bool)
 | 0, _, _ => none
 | k + 1, x3, x226000 => if x3 < (x226000.length : Int) then (if 0 ≤ x3 then ((spec_IsValidChain.f k (rd_L6 x226000 x3)).bind fun t227 => (if t227 = true then (if 0 < ((rd_L6 x226000 x3).length : Int) then (if ((rd_T76 (rd_L6 x226000 x3) 0).f2) > 0 then (if ((rd_L6 x226000 x3).length : Int) > 50 then (some false) else (spec_IsValidStore.l0 k (wrap64 (x3 + 1)) x226000)) else (if ((rd_L6 x226000 x3).length : Int) > 50 then (some false) else (spec_IsValidStore.l0 k (wrap64 (x3 + 1)) x226000))) else (none)) else (some false))) else (none)) else (some ((x226000.length : Int) == 6))
def spec_IsValidStore.f (k : Nat) (l0_0 : List (List (S76))) : Option (Bool) := spec_IsValidStore.l0 k 0 l0_0
theorem spec_IsValidStore.mono_l : ∀ k, (∀ y0 y1, LeO (spec_IsValidStore.l0 k y0 y1) (spec_IsValidStore.l0 (k + 1) y0 y1))
 | 0 => fun _ _ r h => by simp [spec_IsValidStore.l0] at h
 | k + 1 => by
  have ih0 := spec_IsValidStore.mono_l k
  ·intro y0 y1
   unfold spec_IsValidStore.l0
   repeat' first
   | (with_reducible exact ih0 _ _)
   | (with_reducible exact spec_IsValidChain.mono _ _)
   | (with_reducible exact LeO.refl _)
   | (with_reducible exact LeO.none _)
   | (with_reducible refine LeO.ite ?_ ?_)
   | (with_reducible refine LeO.bind ?_ (fun _ => ?_))
   | exact ih0 _ _
   | exact spec_IsValidChain.mono _ _
   | exact LeO.none _
   | refine LeO.ite ?_ ?_
   | refine LeO.bind ?_ (fun _ => ?_)
theorem spec_IsValidStore.mono : ∀ a0 k, LeO (spec_IsValidStore.f k a0) (spec_IsValidStore.f (k + 1) a0) := by
 intro a0 k
 have ih0 := spec_IsValidStore.mono_l k
 unfold spec_IsValidStore.f
 repeat' first
   | (with_reducible exact ih0 _ _)
   | (with_reducible exact spec_IsValidChain.mono _ _)
   | (with_reducible exact LeO.refl _)
   | (with_reducible exact LeO.none _)
   | (with_reducible refine LeO.ite ?_ ?_)
   | (with_reducible refine LeO.bind ?_ (fun _ => ?_))
   | exact ih0 _ _
   | exact spec_IsValidChain.mono _ _
   | exact LeO.none _
   | refine LeO.ite ?_ ?_
   | refine LeO.bind ?_ (fun _ => ?_)
set_option maxHeartbeats 8000000 in
set_option maxRecDepth 100000 in
theorem spec_IsValidStore.calls (k : Nat) (A0_0 : Option Addr) (c0_0 : Nat) (l0_0 : List (List (S76))) (r : Bool) (w : World) (hr0_0 : Kd.C (Kd.slice 76 k76) w A0_0 l0_0.length l0_0) (hc0_0 : l0_0.length ≤ c0_0) (h : spec_IsValidStore.f k l0_0 = some r) :
  Calls Try.prog 140 #[.agg #[.slice A0_0 l0_0.length c0_0]] w fun e w' => e = .returned (.bool r) ∧ Below w.heap.size w w' := by
 have hu49 := Try.underlying49
 have HR0_0 := AM_ hr0_0
 have HC0_0 := AM_ hc0_0
 clear hr0_0 hc0_0
 have HB := AM_ (Below.refl w.heap.size w)
 have H : (spec_IsValidStore.l0 k 0 l0_0) = some r := h
 clear h
 have H' := AM_ H
 clear H
 go_enter Try.func140, Try.ntmps140
 go_wp2_with (first | ((with_reducible refine gate_dst (N := 1) rfl ?_); (try (refine gate_guard (by rfl) ?_; dsimp only)); refine box_event ?hg (N := 1) ?hd (cs := #[.slice A0_0 l0_0.length c0_0]) (t := 49) ?hr ?_; (case hd => rfl); (case hg => rfl); (case hr => first | (go_simp; done) | (go_simp; rfl)); intro gb225 hg w2 hbox hb; have BK225 := AM_ (hbox); have GW225 := AM_ ((GS HB.out hg)); have GE225 := AM_ ((GS HB.out hg)); replace HB := AM_ (below_step (BT HB.out) hb); clear hb hbox hg))
 go_loopg [3] k (fun kq v3 w' => ∃ (x3_1 : Int), v3 = .int .i64 x3_1 ∧ Aside0 (spec_IsValidStore.l0 kq x3_1 l0_0 = some r) ∧ Aside0 (kq ≤ k) ∧ Aside0 (w'.heap[gb225]? = some (.cells #[(.slice A0_0 l0_0.length c0_0)] 49 (0, 0))) ∧ Aside0 (Below w.heap.size w w'))
 case atStart => exact ⟨(0), (by first | rfl | (simp; done) | (simp [*]; done)), H', ⟨Nat.le_refl _⟩, ⟨BH BK225.out⟩, ⟨BT HB.out⟩⟩
 case round =>
  clear H'
  try clear c1
  try clear p2
  obtain ⟨x3_1, rfl, HA, HK1, BK225, HB⟩ := hrel
  cases gk with
  | zero => exact absurd HA.out (by simp [spec_IsValidStore.l0])
  | succ k1 =>
   have H := HA.out
   clear HA
   simp only [spec_IsValidStore.l0] at H
   by_cases c3 : x3_1 < (l0_0.length : Int)
   rotate_left
   ·rw [if_neg c3] at H
    have c3b0 : decide (x3_1 < (l0_0.length : Int)) = false := decide_eq_false c3
    clear c3
    obtain rfl := Option.some.inj H
    obtain ⟨hcz25_0, hfz25_0⟩ := bk1 BK225.out
    go_wp2
    go_ret
    exact QT (BT HB.out)
   rw [if_pos c3] at H
   have c3b0 : decide (x3_1 < (l0_0.length : Int)) = true := decide_eq_true c3
   clear c3
   by_cases c4 : 0 ≤ x3_1
   rotate_left
   ·rw [if_neg c4] at H
    exact absurd H (by simp)
   rw [if_pos c4] at H
   have c4b0 : decide (0 ≤ x3_1) = true := decide_eq_true c4
   clear c4
   replace H := Option.bind_eq_some_iff.mp H
   obtain ⟨t227, A50, H⟩ := H
   replace H : (if t227 = true then (if 0 < ((rd_L6 l0_0 x3_1).length : Int) then (if ((rd_T76 (rd_L6 l0_0 x3_1) 0).f2) > 0 then (if ((rd_L6 l0_0 x3_1).length : Int) > 50 then (some false) else (spec_IsValidStore.l0 k1 (wrap64 (x3_1 + 1)) l0_0)) else (if ((rd_L6 l0_0 x3_1).length : Int) > 50 then (some false) else (spec_IsValidStore.l0 k1 (wrap64 (x3_1 + 1)) l0_0))) else (none)) else (some false)) = some r := H
   have A5 := AM_ A50
   clear A50
   by_cases c6 : t227 = true
   rotate_left
   ·replace c6 := Bool.eq_false_iff.mpr c6
    subst c6
    have H1 : (some false) = some r := by rw [if_neg (show ¬ (false = true) by decide)] at H; exact H
    clear H
    have H := H1
    clear H1
    obtain rfl := Option.some.inj H
    obtain ⟨hcz23_0, hfz23_0⟩ := bk1 BK225.out
    have p226 : 0 ≤ (x3_1 : Int) := DT
    have q226 : x3_1 < (l0_0.length : Int) := DT
    obtain ⟨ad226, A226_0, c226_0, e226, hx226_0, hl226_0, hi226_0⟩ := at_L6 HR0_0.out x3_1 p226 q226
    cases e226
    replace hx226_0 := BC HB.out hx226_0
    have HR226_0 := AM_ hi226_0
    have HC226_0 := AM_ hl226_0
    clear hi226_0 hl226_0
    replace p226 := eq_true p226
    replace q226 := eq_true q226
    go_wp2_with (first | ((with_reducible refine gate_callee (f := 136) rfl ?_); refine goesL_ (some 16) rfl rfl Try.func136 (by kernel_rfl) rfl #[.slice A226_0 (rd_L6 l0_0 x3_1).length c226_0] rfl (by (try simp only [List.map_toArray, List.map_cons, List.map_nil]); first | done | rfl | (simp only [List.length_drop, List.length_take]; rfl)) ?_; (with_reducible refine (spec_IsValidChain.calls k1 _ _ (rd_L6 l0_0 x3_1) false _ ?side1 ?side2 A5.out).mono ?_); (case side1 => exact CB HR226_0.out HB.out); (case side2 => exact HC226_0.out); rintro e w24 ⟨rfl, hb⟩; refine ⟨_, rfl, ?_⟩; replace BK225 := AM_ (BB BK225.out hb); replace HB := AM_ (below_step (BT HB.out) hb); (try clear hb); (try clear hb2); (try clear hk); (try clear hi)))
    go_ret
    exact QT (BT HB.out)
   subst c6
   have H1 : (if 0 < ((rd_L6 l0_0 x3_1).length : Int) then (if ((rd_T76 (rd_L6 l0_0 x3_1) 0).f2) > 0 then (if ((rd_L6 l0_0 x3_1).length : Int) > 50 then (some false) else (spec_IsValidStore.l0 k1 (wrap64 (x3_1 + 1)) l0_0)) else (if ((rd_L6 l0_0 x3_1).length : Int) > 50 then (some false) else (spec_IsValidStore.l0 k1 (wrap64 (x3_1 + 1)) l0_0))) else (none)) = some r := by rw [if_pos rfl] at H; exact H
   clear H
   have H := H1
   clear H1
   by_cases c7 : 0 < ((rd_L6 l0_0 x3_1).length : Int)
   rotate_left
   ·rw [if_neg c7] at H
    exact absurd H (by simp)
   rw [if_pos c7] at H
   have c7b0 : decide (0 < ((rd_L6 l0_0 x3_1).length : Int)) = true := decide_eq_true c7
   have c7b1 : decide (0 < (rd_L6 l0_0 x3_1).length) = true := decide_eq_true (by omega)
   clear c7
   by_cases c8 : ((rd_T76 (rd_L6 l0_0 x3_1) 0).f2) > 0
   rotate_left
   ·rw [if_neg c8] at H
    have c8b0 : decide (0 < ((rd_T76 (rd_L6 l0_0 x3_1) 0).f2)) = false := decide_eq_false c8
    clear c8
    by_cases c16 : ((rd_L6 l0_0 x3_1).length : Int) > 50
    ·rw [if_pos c16] at H
     have c16b0 : decide (50 < ((rd_L6 l0_0 x3_1).length : Int)) = true := decide_eq_true c16
     have c16b1 : decide (50 < (rd_L6 l0_0 x3_1).length) = true := decide_eq_true (by omega)
     clear c16
     obtain rfl := Option.some.inj H
     obtain ⟨hcz17_0, hfz17_0⟩ := bk1 BK225.out
     have p226 : 0 ≤ (x3_1 : Int) := DT
     have q226 : x3_1 < (l0_0.length : Int) := DT
     obtain ⟨ad226, A226_0, c226_0, e226, hx226_0, hl226_0, hi226_0⟩ := at_L6 HR0_0.out x3_1 p226 q226
     cases e226
     replace hx226_0 := BC HB.out hx226_0
     have HR226_0 := AM_ hi226_0
     have HC226_0 := AM_ hl226_0
     clear hi226_0 hl226_0
     replace p226 := eq_true p226
     replace q226 := eq_true q226
     go_wp2_with (first | ((with_reducible refine gate_callee (f := 136) rfl ?_); refine goesL_ (some 16) rfl rfl Try.func136 (by kernel_rfl) rfl #[.slice A226_0 (rd_L6 l0_0 x3_1).length c226_0] rfl (by (try simp only [List.map_toArray, List.map_cons, List.map_nil]); first | done | rfl | (simp only [List.length_drop, List.length_take]; rfl)) ?_; (with_reducible refine (spec_IsValidChain.calls k1 _ _ (rd_L6 l0_0 x3_1) true _ ?side1 ?side2 A5.out).mono ?_); (case side1 => exact CB HR226_0.out HB.out); (case side2 => exact HC226_0.out); rintro e w18 ⟨rfl, hb⟩; refine ⟨_, rfl, ?_⟩; replace BK225 := AM_ (BB BK225.out hb); replace HB := AM_ (below_step (BT HB.out) hb); (try clear hb); (try clear hb2); (try clear hk); (try clear hi); obtain ⟨hcz19_0, hfz19_0⟩ := bk1 BK225.out; have p228 : 0 ≤ (x3_1 : Int) := DT; have q228 : x3_1 < (l0_0.length : Int) := DT; obtain ⟨ad228, A228_0, c228_0, e228, hx228_0, hl228_0, hi228_0⟩ := at_L6 HR0_0.out x3_1 p228 q228; obtain rfl : ad226 = ad228 := (by injection e228); replace hx228_0 := BD HB.out hx228_0; have HR228_0 := AM_ hi228_0; have HC228_0 := AM_ hl228_0; clear hi228_0 hl228_0; replace p228 := eq_true p228; replace q228 := eq_true q228; have p229 : 0 ≤ (0 : Int) := (by omega); have q229 : 0 < ((rd_L6 l0_0 x3_1).length : Int) := DT; obtain ⟨ad229, e229, hx229_0, hx229_1, hx229_2, hx229_3, hx229_4⟩ := at_T76 HR228_0.out 0 p229 q229; cases e229; have qi229 : (0 < (rd_L6 l0_0 x3_1).length) = True := eq_true (by omega); (try rw [show ((0 : Int)).toNat = 0 from rfl] at hx229_0); (try rw [show 0 * 5 = 0 from rfl] at hx229_0); (try rw [Addr.add_zero'] at hx229_0); (try rw [show ((0 : Int)).toNat = 0 from rfl] at hx229_1); (try rw [show 0 * 5 = 0 from rfl] at hx229_1); (try rw [Addr.add_zero'] at hx229_1); (try rw [show ((0 : Int)).toNat = 0 from rfl] at hx229_2); (try rw [show 0 * 5 = 0 from rfl] at hx229_2); (try rw [Addr.add_zero'] at hx229_2); (try rw [show ((0 : Int)).toNat = 0 from rfl] at hx229_3); (try rw [show 0 * 5 = 0 from rfl] at hx229_3); (try rw [Addr.add_zero'] at hx229_3); (try rw [show ((0 : Int)).toNat = 0 from rfl] at hx229_4); (try rw [show 0 * 5 = 0 from rfl] at hx229_4); (try rw [Addr.add_zero'] at hx229_4); replace hx229_0 := BD HB.out hx229_0; replace hx229_1 := BD HB.out hx229_1; replace hx229_2 := BD HB.out hx229_2; replace hx229_3 := BD HB.out hx229_3; replace hx229_4 := BD HB.out hx229_4; replace p229 := eq_true p229; replace q229 := eq_true q229; have p232 : 0 ≤ (x3_1 : Int) := DT; have q232 : x3_1 < (l0_0.length : Int) := DT; obtain ⟨ad232, A232_0, c232_0, e232, hx232_0, hl232_0, hi232_0⟩ := at_L6 HR0_0.out x3_1 p232 q232; obtain rfl : ad226 = ad232 := (by injection e232); replace hx232_0 := BD HB.out hx232_0; have HR232_0 := AM_ hi232_0; have HC232_0 := AM_ hl232_0; clear hi232_0 hl232_0; replace p232 := eq_true p232; replace q232 := eq_true q232; have ea_ := Option.some.inj (hx228_0.symm.trans hx232_0); injection ea_ with ea_ en_ ec_; subst ea_; subst ec_; clear en_))
     go_ret
     exact QT (BT HB.out)
    rw [if_neg c16] at H
    have c16b0 : decide (50 < ((rd_L6 l0_0 x3_1).length : Int)) = false := decide_eq_false c16
    have c16b1 : decide (50 < (rd_L6 l0_0 x3_1).length) = false := decide_eq_false (by omega)
    clear c16
    have H' := AM_ H
    clear H
    obtain ⟨hcz20_0, hfz20_0⟩ := bk1 BK225.out
    have p226 : 0 ≤ (x3_1 : Int) := DT
    have q226 : x3_1 < (l0_0.length : Int) := DT
    obtain ⟨ad226, A226_0, c226_0, e226, hx226_0, hl226_0, hi226_0⟩ := at_L6 HR0_0.out x3_1 p226 q226
    cases e226
    replace hx226_0 := BC HB.out hx226_0
    have HR226_0 := AM_ hi226_0
    have HC226_0 := AM_ hl226_0
    clear hi226_0 hl226_0
    replace p226 := eq_true p226
    replace q226 := eq_true q226
    go_wp2_with (first | ((with_reducible refine gate_callee (f := 136) rfl ?_); refine goesL_ (some 16) rfl rfl Try.func136 (by kernel_rfl) rfl #[.slice A226_0 (rd_L6 l0_0 x3_1).length c226_0] rfl (by (try simp only [List.map_toArray, List.map_cons, List.map_nil]); first | done | rfl | (simp only [List.length_drop, List.length_take]; rfl)) ?_; (with_reducible refine (spec_IsValidChain.calls k1 _ _ (rd_L6 l0_0 x3_1) true _ ?side1 ?side2 A5.out).mono ?_); (case side1 => exact CB HR226_0.out HB.out); (case side2 => exact HC226_0.out); rintro e w21 ⟨rfl, hb⟩; refine ⟨_, rfl, ?_⟩; replace BK225 := AM_ (BB BK225.out hb); replace HB := AM_ (below_step (BT HB.out) hb); (try clear hb); (try clear hb2); (try clear hk); (try clear hi); obtain ⟨hcz22_0, hfz22_0⟩ := bk1 BK225.out; have p228 : 0 ≤ (x3_1 : Int) := DT; have q228 : x3_1 < (l0_0.length : Int) := DT; obtain ⟨ad228, A228_0, c228_0, e228, hx228_0, hl228_0, hi228_0⟩ := at_L6 HR0_0.out x3_1 p228 q228; obtain rfl : ad226 = ad228 := (by injection e228); replace hx228_0 := BD HB.out hx228_0; have HR228_0 := AM_ hi228_0; have HC228_0 := AM_ hl228_0; clear hi228_0 hl228_0; replace p228 := eq_true p228; replace q228 := eq_true q228; have p229 : 0 ≤ (0 : Int) := (by omega); have q229 : 0 < ((rd_L6 l0_0 x3_1).length : Int) := DT; obtain ⟨ad229, e229, hx229_0, hx229_1, hx229_2, hx229_3, hx229_4⟩ := at_T76 HR228_0.out 0 p229 q229; cases e229; have qi229 : (0 < (rd_L6 l0_0 x3_1).length) = True := eq_true (by omega); (try rw [show ((0 : Int)).toNat = 0 from rfl] at hx229_0); (try rw [show 0 * 5 = 0 from rfl] at hx229_0); (try rw [Addr.add_zero'] at hx229_0); (try rw [show ((0 : Int)).toNat = 0 from rfl] at hx229_1); (try rw [show 0 * 5 = 0 from rfl] at hx229_1); (try rw [Addr.add_zero'] at hx229_1); (try rw [show ((0 : Int)).toNat = 0 from rfl] at hx229_2); (try rw [show 0 * 5 = 0 from rfl] at hx229_2); (try rw [Addr.add_zero'] at hx229_2); (try rw [show ((0 : Int)).toNat = 0 from rfl] at hx229_3); (try rw [show 0 * 5 = 0 from rfl] at hx229_3); (try rw [Addr.add_zero'] at hx229_3); (try rw [show ((0 : Int)).toNat = 0 from rfl] at hx229_4); (try rw [show 0 * 5 = 0 from rfl] at hx229_4); (try rw [Addr.add_zero'] at hx229_4); replace hx229_0 := BD HB.out hx229_0; replace hx229_1 := BD HB.out hx229_1; replace hx229_2 := BD HB.out hx229_2; replace hx229_3 := BD HB.out hx229_3; replace hx229_4 := BD HB.out hx229_4; replace p229 := eq_true p229; replace q229 := eq_true q229; have p232 : 0 ≤ (x3_1 : Int) := DT; have q232 : x3_1 < (l0_0.length : Int) := DT; obtain ⟨ad232, A232_0, c232_0, e232, hx232_0, hl232_0, hi232_0⟩ := at_L6 HR0_0.out x3_1 p232 q232; obtain rfl : ad226 = ad232 := (by injection e232); replace hx232_0 := BD HB.out hx232_0; have HR232_0 := AM_ hi232_0; have HC232_0 := AM_ hl232_0; clear hi232_0 hl232_0; replace p232 := eq_true p232; replace q232 := eq_true q232; have ea_ := Option.some.inj (hx228_0.symm.trans hx232_0); injection ea_ with ea_ en_ ec_; subst ea_; subst ec_; clear en_))
    go_roundg k1
    case measure => have := HK1.out; omega
    case rel => exact ⟨(wrap64 (x3_1 + 1)), (by first | rfl | (simp; done) | (simp [*]; done)), H', ⟨by have := HK1.out; omega⟩, ⟨BH BK225.out⟩, ⟨BT HB.out⟩⟩
   rw [if_pos c8] at H
   have c8b0 : decide (0 < ((rd_T76 (rd_L6 l0_0 x3_1) 0).f2)) = true := decide_eq_true c8
   clear c8
   by_cases c9 : ((rd_L6 l0_0 x3_1).length : Int) > 50
   ·rw [if_pos c9] at H
    have c9b0 : decide (50 < ((rd_L6 l0_0 x3_1).length : Int)) = true := decide_eq_true c9
    have c9b1 : decide (50 < (rd_L6 l0_0 x3_1).length) = true := decide_eq_true (by omega)
    clear c9
    obtain rfl := Option.some.inj H
    obtain ⟨hcz10_0, hfz10_0⟩ := bk1 BK225.out
    have p226 : 0 ≤ (x3_1 : Int) := DT
    have q226 : x3_1 < (l0_0.length : Int) := DT
    obtain ⟨ad226, A226_0, c226_0, e226, hx226_0, hl226_0, hi226_0⟩ := at_L6 HR0_0.out x3_1 p226 q226
    cases e226
    replace hx226_0 := BC HB.out hx226_0
    have HR226_0 := AM_ hi226_0
    have HC226_0 := AM_ hl226_0
    clear hi226_0 hl226_0
    replace p226 := eq_true p226
    replace q226 := eq_true q226
    go_wp2_with (first | ((with_reducible refine gate_callee (f := 136) rfl ?_); refine goesL_ (some 16) rfl rfl Try.func136 (by kernel_rfl) rfl #[.slice A226_0 (rd_L6 l0_0 x3_1).length c226_0] rfl (by (try simp only [List.map_toArray, List.map_cons, List.map_nil]); first | done | rfl | (simp only [List.length_drop, List.length_take]; rfl)) ?_; (with_reducible refine (spec_IsValidChain.calls k1 _ _ (rd_L6 l0_0 x3_1) true _ ?side1 ?side2 A5.out).mono ?_); (case side1 => exact CB HR226_0.out HB.out); (case side2 => exact HC226_0.out); rintro e w11 ⟨rfl, hb⟩; refine ⟨_, rfl, ?_⟩; replace BK225 := AM_ (BB BK225.out hb); replace HB := AM_ (below_step (BT HB.out) hb); (try clear hb); (try clear hb2); (try clear hk); (try clear hi); obtain ⟨hcz12_0, hfz12_0⟩ := bk1 BK225.out; have p228 : 0 ≤ (x3_1 : Int) := DT; have q228 : x3_1 < (l0_0.length : Int) := DT; obtain ⟨ad228, A228_0, c228_0, e228, hx228_0, hl228_0, hi228_0⟩ := at_L6 HR0_0.out x3_1 p228 q228; obtain rfl : ad226 = ad228 := (by injection e228); replace hx228_0 := BD HB.out hx228_0; have HR228_0 := AM_ hi228_0; have HC228_0 := AM_ hl228_0; clear hi228_0 hl228_0; replace p228 := eq_true p228; replace q228 := eq_true q228; have p229 : 0 ≤ (0 : Int) := (by omega); have q229 : 0 < ((rd_L6 l0_0 x3_1).length : Int) := DT; obtain ⟨ad229, e229, hx229_0, hx229_1, hx229_2, hx229_3, hx229_4⟩ := at_T76 HR228_0.out 0 p229 q229; cases e229; have qi229 : (0 < (rd_L6 l0_0 x3_1).length) = True := eq_true (by omega); (try rw [show ((0 : Int)).toNat = 0 from rfl] at hx229_0); (try rw [show 0 * 5 = 0 from rfl] at hx229_0); (try rw [Addr.add_zero'] at hx229_0); (try rw [show ((0 : Int)).toNat = 0 from rfl] at hx229_1); (try rw [show 0 * 5 = 0 from rfl] at hx229_1); (try rw [Addr.add_zero'] at hx229_1); (try rw [show ((0 : Int)).toNat = 0 from rfl] at hx229_2); (try rw [show 0 * 5 = 0 from rfl] at hx229_2); (try rw [Addr.add_zero'] at hx229_2); (try rw [show ((0 : Int)).toNat = 0 from rfl] at hx229_3); (try rw [show 0 * 5 = 0 from rfl] at hx229_3); (try rw [Addr.add_zero'] at hx229_3); (try rw [show ((0 : Int)).toNat = 0 from rfl] at hx229_4); (try rw [show 0 * 5 = 0 from rfl] at hx229_4); (try rw [Addr.add_zero'] at hx229_4); replace hx229_0 := BD HB.out hx229_0; replace hx229_1 := BD HB.out hx229_1; replace hx229_2 := BD HB.out hx229_2; replace hx229_3 := BD HB.out hx229_3; replace hx229_4 := BD HB.out hx229_4; replace p229 := eq_true p229; replace q229 := eq_true q229; have p230 : 0 ≤ (x3_1 : Int) := DT; have q230 : x3_1 < (l0_0.length : Int) := DT; obtain ⟨ad230, A230_0, c230_0, e230, hx230_0, hl230_0, hi230_0⟩ := at_L6 HR0_0.out x3_1 p230 q230; obtain rfl : ad226 = ad230 := (by injection e230); replace hx230_0 := BD HB.out hx230_0; have HR230_0 := AM_ hi230_0; have HC230_0 := AM_ hl230_0; clear hi230_0 hl230_0; replace p230 := eq_true p230; replace q230 := eq_true q230; have ea_ := Option.some.inj (hx228_0.symm.trans hx230_0); injection ea_ with ea_ en_ ec_; subst ea_; subst ec_; clear en_))
    go_ret
    exact QT (BT HB.out)
   rw [if_neg c9] at H
   have c9b0 : decide (50 < ((rd_L6 l0_0 x3_1).length : Int)) = false := decide_eq_false c9
   have c9b1 : decide (50 < (rd_L6 l0_0 x3_1).length) = false := decide_eq_false (by omega)
   clear c9
   have H' := AM_ H
   clear H
   obtain ⟨hcz13_0, hfz13_0⟩ := bk1 BK225.out
   have p226 : 0 ≤ (x3_1 : Int) := DT
   have q226 : x3_1 < (l0_0.length : Int) := DT
   obtain ⟨ad226, A226_0, c226_0, e226, hx226_0, hl226_0, hi226_0⟩ := at_L6 HR0_0.out x3_1 p226 q226
   cases e226
   replace hx226_0 := BC HB.out hx226_0
   have HR226_0 := AM_ hi226_0
   have HC226_0 := AM_ hl226_0
   clear hi226_0 hl226_0
   replace p226 := eq_true p226
   replace q226 := eq_true q226
   go_wp2_with (first | ((with_reducible refine gate_callee (f := 136) rfl ?_); refine goesL_ (some 16) rfl rfl Try.func136 (by kernel_rfl) rfl #[.slice A226_0 (rd_L6 l0_0 x3_1).length c226_0] rfl (by (try simp only [List.map_toArray, List.map_cons, List.map_nil]); first | done | rfl | (simp only [List.length_drop, List.length_take]; rfl)) ?_; (with_reducible refine (spec_IsValidChain.calls k1 _ _ (rd_L6 l0_0 x3_1) true _ ?side1 ?side2 A5.out).mono ?_); (case side1 => exact CB HR226_0.out HB.out); (case side2 => exact HC226_0.out); rintro e w14 ⟨rfl, hb⟩; refine ⟨_, rfl, ?_⟩; replace BK225 := AM_ (BB BK225.out hb); replace HB := AM_ (below_step (BT HB.out) hb); (try clear hb); (try clear hb2); (try clear hk); (try clear hi); obtain ⟨hcz15_0, hfz15_0⟩ := bk1 BK225.out; have p228 : 0 ≤ (x3_1 : Int) := DT; have q228 : x3_1 < (l0_0.length : Int) := DT; obtain ⟨ad228, A228_0, c228_0, e228, hx228_0, hl228_0, hi228_0⟩ := at_L6 HR0_0.out x3_1 p228 q228; obtain rfl : ad226 = ad228 := (by injection e228); replace hx228_0 := BD HB.out hx228_0; have HR228_0 := AM_ hi228_0; have HC228_0 := AM_ hl228_0; clear hi228_0 hl228_0; replace p228 := eq_true p228; replace q228 := eq_true q228; have p229 : 0 ≤ (0 : Int) := (by omega); have q229 : 0 < ((rd_L6 l0_0 x3_1).length : Int) := DT; obtain ⟨ad229, e229, hx229_0, hx229_1, hx229_2, hx229_3, hx229_4⟩ := at_T76 HR228_0.out 0 p229 q229; cases e229; have qi229 : (0 < (rd_L6 l0_0 x3_1).length) = True := eq_true (by omega); (try rw [show ((0 : Int)).toNat = 0 from rfl] at hx229_0); (try rw [show 0 * 5 = 0 from rfl] at hx229_0); (try rw [Addr.add_zero'] at hx229_0); (try rw [show ((0 : Int)).toNat = 0 from rfl] at hx229_1); (try rw [show 0 * 5 = 0 from rfl] at hx229_1); (try rw [Addr.add_zero'] at hx229_1); (try rw [show ((0 : Int)).toNat = 0 from rfl] at hx229_2); (try rw [show 0 * 5 = 0 from rfl] at hx229_2); (try rw [Addr.add_zero'] at hx229_2); (try rw [show ((0 : Int)).toNat = 0 from rfl] at hx229_3); (try rw [show 0 * 5 = 0 from rfl] at hx229_3); (try rw [Addr.add_zero'] at hx229_3); (try rw [show ((0 : Int)).toNat = 0 from rfl] at hx229_4); (try rw [show 0 * 5 = 0 from rfl] at hx229_4); (try rw [Addr.add_zero'] at hx229_4); replace hx229_0 := BD HB.out hx229_0; replace hx229_1 := BD HB.out hx229_1; replace hx229_2 := BD HB.out hx229_2; replace hx229_3 := BD HB.out hx229_3; replace hx229_4 := BD HB.out hx229_4; replace p229 := eq_true p229; replace q229 := eq_true q229; have p230 : 0 ≤ (x3_1 : Int) := DT; have q230 : x3_1 < (l0_0.length : Int) := DT; obtain ⟨ad230, A230_0, c230_0, e230, hx230_0, hl230_0, hi230_0⟩ := at_L6 HR0_0.out x3_1 p230 q230; obtain rfl : ad226 = ad230 := (by injection e230); replace hx230_0 := BD HB.out hx230_0; have HR230_0 := AM_ hi230_0; have HC230_0 := AM_ hl230_0; clear hi230_0 hl230_0; replace p230 := eq_true p230; replace q230 := eq_true q230; have ea_ := Option.some.inj (hx228_0.symm.trans hx230_0); injection ea_ with ea_ en_ ec_; subst ea_; subst ec_; clear en_; have p231 : 0 ≤ (x3_1 : Int) := DT; have q231 : x3_1 < (l0_0.length : Int) := DT; obtain ⟨ad231, A231_0, c231_0, e231, hx231_0, hl231_0, hi231_0⟩ := at_L6 HR0_0.out x3_1 p231 q231; obtain rfl : ad226 = ad231 := (by injection e231); replace hx231_0 := BD HB.out hx231_0; have HR231_0 := AM_ hi231_0; have HC231_0 := AM_ hl231_0; clear hi231_0 hl231_0; replace p231 := eq_true p231; replace q231 := eq_true q231; have ea_ := Option.some.inj (hx228_0.symm.trans hx231_0); injection ea_ with ea_ en_ ec_; subst ea_; subst ec_; clear en_))
   go_roundg k1
   case measure => have := HK1.out; omega
   case rel => exact ⟨(wrap64 (x3_1 + 1)), (by first | rfl | (simp; done) | (simp [*]; done)), H', ⟨by have := HK1.out; omega⟩, ⟨BH BK225.out⟩, ⟨BT HB.out⟩⟩

end Go.Proofs.Ytakpkmlbklahhaa.PFnExactInstalledVersions
