-- Printed by a program of mine (wip/myprint.py), which runs the printer of the kit with contracts of mine beside it.
import Derived.Test.YtakpkmlbklahhaaPFnExactWriteCodex0
import Derived.Test.YtakpkmlbklahhaaPFnExactWriteCodex7
import Derived.Test.YtakpkmlbklahhaaPFnExactWriteCodex10
import Derived.Test.YtakpkmlbklahhaaPFnExactWriteCodex11
import Derived.Test.YtakpkmlbklahhaaPFnExactWriteCodex12
namespace Go.Proofs.Ytakpkmlbklahhaa.PFnExactWriteCode
open Go.RowKit Go.Proofs.YtakpkmlbklahhaaW.PrintWords Go.Proofs.YtakpkmlbklahhaaW.PrintLast Go.Proofs.YtakpkmlbklahhaaW.PrintMore
attribute [local go_sem] max2_int min2_int max_two min_two max_three min_three max_four min_four   -- for this text's walks alone
set_option linter.unusedVariables false
set_option linter.unusedSimpArgs false

/-! ### impl_WriteCode: function 52 -/
def impl_WriteCode.f (k : Nat) (l0_0 : List (List (S76))) (l1 : List (S150)) (a2_0 : Int) (a2_1 : Int) (a2_2 : Int) (a2_3 : Int) (a2_4 : Int) (a2_5 : Int) (a2_6 : Int) (l2_7 : List (S165)) (l2_8 : List (S133)) (a3 : Int) : Option (Int) := (impl_IsValidStore.f k l0_0).bind fun t259 => (if t259 = true then ((impl_Transaction_isActive.f k a2_0 a2_1 a2_2 a2_3 a2_4 a2_5 a2_6 l2_7 l2_8).bind fun t260 => (if t260 = true then ((impl_isKey.f a3).bind fun t261 => (if t261 = true then ((impl_AreLocks.f k l1).bind fun t262 => (if t262 = true then ((impl_Store_writeCode.f k l0_0 l1 a2_0 a2_1 a2_2 a2_3 a2_4 a2_5 a2_6 l2_7 l2_8 a3).bind fun t263 => (some t263)) else (some 6))) else (some 6))) else (some 6))) else (some 6))
theorem impl_WriteCode.mono : ∀ a0 a1 a2 a3 a4 a5 a6 a7 a8 a9 a10 a11 k, LeO (impl_WriteCode.f k a0 a1 a2 a3 a4 a5 a6 a7 a8 a9 a10 a11) (impl_WriteCode.f (k + 1) a0 a1 a2 a3 a4 a5 a6 a7 a8 a9 a10 a11) := by
 intro a0 a1 a2 a3 a4 a5 a6 a7 a8 a9 a10 a11 k
 unfold impl_WriteCode.f
 repeat' first
   | (with_reducible exact impl_AreLocks.mono _ _)
   | (with_reducible exact impl_IsValidStore.mono _ _)
   | (with_reducible exact impl_Store_writeCode.mono _ _ _ _ _ _ _ _ _ _ _ _ _)
   | (with_reducible exact impl_Transaction_isActive.mono _ _ _ _ _ _ _ _ _ _)
   | (with_reducible exact LeO.refl _)
   | (with_reducible exact LeO.none _)
   | (with_reducible refine LeO.ite ?_ ?_)
   | (with_reducible refine LeO.bind ?_ (fun _ => ?_))
   | exact impl_AreLocks.mono _ _
   | exact impl_IsValidStore.mono _ _
   | exact impl_Store_writeCode.mono _ _ _ _ _ _ _ _ _ _ _ _ _
   | exact impl_Transaction_isActive.mono _ _ _ _ _ _ _ _ _ _
   | exact LeO.none _
   | refine LeO.ite ?_ ?_
   | refine LeO.bind ?_ (fun _ => ?_)
set_option maxHeartbeats 8000000 in
set_option maxRecDepth 100000 in
theorem impl_WriteCode.calls (k : Nat) (A0_0 : Option Addr) (c0_0 : Nat) (l0_0 : List (List (S76))) (A1 : Option Addr) (c1 : Nat) (l1 : List (S150)) (a2_0 : Int) (a2_1 : Int) (a2_2 : Int) (a2_3 : Int) (a2_4 : Int) (a2_5 : Int) (a2_6 : Int) (A2_7 : Option Addr) (c2_7 : Nat) (l2_7 : List (S165)) (A2_8 : Option Addr) (c2_8 : Nat) (l2_8 : List (S133)) (a3 : Int) (r : Int) (w : World) (hr0_0 : Kd.C (Kd.slice 76 k76) w A0_0 l0_0.length l0_0) (hc0_0 : l0_0.length ≤ c0_0) (hr1 : Kd.C k150 w A1 l1.length l1) (hc1 : l1.length ≤ c1) (hr2_7 : Kd.C k165 w A2_7 l2_7.length l2_7) (hc2_7 : l2_7.length ≤ c2_7) (hr2_8 : Kd.C k133 w A2_8 l2_8.length l2_8) (hc2_8 : l2_8.length ≤ c2_8) (h : impl_WriteCode.f k l0_0 l1 a2_0 a2_1 a2_2 a2_3 a2_4 a2_5 a2_6 l2_7 l2_8 a3 = some r) :
  Calls Try.prog 52 #[.agg #[.slice A0_0 l0_0.length c0_0], .slice A1 l1.length c1, .agg #[.int .i64 a2_0, .int .i64 a2_1, .int .i64 a2_2, .int .i64 a2_3, .int .i64 a2_4, .int .i64 a2_5, .int .i64 a2_6, .slice A2_7 l2_7.length c2_7, .slice A2_8 l2_8.length c2_8], .int .i64 a3] w fun e w' => e = .returned (.int .i64 r) ∧ Below w.heap.size w w' := by
 have hu49 := Try.underlying49
 have hu68 := Try.underlying68
 have HR0_0 := AM_ hr0_0
 have HC0_0 := AM_ hc0_0
 clear hr0_0 hc0_0
 have HR1 := AM_ hr1
 have HC1 := AM_ hc1
 clear hr1 hc1
 have HR2_7 := AM_ hr2_7
 have HC2_7 := AM_ hc2_7
 clear hr2_7 hc2_7
 have HR2_8 := AM_ hr2_8
 have HC2_8 := AM_ hc2_8
 clear hr2_8 hc2_8
 have HB := AM_ (Below.refl w.heap.size w)
 have H : ((impl_IsValidStore.f k l0_0).bind fun t259 => (if t259 = true then ((impl_Transaction_isActive.f k a2_0 a2_1 a2_2 a2_3 a2_4 a2_5 a2_6 l2_7 l2_8).bind fun t260 => (if t260 = true then ((impl_isKey.f a3).bind fun t261 => (if t261 = true then ((impl_AreLocks.f k l1).bind fun t262 => (if t262 = true then ((impl_Store_writeCode.f k l0_0 l1 a2_0 a2_1 a2_2 a2_3 a2_4 a2_5 a2_6 l2_7 l2_8 a3).bind fun t263 => (some t263)) else (some 6))) else (some 6))) else (some 6))) else (some 6))) = some r := h
 clear h
 replace H := Option.bind_eq_some_iff.mp H
 obtain ⟨t259, A50, H⟩ := H
 replace H : (if t259 = true then ((impl_Transaction_isActive.f k a2_0 a2_1 a2_2 a2_3 a2_4 a2_5 a2_6 l2_7 l2_8).bind fun t260 => (if t260 = true then ((impl_isKey.f a3).bind fun t261 => (if t261 = true then ((impl_AreLocks.f k l1).bind fun t262 => (if t262 = true then ((impl_Store_writeCode.f k l0_0 l1 a2_0 a2_1 a2_2 a2_3 a2_4 a2_5 a2_6 l2_7 l2_8 a3).bind fun t263 => (some t263)) else (some 6))) else (some 6))) else (some 6))) else (some 6)) = some r := H
 have A5 := AM_ A50
 clear A50
 by_cases c6 : t259 = true
 rotate_left
 ·replace c6 := Bool.eq_false_iff.mpr c6
  subst c6
  have H1 : (some 6) = some r := by rw [if_neg (show ¬ (false = true) by decide)] at H; exact H
  clear H
  have H := H1
  clear H1
  obtain rfl := Option.some.inj H
  go_enter Try.func52, Try.ntmps52
  go_wp2_with (first | ((with_reducible refine gate_dst (N := 4) rfl ?_); refine box_event ?hg (N := 4) ?hd (cs := #[.slice A0_0 l0_0.length c0_0]) (t := 49) ?hr ?_; (case hd => rfl); (case hg => rfl); (case hr => first | (go_simp; done) | (go_simp; rfl)); intro gb257 hg w47 hbox hb; have BK257 := AM_ (hbox); have GW257 := AM_ ((GS HB.out hg)); have GE257 := AM_ ((GS HB.out hg)); replace HB := AM_ (below_step (BT HB.out) hb); clear hb hbox hg) | ((with_reducible refine gate_dst (N := 6) rfl ?_); refine box_event ?hg (N := 6) ?hd (cs := #[.int .i64 a2_0, .int .i64 a2_1, .int .i64 a2_2, .int .i64 a2_3, .int .i64 a2_4, .int .i64 a2_5, .int .i64 a2_6, .slice A2_7 l2_7.length c2_7, .slice A2_8 l2_8.length c2_8]) (t := 68) ?hr ?_; (case hd => rfl); (case hg => rfl); (case hr => first | (go_simp; done) | (go_simp; rfl)); intro gb258 hg w48 hbox hb; have BK258 := AM_ (hbox); have GW258 := AM_ ((GS HB.out hg)); have GE258 := AM_ ((GS HB.out hg)); replace HB := AM_ (below_step (BT HB.out) hb); have NB257_258 := AM_ ((NL BK257.out hg)); have NB258_257 := AM_ ((NG BK257.out hg)); replace BK257 := AM_ (BB BK257.out hb); clear hb hbox hg; have hnb49 := NB257_258.out; have hnc49 := NB258_257.out; obtain ⟨hcz50_0, hfz50_0⟩ := bk1 BK257.out) | ((with_reducible refine gate_callee (f := 104) rfl ?_); refine goesL_ (some 10) rfl rfl Try.func104 (by kernel_rfl) rfl #[.agg #[.slice A0_0 l0_0.length c0_0]] rfl (by (try simp only [List.map_toArray, List.map_cons, List.map_nil]); first | done | rfl | (simp only [List.length_drop, List.length_take]; rfl)) ?_; (with_reducible refine (impl_IsValidStore.calls k _ _ l0_0 false _ ?side1 ?side2 A5.out).mono ?_); (case side1 => exact CB HR0_0.out HB.out); (case side2 => exact HC0_0.out); rintro e w51 ⟨rfl, hb⟩; refine ⟨_, rfl, ?_⟩; replace BK257 := AM_ (BB BK257.out hb); replace BK258 := AM_ (BB BK258.out hb); replace HB := AM_ (below_step (BT HB.out) hb); (try clear hb); (try clear hb2); (try clear hk); (try clear hi)))
  go_ret
  exact QT (BT HB.out)
 subst c6
 have H1 : ((impl_Transaction_isActive.f k a2_0 a2_1 a2_2 a2_3 a2_4 a2_5 a2_6 l2_7 l2_8).bind fun t260 => (if t260 = true then ((impl_isKey.f a3).bind fun t261 => (if t261 = true then ((impl_AreLocks.f k l1).bind fun t262 => (if t262 = true then ((impl_Store_writeCode.f k l0_0 l1 a2_0 a2_1 a2_2 a2_3 a2_4 a2_5 a2_6 l2_7 l2_8 a3).bind fun t263 => (some t263)) else (some 6))) else (some 6))) else (some 6))) = some r := by rw [if_pos rfl] at H; exact H
 clear H
 have H := H1
 clear H1
 replace H := Option.bind_eq_some_iff.mp H
 obtain ⟨t260, A70, H⟩ := H
 replace H : (if t260 = true then ((impl_isKey.f a3).bind fun t261 => (if t261 = true then ((impl_AreLocks.f k l1).bind fun t262 => (if t262 = true then ((impl_Store_writeCode.f k l0_0 l1 a2_0 a2_1 a2_2 a2_3 a2_4 a2_5 a2_6 l2_7 l2_8 a3).bind fun t263 => (some t263)) else (some 6))) else (some 6))) else (some 6)) = some r := H
 have A7 := AM_ A70
 clear A70
 by_cases c8 : t260 = true
 rotate_left
 ·replace c8 := Bool.eq_false_iff.mpr c8
  subst c8
  have H1 : (some 6) = some r := by rw [if_neg (show ¬ (false = true) by decide)] at H; exact H
  clear H
  have H := H1
  clear H1
  obtain rfl := Option.some.inj H
  go_enter Try.func52, Try.ntmps52
  go_wp2_with (first | ((with_reducible refine gate_dst (N := 4) rfl ?_); refine box_event ?hg (N := 4) ?hd (cs := #[.slice A0_0 l0_0.length c0_0]) (t := 49) ?hr ?_; (case hd => rfl); (case hg => rfl); (case hr => first | (go_simp; done) | (go_simp; rfl)); intro gb257 hg w40 hbox hb; have BK257 := AM_ (hbox); have GW257 := AM_ ((GS HB.out hg)); have GE257 := AM_ ((GS HB.out hg)); replace HB := AM_ (below_step (BT HB.out) hb); clear hb hbox hg) | ((with_reducible refine gate_dst (N := 6) rfl ?_); refine box_event ?hg (N := 6) ?hd (cs := #[.int .i64 a2_0, .int .i64 a2_1, .int .i64 a2_2, .int .i64 a2_3, .int .i64 a2_4, .int .i64 a2_5, .int .i64 a2_6, .slice A2_7 l2_7.length c2_7, .slice A2_8 l2_8.length c2_8]) (t := 68) ?hr ?_; (case hd => rfl); (case hg => rfl); (case hr => first | (go_simp; done) | (go_simp; rfl)); intro gb258 hg w41 hbox hb; have BK258 := AM_ (hbox); have GW258 := AM_ ((GS HB.out hg)); have GE258 := AM_ ((GS HB.out hg)); replace HB := AM_ (below_step (BT HB.out) hb); have NB257_258 := AM_ ((NL BK257.out hg)); have NB258_257 := AM_ ((NG BK257.out hg)); replace BK257 := AM_ (BB BK257.out hb); clear hb hbox hg; have hnb42 := NB257_258.out; have hnc42 := NB258_257.out; obtain ⟨hcz43_0, hfz43_0⟩ := bk1 BK257.out) | ((with_reducible refine gate_callee (f := 104) rfl ?_); refine goesL_ (some 10) rfl rfl Try.func104 (by kernel_rfl) rfl #[.agg #[.slice A0_0 l0_0.length c0_0]] rfl (by (try simp only [List.map_toArray, List.map_cons, List.map_nil]); first | done | rfl | (simp only [List.length_drop, List.length_take]; rfl)) ?_; (with_reducible refine (impl_IsValidStore.calls k _ _ l0_0 true _ ?side1 ?side2 A5.out).mono ?_); (case side1 => exact CB HR0_0.out HB.out); (case side2 => exact HC0_0.out); rintro e w44 ⟨rfl, hb⟩; refine ⟨_, rfl, ?_⟩; replace BK257 := AM_ (BB BK257.out hb); replace BK258 := AM_ (BB BK258.out hb); replace HB := AM_ (below_step (BT HB.out) hb); (try clear hb); (try clear hb2); (try clear hk); (try clear hi); obtain ⟨hcz45_0, hcz45_1, hcz45_2, hcz45_3, hcz45_4, hcz45_5, hcz45_6, hcz45_7, hcz45_8, hfz45_0, hfz45_1, hfz45_2, hfz45_3, hfz45_4, hfz45_5, hfz45_6, hfz45_7, hfz45_8⟩ := bk9 BK258.out) | (go_at_call 105; (with_reducible refine (impl_Transaction_isActive.calls k a2_0 a2_1 a2_2 a2_3 a2_4 a2_5 a2_6 _ _ l2_7 _ _ l2_8 false _ ?side1 ?side2 ?side3 ?side4 A7.out).mono ?_); (case side1 => exact CB HR2_7.out HB.out); (case side2 => exact HC2_7.out); (case side3 => exact CB HR2_8.out HB.out); (case side4 => exact HC2_8.out); rintro e w46 ⟨rfl, hb⟩; replace BK257 := AM_ (BB BK257.out hb); replace BK258 := AM_ (BB BK258.out hb); replace HB := AM_ (below_step (BT HB.out) hb); (try clear hb); (try clear hb2); (try clear hk); (try clear hi)))
  go_ret
  exact QT (BT HB.out)
 subst c8
 have H1 : ((impl_isKey.f a3).bind fun t261 => (if t261 = true then ((impl_AreLocks.f k l1).bind fun t262 => (if t262 = true then ((impl_Store_writeCode.f k l0_0 l1 a2_0 a2_1 a2_2 a2_3 a2_4 a2_5 a2_6 l2_7 l2_8 a3).bind fun t263 => (some t263)) else (some 6))) else (some 6))) = some r := by rw [if_pos rfl] at H; exact H
 clear H
 have H := H1
 clear H1
 replace H := Option.bind_eq_some_iff.mp H
 obtain ⟨t261, A90, H⟩ := H
 replace H : (if t261 = true then ((impl_AreLocks.f k l1).bind fun t262 => (if t262 = true then ((impl_Store_writeCode.f k l0_0 l1 a2_0 a2_1 a2_2 a2_3 a2_4 a2_5 a2_6 l2_7 l2_8 a3).bind fun t263 => (some t263)) else (some 6))) else (some 6)) = some r := H
 have A9 := AM_ A90
 clear A90
 by_cases c10 : t261 = true
 rotate_left
 ·replace c10 := Bool.eq_false_iff.mpr c10
  subst c10
  have H1 : (some 6) = some r := by rw [if_neg (show ¬ (false = true) by decide)] at H; exact H
  clear H
  have H := H1
  clear H1
  obtain rfl := Option.some.inj H
  go_enter Try.func52, Try.ntmps52
  go_wp2_with (first | ((with_reducible refine gate_dst (N := 4) rfl ?_); refine box_event ?hg (N := 4) ?hd (cs := #[.slice A0_0 l0_0.length c0_0]) (t := 49) ?hr ?_; (case hd => rfl); (case hg => rfl); (case hr => first | (go_simp; done) | (go_simp; rfl)); intro gb257 hg w33 hbox hb; have BK257 := AM_ (hbox); have GW257 := AM_ ((GS HB.out hg)); have GE257 := AM_ ((GS HB.out hg)); replace HB := AM_ (below_step (BT HB.out) hb); clear hb hbox hg) | ((with_reducible refine gate_dst (N := 6) rfl ?_); refine box_event ?hg (N := 6) ?hd (cs := #[.int .i64 a2_0, .int .i64 a2_1, .int .i64 a2_2, .int .i64 a2_3, .int .i64 a2_4, .int .i64 a2_5, .int .i64 a2_6, .slice A2_7 l2_7.length c2_7, .slice A2_8 l2_8.length c2_8]) (t := 68) ?hr ?_; (case hd => rfl); (case hg => rfl); (case hr => first | (go_simp; done) | (go_simp; rfl)); intro gb258 hg w34 hbox hb; have BK258 := AM_ (hbox); have GW258 := AM_ ((GS HB.out hg)); have GE258 := AM_ ((GS HB.out hg)); replace HB := AM_ (below_step (BT HB.out) hb); have NB257_258 := AM_ ((NL BK257.out hg)); have NB258_257 := AM_ ((NG BK257.out hg)); replace BK257 := AM_ (BB BK257.out hb); clear hb hbox hg; have hnb35 := NB257_258.out; have hnc35 := NB258_257.out; obtain ⟨hcz36_0, hfz36_0⟩ := bk1 BK257.out) | ((with_reducible refine gate_callee (f := 104) rfl ?_); refine goesL_ (some 10) rfl rfl Try.func104 (by kernel_rfl) rfl #[.agg #[.slice A0_0 l0_0.length c0_0]] rfl (by (try simp only [List.map_toArray, List.map_cons, List.map_nil]); first | done | rfl | (simp only [List.length_drop, List.length_take]; rfl)) ?_; (with_reducible refine (impl_IsValidStore.calls k _ _ l0_0 true _ ?side1 ?side2 A5.out).mono ?_); (case side1 => exact CB HR0_0.out HB.out); (case side2 => exact HC0_0.out); rintro e w37 ⟨rfl, hb⟩; refine ⟨_, rfl, ?_⟩; replace BK257 := AM_ (BB BK257.out hb); replace BK258 := AM_ (BB BK258.out hb); replace HB := AM_ (below_step (BT HB.out) hb); (try clear hb); (try clear hb2); (try clear hk); (try clear hi); obtain ⟨hcz38_0, hcz38_1, hcz38_2, hcz38_3, hcz38_4, hcz38_5, hcz38_6, hcz38_7, hcz38_8, hfz38_0, hfz38_1, hfz38_2, hfz38_3, hfz38_4, hfz38_5, hfz38_6, hfz38_7, hfz38_8⟩ := bk9 BK258.out) | (go_at_call 105; (with_reducible refine (impl_Transaction_isActive.calls k a2_0 a2_1 a2_2 a2_3 a2_4 a2_5 a2_6 _ _ l2_7 _ _ l2_8 true _ ?side1 ?side2 ?side3 ?side4 A7.out).mono ?_); (case side1 => exact CB HR2_7.out HB.out); (case side2 => exact HC2_7.out); (case side3 => exact CB HR2_8.out HB.out); (case side4 => exact HC2_8.out); rintro e w39 ⟨rfl, hb⟩; replace BK257 := AM_ (BB BK257.out hb); replace BK258 := AM_ (BB BK258.out hb); replace HB := AM_ (below_step (BT HB.out) hb); (try clear hb); (try clear hb2); (try clear hk); (try clear hi)) | (go_at_call 120; (with_reducible refine (impl_isKey.calls a3 false _ A9.out).mono ?_); rintro e w' ⟨rfl, ⟨nd, rfl⟩⟩))
  go_ret
  exact QT (BT HB.out)
 subst c10
 have H1 : ((impl_AreLocks.f k l1).bind fun t262 => (if t262 = true then ((impl_Store_writeCode.f k l0_0 l1 a2_0 a2_1 a2_2 a2_3 a2_4 a2_5 a2_6 l2_7 l2_8 a3).bind fun t263 => (some t263)) else (some 6))) = some r := by rw [if_pos rfl] at H; exact H
 clear H
 have H := H1
 clear H1
 replace H := Option.bind_eq_some_iff.mp H
 obtain ⟨t262, A110, H⟩ := H
 replace H : (if t262 = true then ((impl_Store_writeCode.f k l0_0 l1 a2_0 a2_1 a2_2 a2_3 a2_4 a2_5 a2_6 l2_7 l2_8 a3).bind fun t263 => (some t263)) else (some 6)) = some r := H
 have A11 := AM_ A110
 clear A110
 by_cases c12 : t262 = true
 rotate_left
 ·replace c12 := Bool.eq_false_iff.mpr c12
  subst c12
  have H1 : (some 6) = some r := by rw [if_neg (show ¬ (false = true) by decide)] at H; exact H
  clear H
  have H := H1
  clear H1
  obtain rfl := Option.some.inj H
  go_enter Try.func52, Try.ntmps52
  go_wp2_with (first | ((with_reducible refine gate_dst (N := 4) rfl ?_); refine box_event ?hg (N := 4) ?hd (cs := #[.slice A0_0 l0_0.length c0_0]) (t := 49) ?hr ?_; (case hd => rfl); (case hg => rfl); (case hr => first | (go_simp; done) | (go_simp; rfl)); intro gb257 hg w25 hbox hb; have BK257 := AM_ (hbox); have GW257 := AM_ ((GS HB.out hg)); have GE257 := AM_ ((GS HB.out hg)); replace HB := AM_ (below_step (BT HB.out) hb); clear hb hbox hg) | ((with_reducible refine gate_dst (N := 6) rfl ?_); refine box_event ?hg (N := 6) ?hd (cs := #[.int .i64 a2_0, .int .i64 a2_1, .int .i64 a2_2, .int .i64 a2_3, .int .i64 a2_4, .int .i64 a2_5, .int .i64 a2_6, .slice A2_7 l2_7.length c2_7, .slice A2_8 l2_8.length c2_8]) (t := 68) ?hr ?_; (case hd => rfl); (case hg => rfl); (case hr => first | (go_simp; done) | (go_simp; rfl)); intro gb258 hg w26 hbox hb; have BK258 := AM_ (hbox); have GW258 := AM_ ((GS HB.out hg)); have GE258 := AM_ ((GS HB.out hg)); replace HB := AM_ (below_step (BT HB.out) hb); have NB257_258 := AM_ ((NL BK257.out hg)); have NB258_257 := AM_ ((NG BK257.out hg)); replace BK257 := AM_ (BB BK257.out hb); clear hb hbox hg; have hnb27 := NB257_258.out; have hnc27 := NB258_257.out; obtain ⟨hcz28_0, hfz28_0⟩ := bk1 BK257.out) | ((with_reducible refine gate_callee (f := 104) rfl ?_); refine goesL_ (some 10) rfl rfl Try.func104 (by kernel_rfl) rfl #[.agg #[.slice A0_0 l0_0.length c0_0]] rfl (by (try simp only [List.map_toArray, List.map_cons, List.map_nil]); first | done | rfl | (simp only [List.length_drop, List.length_take]; rfl)) ?_; (with_reducible refine (impl_IsValidStore.calls k _ _ l0_0 true _ ?side1 ?side2 A5.out).mono ?_); (case side1 => exact CB HR0_0.out HB.out); (case side2 => exact HC0_0.out); rintro e w29 ⟨rfl, hb⟩; refine ⟨_, rfl, ?_⟩; replace BK257 := AM_ (BB BK257.out hb); replace BK258 := AM_ (BB BK258.out hb); replace HB := AM_ (below_step (BT HB.out) hb); (try clear hb); (try clear hb2); (try clear hk); (try clear hi); obtain ⟨hcz30_0, hcz30_1, hcz30_2, hcz30_3, hcz30_4, hcz30_5, hcz30_6, hcz30_7, hcz30_8, hfz30_0, hfz30_1, hfz30_2, hfz30_3, hfz30_4, hfz30_5, hfz30_6, hfz30_7, hfz30_8⟩ := bk9 BK258.out) | (go_at_call 105; (with_reducible refine (impl_Transaction_isActive.calls k a2_0 a2_1 a2_2 a2_3 a2_4 a2_5 a2_6 _ _ l2_7 _ _ l2_8 true _ ?side1 ?side2 ?side3 ?side4 A7.out).mono ?_); (case side1 => exact CB HR2_7.out HB.out); (case side2 => exact HC2_7.out); (case side3 => exact CB HR2_8.out HB.out); (case side4 => exact HC2_8.out); rintro e w31 ⟨rfl, hb⟩; replace BK257 := AM_ (BB BK257.out hb); replace BK258 := AM_ (BB BK258.out hb); replace HB := AM_ (below_step (BT HB.out) hb); (try clear hb); (try clear hb2); (try clear hk); (try clear hi)) | (go_at_call 120; (with_reducible refine (impl_isKey.calls a3 true _ A9.out).mono ?_); rintro e w' ⟨rfl, ⟨nd, rfl⟩⟩) | (go_at_call 132; (with_reducible refine (impl_AreLocks.calls k _ _ l1 false _ ?side1 ?side2 A11.out).mono ?_); (case side1 => repeat (first | exact (Kd.C_below HR1.out (BT HB.out)) | (with_reducible refine Kd.C_alloc ?_ _) | (with_reducible refine Kd.C_drewN ?_ _) | (with_reducible refine Kd.C_drew ?_))); (case side2 => exact HC1.out); rintro e w32 ⟨rfl, hb⟩; replace BK257 := AM_ (BB BK257.out hb); replace BK258 := AM_ (BB BK258.out hb); replace HB := AM_ (below_step (BT HB.out) hb); (try clear hb); (try clear hb2); (try clear hk); (try clear hi)))
  go_ret
  exact QT (BT HB.out)
 subst c12
 have H1 : ((impl_Store_writeCode.f k l0_0 l1 a2_0 a2_1 a2_2 a2_3 a2_4 a2_5 a2_6 l2_7 l2_8 a3).bind fun t263 => (some t263)) = some r := by rw [if_pos rfl] at H; exact H
 clear H
 have H := H1
 clear H1
 replace H := Option.bind_eq_some_iff.mp H
 obtain ⟨t263, A130, H⟩ := H
 replace H : (some t263) = some r := H
 have A13 := AM_ A130
 clear A130
 obtain rfl := Option.some.inj H
 go_enter Try.func52, Try.ntmps52
 go_wp2_with (first | ((with_reducible refine gate_dst (N := 4) rfl ?_); refine box_event ?hg (N := 4) ?hd (cs := #[.slice A0_0 l0_0.length c0_0]) (t := 49) ?hr ?_; (case hd => rfl); (case hg => rfl); (case hr => first | (go_simp; done) | (go_simp; rfl)); intro gb257 hg w14 hbox hb; have BK257 := AM_ (hbox); have GW257 := AM_ ((GS HB.out hg)); have GE257 := AM_ ((GS HB.out hg)); replace HB := AM_ (below_step (BT HB.out) hb); clear hb hbox hg) | ((with_reducible refine gate_dst (N := 6) rfl ?_); refine box_event ?hg (N := 6) ?hd (cs := #[.int .i64 a2_0, .int .i64 a2_1, .int .i64 a2_2, .int .i64 a2_3, .int .i64 a2_4, .int .i64 a2_5, .int .i64 a2_6, .slice A2_7 l2_7.length c2_7, .slice A2_8 l2_8.length c2_8]) (t := 68) ?hr ?_; (case hd => rfl); (case hg => rfl); (case hr => first | (go_simp; done) | (go_simp; rfl)); intro gb258 hg w15 hbox hb; have BK258 := AM_ (hbox); have GW258 := AM_ ((GS HB.out hg)); have GE258 := AM_ ((GS HB.out hg)); replace HB := AM_ (below_step (BT HB.out) hb); have NB257_258 := AM_ ((NL BK257.out hg)); have NB258_257 := AM_ ((NG BK257.out hg)); replace BK257 := AM_ (BB BK257.out hb); clear hb hbox hg; have hnb16 := NB257_258.out; have hnc16 := NB258_257.out; obtain ⟨hcz17_0, hfz17_0⟩ := bk1 BK257.out) | ((with_reducible refine gate_callee (f := 104) rfl ?_); refine goesL_ (some 10) rfl rfl Try.func104 (by kernel_rfl) rfl #[.agg #[.slice A0_0 l0_0.length c0_0]] rfl (by (try simp only [List.map_toArray, List.map_cons, List.map_nil]); first | done | rfl | (simp only [List.length_drop, List.length_take]; rfl)) ?_; (with_reducible refine (impl_IsValidStore.calls k _ _ l0_0 true _ ?side1 ?side2 A5.out).mono ?_); (case side1 => exact CB HR0_0.out HB.out); (case side2 => exact HC0_0.out); rintro e w18 ⟨rfl, hb⟩; refine ⟨_, rfl, ?_⟩; replace BK257 := AM_ (BB BK257.out hb); replace BK258 := AM_ (BB BK258.out hb); replace HB := AM_ (below_step (BT HB.out) hb); (try clear hb); (try clear hb2); (try clear hk); (try clear hi); obtain ⟨hcz19_0, hcz19_1, hcz19_2, hcz19_3, hcz19_4, hcz19_5, hcz19_6, hcz19_7, hcz19_8, hfz19_0, hfz19_1, hfz19_2, hfz19_3, hfz19_4, hfz19_5, hfz19_6, hfz19_7, hfz19_8⟩ := bk9 BK258.out) | (go_at_call 105; (with_reducible refine (impl_Transaction_isActive.calls k a2_0 a2_1 a2_2 a2_3 a2_4 a2_5 a2_6 _ _ l2_7 _ _ l2_8 true _ ?side1 ?side2 ?side3 ?side4 A7.out).mono ?_); (case side1 => exact CB HR2_7.out HB.out); (case side2 => exact HC2_7.out); (case side3 => exact CB HR2_8.out HB.out); (case side4 => exact HC2_8.out); rintro e w20 ⟨rfl, hb⟩; replace BK257 := AM_ (BB BK257.out hb); replace BK258 := AM_ (BB BK258.out hb); replace HB := AM_ (below_step (BT HB.out) hb); (try clear hb); (try clear hb2); (try clear hk); (try clear hi)) | (go_at_call 120; (with_reducible refine (impl_isKey.calls a3 true _ A9.out).mono ?_); rintro e w' ⟨rfl, ⟨nd, rfl⟩⟩) | (go_at_call 132; (with_reducible refine (impl_AreLocks.calls k _ _ l1 true _ ?side1 ?side2 A11.out).mono ?_); (case side1 => repeat (first | exact (Kd.C_below HR1.out (BT HB.out)) | (with_reducible refine Kd.C_alloc ?_ _) | (with_reducible refine Kd.C_drewN ?_ _) | (with_reducible refine Kd.C_drew ?_))); (case side2 => exact HC1.out); rintro e w21 ⟨rfl, hb⟩; replace BK257 := AM_ (BB BK257.out hb); replace BK258 := AM_ (BB BK258.out hb); replace HB := AM_ (below_step (BT HB.out) hb); (try clear hb); (try clear hb2); (try clear hk); (try clear hi); obtain ⟨hcz22_0, hfz22_0⟩ := bk1 BK257.out; obtain ⟨hcz23_0, hcz23_1, hcz23_2, hcz23_3, hcz23_4, hcz23_5, hcz23_6, hcz23_7, hcz23_8, hfz23_0, hfz23_1, hfz23_2, hfz23_3, hfz23_4, hfz23_5, hfz23_6, hfz23_7, hfz23_8⟩ := bk9 BK258.out) | ((with_reducible refine gate_callee (f := 133) rfl ?_); refine goesL_ (some 31) rfl rfl Try.func133 (by kernel_rfl) rfl #[.agg #[.slice A0_0 l0_0.length c0_0], .slice A1 l1.length c1, .agg #[.int .i64 a2_0, .int .i64 a2_1, .int .i64 a2_2, .int .i64 a2_3, .int .i64 a2_4, .int .i64 a2_5, .int .i64 a2_6, .slice A2_7 l2_7.length c2_7, .slice A2_8 l2_8.length c2_8], .int .i64 a3] rfl (by (try simp only [List.map_toArray, List.map_cons, List.map_nil]); first | done | rfl | (simp only [List.length_drop, List.length_take]; rfl)) ?_; (with_reducible refine (impl_Store_writeCode.calls k _ _ l0_0 _ _ l1 a2_0 a2_1 a2_2 a2_3 a2_4 a2_5 a2_6 _ _ l2_7 _ _ l2_8 a3 t263 _ ?side1 ?side2 ?side3 ?side4 ?side5 ?side6 ?side7 ?side8 A13.out).mono ?_); (case side1 => exact CB HR0_0.out HB.out); (case side2 => exact HC0_0.out); (case side3 => exact CB HR1.out HB.out); (case side4 => exact HC1.out); (case side5 => exact CB HR2_7.out HB.out); (case side6 => exact HC2_7.out); (case side7 => exact CB HR2_8.out HB.out); (case side8 => exact HC2_8.out); rintro e w24 ⟨rfl, hb⟩; refine ⟨_, rfl, ?_⟩; replace BK257 := AM_ (BB BK257.out hb); replace BK258 := AM_ (BB BK258.out hb); replace HB := AM_ (below_step (BT HB.out) hb); (try clear hb); (try clear hb2); (try clear hk); (try clear hi)))
 go_ret
 exact QT (BT HB.out)

/-! ### spec_l1In: function 82 -/
def spec_l1In.f (a0 : Int) (a1 : Int) (a2 : Int) : Option (Bool) := if a0 ≥ a1 then (some (decide (a0 ≤ a2))) else (some false)
set_option maxHeartbeats 8000000 in
set_option maxRecDepth 100000 in
theorem spec_l1In.calls (a0 : Int) (a1 : Int) (a2 : Int) (r : Bool) (w : World) (h : spec_l1In.f a0 a1 a2 = some r) :
  Calls Try.prog 82 #[.int .i64 a0, .int .i64 a1, .int .i64 a2] w fun e w' => e = .returned (.bool r) ∧ Drawn0 w w' := by
 have H : (if a0 ≥ a1 then (some (decide (a0 ≤ a2))) else (some false)) = some r := h
 clear h
 by_cases c4 : a0 ≥ a1
 ·rw [if_pos c4] at H
  have c4b0 : decide (a1 ≤ a0) = true := decide_eq_true c4
  clear c4
  obtain rfl := Option.some.inj H
  go_enter Try.func82, Try.ntmps82
  go_wp2
  go_ret
  exact ⟨by first | rfl | (simp; done) | (simp [*]; done), by repeat (first | exact Drawn0.refl _ | apply Drawn0.step)⟩
 rw [if_neg c4] at H
 have c4b0 : decide (a1 ≤ a0) = false := decide_eq_false c4
 clear c4
 obtain rfl := Option.some.inj H
 go_enter Try.func82, Try.ntmps82
 go_wp2
 go_ret
 exact ⟨by first | rfl | (simp; done) | (simp [*]; done), by repeat (first | exact Drawn0.refl _ | apply Drawn0.step)⟩

/-! ### spec_IsValidVersion: function 194 -/
def spec_IsValidVersion.j0 : Nat → Bool → Int → Int → Int → Int → Int → Option (Bool)
 | 0, _, _, _, _, _, _ => none
 | k + 1, x26, x265000, x265001, x265002, x265003, x265004 => if x26 = true then (some false) else (if x265002 = 0 then (if x265000 = 0 then (some (x265001 == (-1))) else (some false)) else ((spec_l1In.f x265000 1 9).bind fun t269 => (some t269)))
def spec_IsValidVersion.f (k : Nat) (a0_0 : Int) (a0_1 : Int) (a0_2 : Int) (a0_3 : Int) (a0_4 : Int) : Option (Bool) := (spec_l1In.f a0_1 (-1) 99).bind fun t265 => (if t265 = true then ((spec_l1In.f a0_2 0 999).bind fun t266 => (if t266 = true then ((spec_l1In.f a0_3 a0_2 999).bind fun t267 => (if t267 = true then ((spec_l1In.f a0_4 1 1000).bind fun t268 => (spec_IsValidVersion.j0 k (!t268) a0_0 a0_1 a0_2 a0_3 a0_4)) else (spec_IsValidVersion.j0 k true a0_0 a0_1 a0_2 a0_3 a0_4))) else (spec_IsValidVersion.j0 k true a0_0 a0_1 a0_2 a0_3 a0_4))) else (spec_IsValidVersion.j0 k true a0_0 a0_1 a0_2 a0_3 a0_4))
theorem spec_IsValidVersion.mono_l : ∀ k, (∀ y0 y1 y2 y3 y4 y5, LeO (spec_IsValidVersion.j0 k y0 y1 y2 y3 y4 y5) (spec_IsValidVersion.j0 (k + 1) y0 y1 y2 y3 y4 y5))
 | 0 => fun _ _ _ _ _ _ r h => by simp [spec_IsValidVersion.j0] at h
 | k + 1 => by
  have ih0 := spec_IsValidVersion.mono_l k
  ·intro y0 y1 y2 y3 y4 y5
   unfold spec_IsValidVersion.j0
   repeat' first
   | (with_reducible exact ih0 _ _ _ _ _ _)
   | (with_reducible exact LeO.refl _)
   | (with_reducible exact LeO.none _)
   | (with_reducible refine LeO.ite ?_ ?_)
   | (with_reducible refine LeO.bind ?_ (fun _ => ?_))
   | exact ih0 _ _ _ _ _ _
   | exact LeO.none _
   | refine LeO.ite ?_ ?_
   | refine LeO.bind ?_ (fun _ => ?_)
theorem spec_IsValidVersion.mono : ∀ a0 a1 a2 a3 a4 k, LeO (spec_IsValidVersion.f k a0 a1 a2 a3 a4) (spec_IsValidVersion.f (k + 1) a0 a1 a2 a3 a4) := by
 intro a0 a1 a2 a3 a4 k
 have ih0 := spec_IsValidVersion.mono_l k
 unfold spec_IsValidVersion.f
 repeat' first
   | (with_reducible exact ih0 _ _ _ _ _ _)
   | (with_reducible exact LeO.refl _)
   | (with_reducible exact LeO.none _)
   | (with_reducible refine LeO.ite ?_ ?_)
   | (with_reducible refine LeO.bind ?_ (fun _ => ?_))
   | exact ih0 _ _ _ _ _ _
   | exact LeO.none _
   | refine LeO.ite ?_ ?_
   | refine LeO.bind ?_ (fun _ => ?_)
set_option maxHeartbeats 8000000 in
set_option maxRecDepth 100000 in
theorem spec_IsValidVersion.calls (k : Nat) (a0_0 : Int) (a0_1 : Int) (a0_2 : Int) (a0_3 : Int) (a0_4 : Int) (r : Bool) (w : World) (h : spec_IsValidVersion.f k a0_0 a0_1 a0_2 a0_3 a0_4 = some r) :
  Calls Try.prog 194 #[.agg #[.int .i64 a0_0, .int .i64 a0_1, .int .i64 a0_2, .int .i64 a0_3, .int .i64 a0_4]] w fun e w' => e = .returned (.bool r) ∧ Below w.heap.size w w' := by
 have hu76 := Try.underlying76
 have HB := AM_ (Below.refl w.heap.size w)
 have H : ((spec_l1In.f a0_1 (-1) 99).bind fun t265 => (if t265 = true then ((spec_l1In.f a0_2 0 999).bind fun t266 => (if t266 = true then ((spec_l1In.f a0_3 a0_2 999).bind fun t267 => (if t267 = true then ((spec_l1In.f a0_4 1 1000).bind fun t268 => (spec_IsValidVersion.j0 k (!t268) a0_0 a0_1 a0_2 a0_3 a0_4)) else (spec_IsValidVersion.j0 k true a0_0 a0_1 a0_2 a0_3 a0_4))) else (spec_IsValidVersion.j0 k true a0_0 a0_1 a0_2 a0_3 a0_4))) else (spec_IsValidVersion.j0 k true a0_0 a0_1 a0_2 a0_3 a0_4))) = some r := h
 clear h
 have HC2 := AM_ H
 clear H
 go_enter Try.func194, Try.ntmps194
 go_upto_region 1 with (first | ((with_reducible refine gate_dst (N := 1) rfl ?_); refine box_event ?hg (N := 1) ?hd (cs := #[.int .i64 a0_0, .int .i64 a0_1, .int .i64 a0_2, .int .i64 a0_3, .int .i64 a0_4]) (t := 76) ?hr ?_; (case hd => rfl); (case hg => rfl); (case hr => first | (go_simp; done) | (go_simp; rfl)); intro gb264 hg w3 hbox hb; have BK264 := AM_ (hbox); have GW264 := AM_ ((GS HB.out hg)); have GE264 := AM_ ((GS HB.out hg)); replace HB := AM_ (below_step (BT HB.out) hb); clear hb hbox hg))
 (try simp only [pA, pS, pZ, pK])
 go_cut [26] (fun v26 wc => ∃ (kq : Nat) (x26_1 : Bool), v26 = .bool x26_1 ∧ Aside0 (spec_IsValidVersion.j0 kq x26_1 a0_0 a0_1 a0_2 a0_3 a0_4 = some r) ∧ Aside0 (kq ≤ k) ∧ Aside0 (wc.heap[gb264]? = some (.cells #[.int .i64 a0_0, .int .i64 a0_1, .int .i64 a0_2, .int .i64 a0_3, .int .i64 a0_4] 76 (0, 0))) ∧ Aside0 (Below w.heap.size w wc))
 case first =>
  have H := HC2.out
  clear HC2
  replace H := Option.bind_eq_some_iff.mp H
  obtain ⟨t265, A40, H⟩ := H
  replace H : (if t265 = true then ((spec_l1In.f a0_2 0 999).bind fun t266 => (if t266 = true then ((spec_l1In.f a0_3 a0_2 999).bind fun t267 => (if t267 = true then ((spec_l1In.f a0_4 1 1000).bind fun t268 => (spec_IsValidVersion.j0 k (!t268) a0_0 a0_1 a0_2 a0_3 a0_4)) else (spec_IsValidVersion.j0 k true a0_0 a0_1 a0_2 a0_3 a0_4))) else (spec_IsValidVersion.j0 k true a0_0 a0_1 a0_2 a0_3 a0_4))) else (spec_IsValidVersion.j0 k true a0_0 a0_1 a0_2 a0_3 a0_4)) = some r := H
  have A4 := AM_ A40
  clear A40
  by_cases c5 : t265 = true
  rotate_left
  ·replace c5 := Bool.eq_false_iff.mpr c5
   subst c5
   have H1 : (spec_IsValidVersion.j0 k true a0_0 a0_1 a0_2 a0_3 a0_4) = some r := by rw [if_neg (show ¬ (false = true) by decide)] at H; exact H
   clear H
   have H := H1
   clear H1
   have H' := AM_ H
   clear H
   obtain ⟨hcz14_0, hcz14_1, hcz14_2, hcz14_3, hcz14_4, hfz14_0, hfz14_1, hfz14_2, hfz14_3, hfz14_4⟩ := bk5 BK264.out
   go_wp2_with (first | ((with_reducible refine gate_callee (f := 82) rfl ?_); refine goesL_ (some 5) rfl rfl Try.func82 (by kernel_rfl) rfl #[.int .i64 a0_1, .int .i64 (-1), .int .i64 99] rfl (by (try simp only [List.map_toArray, List.map_cons, List.map_nil]); first | done | rfl | (simp only [List.length_drop, List.length_take]; rfl)) ?_; (with_reducible refine (spec_l1In.calls a0_1 (-1) 99 false _ A4.out).mono ?_); rintro e w' ⟨rfl, ⟨nd, rfl⟩⟩; refine ⟨_, rfl, ?_⟩))
   go_meet
   case rel => exact ⟨_, (true), (by first | rfl | (simp; done) | (simp [*]; done)), H', ⟨by first | omega | exact Nat.le_refl _⟩, ⟨BH BK264.out⟩, ⟨BT HB.out⟩⟩
  subst c5
  have H1 : ((spec_l1In.f a0_2 0 999).bind fun t266 => (if t266 = true then ((spec_l1In.f a0_3 a0_2 999).bind fun t267 => (if t267 = true then ((spec_l1In.f a0_4 1 1000).bind fun t268 => (spec_IsValidVersion.j0 k (!t268) a0_0 a0_1 a0_2 a0_3 a0_4)) else (spec_IsValidVersion.j0 k true a0_0 a0_1 a0_2 a0_3 a0_4))) else (spec_IsValidVersion.j0 k true a0_0 a0_1 a0_2 a0_3 a0_4))) = some r := by rw [if_pos rfl] at H; exact H
  clear H
  have H := H1
  clear H1
  replace H := Option.bind_eq_some_iff.mp H
  obtain ⟨t266, A60, H⟩ := H
  replace H : (if t266 = true then ((spec_l1In.f a0_3 a0_2 999).bind fun t267 => (if t267 = true then ((spec_l1In.f a0_4 1 1000).bind fun t268 => (spec_IsValidVersion.j0 k (!t268) a0_0 a0_1 a0_2 a0_3 a0_4)) else (spec_IsValidVersion.j0 k true a0_0 a0_1 a0_2 a0_3 a0_4))) else (spec_IsValidVersion.j0 k true a0_0 a0_1 a0_2 a0_3 a0_4)) = some r := H
  have A6 := AM_ A60
  clear A60
  by_cases c7 : t266 = true
  rotate_left
  ·replace c7 := Bool.eq_false_iff.mpr c7
   subst c7
   have H1 : (spec_IsValidVersion.j0 k true a0_0 a0_1 a0_2 a0_3 a0_4) = some r := by rw [if_neg (show ¬ (false = true) by decide)] at H; exact H
   clear H
   have H := H1
   clear H1
   have H' := AM_ H
   clear H
   obtain ⟨hcz13_0, hcz13_1, hcz13_2, hcz13_3, hcz13_4, hfz13_0, hfz13_1, hfz13_2, hfz13_3, hfz13_4⟩ := bk5 BK264.out
   go_wp2_with (first | ((with_reducible refine gate_callee (f := 82) rfl ?_); refine goesL_ (some 5) rfl rfl Try.func82 (by kernel_rfl) rfl #[.int .i64 a0_1, .int .i64 (-1), .int .i64 99] rfl (by (try simp only [List.map_toArray, List.map_cons, List.map_nil]); first | done | rfl | (simp only [List.length_drop, List.length_take]; rfl)) ?_; (with_reducible refine (spec_l1In.calls a0_1 (-1) 99 true _ A4.out).mono ?_); rintro e w' ⟨rfl, ⟨nd, rfl⟩⟩; refine ⟨_, rfl, ?_⟩) | (go_at_call 82; (with_reducible refine (spec_l1In.calls a0_2 0 999 false _ A6.out).mono ?_); rintro e w' ⟨rfl, ⟨nd, rfl⟩⟩))
   go_meet
   case rel => exact ⟨_, (true), (by first | rfl | (simp; done) | (simp [*]; done)), H', ⟨by first | omega | exact Nat.le_refl _⟩, ⟨BH BK264.out⟩, ⟨BT HB.out⟩⟩
  subst c7
  have H1 : ((spec_l1In.f a0_3 a0_2 999).bind fun t267 => (if t267 = true then ((spec_l1In.f a0_4 1 1000).bind fun t268 => (spec_IsValidVersion.j0 k (!t268) a0_0 a0_1 a0_2 a0_3 a0_4)) else (spec_IsValidVersion.j0 k true a0_0 a0_1 a0_2 a0_3 a0_4))) = some r := by rw [if_pos rfl] at H; exact H
  clear H
  have H := H1
  clear H1
  replace H := Option.bind_eq_some_iff.mp H
  obtain ⟨t267, A80, H⟩ := H
  replace H : (if t267 = true then ((spec_l1In.f a0_4 1 1000).bind fun t268 => (spec_IsValidVersion.j0 k (!t268) a0_0 a0_1 a0_2 a0_3 a0_4)) else (spec_IsValidVersion.j0 k true a0_0 a0_1 a0_2 a0_3 a0_4)) = some r := H
  have A8 := AM_ A80
  clear A80
  by_cases c9 : t267 = true
  rotate_left
  ·replace c9 := Bool.eq_false_iff.mpr c9
   subst c9
   have H1 : (spec_IsValidVersion.j0 k true a0_0 a0_1 a0_2 a0_3 a0_4) = some r := by rw [if_neg (show ¬ (false = true) by decide)] at H; exact H
   clear H
   have H := H1
   clear H1
   have H' := AM_ H
   clear H
   obtain ⟨hcz12_0, hcz12_1, hcz12_2, hcz12_3, hcz12_4, hfz12_0, hfz12_1, hfz12_2, hfz12_3, hfz12_4⟩ := bk5 BK264.out
   go_wp2_with (first | ((with_reducible refine gate_callee (f := 82) rfl ?_); refine goesL_ (some 5) rfl rfl Try.func82 (by kernel_rfl) rfl #[.int .i64 a0_1, .int .i64 (-1), .int .i64 99] rfl (by (try simp only [List.map_toArray, List.map_cons, List.map_nil]); first | done | rfl | (simp only [List.length_drop, List.length_take]; rfl)) ?_; (with_reducible refine (spec_l1In.calls a0_1 (-1) 99 true _ A4.out).mono ?_); rintro e w' ⟨rfl, ⟨nd, rfl⟩⟩; refine ⟨_, rfl, ?_⟩) | (go_at_call 82; (with_reducible refine (spec_l1In.calls a0_2 0 999 true _ A6.out).mono ?_); rintro e w' ⟨rfl, ⟨nd, rfl⟩⟩) | (go_at_call 82; (with_reducible refine (spec_l1In.calls a0_3 a0_2 999 false _ A8.out).mono ?_); rintro e w' ⟨rfl, ⟨nd, rfl⟩⟩))
   go_meet
   case rel => exact ⟨_, (true), (by first | rfl | (simp; done) | (simp [*]; done)), H', ⟨by first | omega | exact Nat.le_refl _⟩, ⟨BH BK264.out⟩, ⟨BT HB.out⟩⟩
  subst c9
  have H1 : ((spec_l1In.f a0_4 1 1000).bind fun t268 => (spec_IsValidVersion.j0 k (!t268) a0_0 a0_1 a0_2 a0_3 a0_4)) = some r := by rw [if_pos rfl] at H; exact H
  clear H
  have H := H1
  clear H1
  replace H := Option.bind_eq_some_iff.mp H
  obtain ⟨t268, A100, H⟩ := H
  replace H : (spec_IsValidVersion.j0 k (!t268) a0_0 a0_1 a0_2 a0_3 a0_4) = some r := H
  have A10 := AM_ A100
  clear A100
  have H' := AM_ H
  clear H
  obtain ⟨hcz11_0, hcz11_1, hcz11_2, hcz11_3, hcz11_4, hfz11_0, hfz11_1, hfz11_2, hfz11_3, hfz11_4⟩ := bk5 BK264.out
  go_wp2_with (first | ((with_reducible refine gate_callee (f := 82) rfl ?_); refine goesL_ (some 5) rfl rfl Try.func82 (by kernel_rfl) rfl #[.int .i64 a0_1, .int .i64 (-1), .int .i64 99] rfl (by (try simp only [List.map_toArray, List.map_cons, List.map_nil]); first | done | rfl | (simp only [List.length_drop, List.length_take]; rfl)) ?_; (with_reducible refine (spec_l1In.calls a0_1 (-1) 99 true _ A4.out).mono ?_); rintro e w' ⟨rfl, ⟨nd, rfl⟩⟩; refine ⟨_, rfl, ?_⟩) | (go_at_call 82; (with_reducible refine (spec_l1In.calls a0_2 0 999 true _ A6.out).mono ?_); rintro e w' ⟨rfl, ⟨nd, rfl⟩⟩) | (go_at_call 82; (with_reducible refine (spec_l1In.calls a0_3 a0_2 999 true _ A8.out).mono ?_); rintro e w' ⟨rfl, ⟨nd, rfl⟩⟩) | (go_at_call 82; (with_reducible refine (spec_l1In.calls a0_4 1 1000 t268 _ A10.out).mono ?_); rintro e w' ⟨rfl, ⟨nd, rfl⟩⟩))
  go_meet
  case rel => exact ⟨_, (!t268), (by first | rfl | (simp; done) | (simp [*]; done)), H', ⟨by first | omega | exact Nat.le_refl _⟩, ⟨BH BK264.out⟩, ⟨BT HB.out⟩⟩
 case rest =>
  clear HC2
  try clear c1
  try clear p2
  try clear c5
  try clear c7
  try clear c8
  try clear c9
  try clear hcz11_0
  try clear hcz11_1
  try clear hcz11_2
  try clear hcz11_3
  try clear hcz11_4
  try clear hcz12_0
  try clear hcz12_1
  try clear hcz12_2
  try clear hcz12_3
  try clear hcz12_4
  try clear hcz13_0
  try clear hcz13_1
  try clear hcz13_2
  try clear hcz13_3
  try clear hcz13_4
  try clear hcz14_0
  try clear hcz14_1
  try clear hcz14_2
  try clear hcz14_3
  try clear hcz14_4
  try clear hfz11_0
  try clear hfz11_1
  try clear hfz11_2
  try clear hfz11_3
  try clear hfz11_4
  try clear hfz12_0
  try clear hfz12_1
  try clear hfz12_2
  try clear hfz12_3
  try clear hfz12_4
  try clear hfz13_0
  try clear hfz13_1
  try clear hfz13_2
  try clear hfz13_3
  try clear hfz13_4
  try clear hfz14_0
  try clear hfz14_1
  try clear hfz14_2
  try clear hfz14_3
  try clear hfz14_4
  obtain ⟨kq, x26_1, rfl, HA, HJ1, BK264, HB⟩ := hcut
  cases kq with
  | zero => exact absurd HA.out (by simp [spec_IsValidVersion.j0])
  | succ kj1 =>
   have H := HA.out
   clear HA
   simp only [spec_IsValidVersion.j0] at H
   by_cases c15 : x26_1 = true
   ·subst c15
    have H1 : (some false) = some r := by rw [if_pos rfl] at H; exact H
    clear H
    have H := H1
    clear H1
    obtain rfl := Option.some.inj H
    go_wp2
    go_ret
    exact QT (BT HB.out)
   replace c15 := Bool.eq_false_iff.mpr c15
   subst c15
   have H1 : (if a0_2 = 0 then (if a0_0 = 0 then (some (a0_1 == (-1))) else (some false)) else ((spec_l1In.f a0_0 1 9).bind fun t269 => (some t269))) = some r := by rw [if_neg (show ¬ (false = true) by decide)] at H; exact H
   clear H
   have H := H1
   clear H1
   by_cases c16 : a0_2 = 0
   ·rw [if_pos c16] at H
    have c16b0 : (a0_2 == 0) = true := beq_iff_eq.mpr c16
    have c16b1 : (a0_2 != 0) = false := bne_eq_false_iff_eq.mpr c16
    clear c16
    by_cases c17 : a0_0 = 0
    rotate_left
    ·rw [if_neg c17] at H
     have c17b0 : (a0_0 == 0) = false := beq_eq_false_iff_ne.mpr c17
     have c17b1 : (a0_0 != 0) = true := bne_iff_ne.mpr c17
     obtain rfl := Option.some.inj H
     obtain ⟨hcz19_0, hcz19_1, hcz19_2, hcz19_3, hcz19_4, hfz19_0, hfz19_1, hfz19_2, hfz19_3, hfz19_4⟩ := bk5 BK264.out
     go_wp2
     go_ret
     exact QT (BT HB.out)
    rw [if_pos c17] at H
    have c17b0 : (a0_0 == 0) = true := beq_iff_eq.mpr c17
    have c17b1 : (a0_0 != 0) = false := bne_eq_false_iff_eq.mpr c17
    clear c17
    obtain rfl := Option.some.inj H
    obtain ⟨hcz18_0, hcz18_1, hcz18_2, hcz18_3, hcz18_4, hfz18_0, hfz18_1, hfz18_2, hfz18_3, hfz18_4⟩ := bk5 BK264.out
    go_wp2
    go_ret
    exact QT (BT HB.out)
   rw [if_neg c16] at H
   have c16b0 : (a0_2 == 0) = false := beq_eq_false_iff_ne.mpr c16
   have c16b1 : (a0_2 != 0) = true := bne_iff_ne.mpr c16
   replace H := Option.bind_eq_some_iff.mp H
   obtain ⟨t269, A200, H⟩ := H
   replace H : (some t269) = some r := H
   have A20 := AM_ A200
   clear A200
   obtain rfl := Option.some.inj H
   obtain ⟨hcz21_0, hcz21_1, hcz21_2, hcz21_3, hcz21_4, hfz21_0, hfz21_1, hfz21_2, hfz21_3, hfz21_4⟩ := bk5 BK264.out
   go_wp2_with (first | ((with_reducible refine gate_callee (f := 82) rfl ?_); refine goesL_ (some 40) rfl rfl Try.func82 (by kernel_rfl) rfl #[.int .i64 a0_0, .int .i64 1, .int .i64 9] rfl (by (try simp only [List.map_toArray, List.map_cons, List.map_nil]); first | done | rfl | (simp only [List.length_drop, List.length_take]; rfl)) ?_; (with_reducible refine (spec_l1In.calls a0_0 1 9 t269 _ A20.out).mono ?_); rintro e w' ⟨rfl, ⟨nd, rfl⟩⟩; refine ⟨_, rfl, ?_⟩))
   go_ret
   exact QT (BT HB.out)

/-! ### spec_IsValidChain: function 136 -/
def spec_IsValidChain.l0 : Nat → List (S76) → Int → Option (Bool)
 | 0, _, _ => none
 | k + 1, x0, x3 => if x3 < (x0.length : Int) then (if 0 ≤ x3 then ((spec_IsValidVersion.f k ((rd_T76 x0 x3).f0) ((rd_T76 x0 x3).f1) ((rd_T76 x0 x3).f2) ((rd_T76 x0 x3).f3) ((rd_T76 x0 x3).f4)).bind fun t272 => (if t272 = true then (if (wrap64 (x3 + 1)) < (x0.length : Int) then (if 0 ≤ (wrap64 (x3 + 1)) then (if ((rd_T76 x0 x3).f2) ≥ ((rd_T76 x0 (wrap64 (x3 + 1))).f2) then (some false) else (if ((rd_T76 x0 x3).f4) > ((rd_T76 x0 (wrap64 (x3 + 1))).f2) then (some false) else (spec_IsValidChain.l0 k x0 (wrap64 (x3 + 1))))) else (none)) else (spec_IsValidChain.l0 k x0 (wrap64 (x3 + 1)))) else (some false))) else (none)) else (if (x0.length : Int) > 0 then (if 0 ≤ (wrap64 ((x0.length : Int) - 1)) then (if (wrap64 ((x0.length : Int) - 1)) < (x0.length : Int) then (some (((rd_T76 x0 (wrap64 ((x0.length : Int) - 1))).f4) == 1000)) else (none)) else (none)) else (some false))
def spec_IsValidChain.f (k : Nat) (l0 : List (S76)) : Option (Bool) := spec_IsValidChain.l0 k l0 0
theorem spec_IsValidChain.mono_l : ∀ k, (∀ y0 y1, LeO (spec_IsValidChain.l0 k y0 y1) (spec_IsValidChain.l0 (k + 1) y0 y1))
 | 0 => fun _ _ r h => by simp [spec_IsValidChain.l0] at h
 | k + 1 => by
  have ih0 := spec_IsValidChain.mono_l k
  ·intro y0 y1
   unfold spec_IsValidChain.l0
   repeat' first
   | (with_reducible exact ih0 _ _)
   | (with_reducible exact spec_IsValidVersion.mono _ _ _ _ _ _)
   | (with_reducible exact LeO.refl _)
   | (with_reducible exact LeO.none _)
   | (with_reducible refine LeO.ite ?_ ?_)
   | (with_reducible refine LeO.bind ?_ (fun _ => ?_))
   | exact ih0 _ _
   | exact spec_IsValidVersion.mono _ _ _ _ _ _
   | exact LeO.none _
   | refine LeO.ite ?_ ?_
   | refine LeO.bind ?_ (fun _ => ?_)
theorem spec_IsValidChain.mono : ∀ a0 k, LeO (spec_IsValidChain.f k a0) (spec_IsValidChain.f (k + 1) a0) := by
 intro a0 k
 have ih0 := spec_IsValidChain.mono_l k
 unfold spec_IsValidChain.f
 repeat' first
   | (with_reducible exact ih0 _ _)
   | (with_reducible exact spec_IsValidVersion.mono _ _ _ _ _ _)
   | (with_reducible exact LeO.refl _)
   | (with_reducible exact LeO.none _)
   | (with_reducible refine LeO.ite ?_ ?_)
   | (with_reducible refine LeO.bind ?_ (fun _ => ?_))
   | exact ih0 _ _
   | exact spec_IsValidVersion.mono _ _ _ _ _ _
   | exact LeO.none _
   | refine LeO.ite ?_ ?_
   | refine LeO.bind ?_ (fun _ => ?_)
set_option maxHeartbeats 8000000 in
set_option maxRecDepth 100000 in
theorem spec_IsValidChain.calls (k : Nat) (A0 : Option Addr) (c0 : Nat) (l0 : List (S76)) (r : Bool) (w : World) (hr0 : Kd.C k76 w A0 l0.length l0) (hc0 : l0.length ≤ c0) (h : spec_IsValidChain.f k l0 = some r) :
  Calls Try.prog 136 #[.slice A0 l0.length c0] w fun e w' => e = .returned (.bool r) ∧ Below w.heap.size w w' := by
 have hu76 := Try.underlying76
 have HR0 := AM_ hr0
 have HC0 := AM_ hc0
 clear hr0 hc0
 have HB := AM_ (Below.refl w.heap.size w)
 have H : (spec_IsValidChain.l0 k l0 0) = some r := h
 clear h
 have H' := AM_ H
 clear H
 go_enter Try.func136, Try.ntmps136
 go_wp2
 repeat (go_quiet (fail); try go_wp2)
 go_loopg [3] k (fun kq v3 w' => ∃ (x3_1 : Int), v3 = .int .i64 x3_1 ∧ Aside0 (spec_IsValidChain.l0 kq l0 x3_1 = some r) ∧ Aside0 (kq ≤ k) ∧ Aside0 (Below w.heap.size w w'))
 case atStart => exact ⟨(0), (by first | rfl | (simp; done) | (simp [*]; done)), H', ⟨Nat.le_refl _⟩, ⟨BT HB.out⟩⟩
 case round =>
  clear H'
  try clear c1
  obtain ⟨x3_1, rfl, HA, HK1, HB⟩ := hrel
  cases gk with
  | zero => exact absurd HA.out (by simp [spec_IsValidChain.l0])
  | succ k1 =>
   have H := HA.out
   clear HA
   simp only [spec_IsValidChain.l0] at H
   by_cases c2 : x3_1 < (l0.length : Int)
   rotate_left
   ·rw [if_neg c2] at H
    have c2b0 : decide (x3_1 < (l0.length : Int)) = false := decide_eq_false c2
    clear c2
    by_cases c16 : (l0.length : Int) > 0
    rotate_left
    ·rw [if_neg c16] at H
     have c16b0 : decide (0 < (l0.length : Int)) = false := decide_eq_false c16
     have c16b1 : decide (0 < l0.length) = false := decide_eq_false (by omega)
     clear c16
     obtain rfl := Option.some.inj H
     go_wp2
     repeat (go_quiet (fail); try go_wp2)
     go_ret
     exact QT (BT HB.out)
    rw [if_pos c16] at H
    have c16b0 : decide (0 < (l0.length : Int)) = true := decide_eq_true c16
    have c16b1 : decide (0 < l0.length) = true := decide_eq_true (by omega)
    clear c16
    obtain ⟨ji17, hji17⟩ : ∃ j_ : Int, (wrap64 ((l0.length : Int) - 1)) = j_ := ⟨_, rfl⟩
    replace H : (if 0 ≤ (ji17) then (if (ji17) < (l0.length : Int) then (some (((rd_T76 l0 (ji17)).f4) == 1000)) else (none)) else (none)) = some r := by first | (rw [hji17] at H; exact H) | (simp only [hji17] at H ⊢; exact H)
    have hji17w : (IntKind.i64.wrap ((l0.length : Int) - 1)) = ji17 := (i64_w _).trans hji17
    by_cases c18 : 0 ≤ (ji17)
    rotate_left
    ·rw [if_neg c18] at H
     exact absurd H (by simp)
    rw [if_pos c18] at H
    have c18b0 : decide (0 ≤ (ji17)) = true := decide_eq_true c18
    clear c18
    by_cases c19 : (ji17) < (l0.length : Int)
    rotate_left
    ·rw [if_neg c19] at H
     exact absurd H (by simp)
    rw [if_pos c19] at H
    have c19b0 : decide ((ji17) < (l0.length : Int)) = true := decide_eq_true c19
    clear c19
    obtain rfl := Option.some.inj H
    have p270 : 0 ≤ ((ji17) : Int) := DT
    have q270 : (ji17) < (l0.length : Int) := DT
    obtain ⟨ad270, e270, hx270_0, hx270_1, hx270_2, hx270_3, hx270_4⟩ := at_T76 HR0.out (ji17) p270 q270
    cases e270
    replace hx270_0 := BC HB.out hx270_0
    replace hx270_1 := BC HB.out hx270_1
    replace hx270_2 := BC HB.out hx270_2
    replace hx270_3 := BC HB.out hx270_3
    replace hx270_4 := BC HB.out hx270_4
    replace p270 := eq_true p270
    replace q270 := eq_true q270
    go_wp2
    repeat (go_quiet (fail); try go_wp2)
    go_ret
    exact ⟨by first | rfl | (simp [errW_none, errW_some] <;> rfl) | (simp only [← hji17]; first | rfl | (simp [errW_none, errW_some] <;> rfl)) | (simp [*, errW_none, errW_some] <;> rfl), BT HB.out⟩
   rw [if_pos c2] at H
   have c2b0 : decide (x3_1 < (l0.length : Int)) = true := decide_eq_true c2
   clear c2
   by_cases c3 : 0 ≤ x3_1
   rotate_left
   ·rw [if_neg c3] at H
    exact absurd H (by simp)
   rw [if_pos c3] at H
   have c3b0 : decide (0 ≤ x3_1) = true := decide_eq_true c3
   clear c3
   replace H := Option.bind_eq_some_iff.mp H
   obtain ⟨t272, A40, H⟩ := H
   replace H : (if t272 = true then (if (wrap64 (x3_1 + 1)) < (l0.length : Int) then (if 0 ≤ (wrap64 (x3_1 + 1)) then (if ((rd_T76 l0 x3_1).f2) ≥ ((rd_T76 l0 (wrap64 (x3_1 + 1))).f2) then (some false) else (if ((rd_T76 l0 x3_1).f4) > ((rd_T76 l0 (wrap64 (x3_1 + 1))).f2) then (some false) else (spec_IsValidChain.l0 k1 l0 (wrap64 (x3_1 + 1))))) else (none)) else (spec_IsValidChain.l0 k1 l0 (wrap64 (x3_1 + 1)))) else (some false)) = some r := H
   have A4 := AM_ A40
   clear A40
   by_cases c5 : t272 = true
   rotate_left
   ·replace c5 := Bool.eq_false_iff.mpr c5
    subst c5
    have H1 : (some false) = some r := by rw [if_neg (show ¬ (false = true) by decide)] at H; exact H
    clear H
    have H := H1
    clear H1
    obtain rfl := Option.some.inj H
    have p271 : 0 ≤ (x3_1 : Int) := DT
    have q271 : x3_1 < (l0.length : Int) := DT
    obtain ⟨ad271, e271, hx271_0, hx271_1, hx271_2, hx271_3, hx271_4⟩ := at_T76 HR0.out x3_1 p271 q271
    cases e271
    replace hx271_0 := BC HB.out hx271_0
    replace hx271_1 := BC HB.out hx271_1
    replace hx271_2 := BC HB.out hx271_2
    replace hx271_3 := BC HB.out hx271_3
    replace hx271_4 := BC HB.out hx271_4
    replace p271 := eq_true p271
    replace q271 := eq_true q271
    go_wp2_with (first | (go_at_call 194; (with_reducible refine (spec_IsValidVersion.calls k1 ((rd_T76 l0 x3_1).f0) ((rd_T76 l0 x3_1).f1) ((rd_T76 l0 x3_1).f2) ((rd_T76 l0 x3_1).f3) ((rd_T76 l0 x3_1).f4) false _ A4.out).mono ?_); rintro e w15 ⟨rfl, hb⟩; replace HB := AM_ (below_step (BT HB.out) hb); (try clear hb); (try clear hb2); (try clear hk); (try clear hi)))
    repeat (go_quiet (first | (go_at_call 194; (with_reducible refine (spec_IsValidVersion.calls k1 ((rd_T76 l0 x3_1).f0) ((rd_T76 l0 x3_1).f1) ((rd_T76 l0 x3_1).f2) ((rd_T76 l0 x3_1).f3) ((rd_T76 l0 x3_1).f4) false _ A4.out).mono ?_); rintro e w15 ⟨rfl, hb⟩; replace HB := AM_ (below_step (BT HB.out) hb); (try clear hb); (try clear hb2); (try clear hk); (try clear hi))); try go_wp2_with (first | (go_at_call 194; (with_reducible refine (spec_IsValidVersion.calls k1 ((rd_T76 l0 x3_1).f0) ((rd_T76 l0 x3_1).f1) ((rd_T76 l0 x3_1).f2) ((rd_T76 l0 x3_1).f3) ((rd_T76 l0 x3_1).f4) false _ A4.out).mono ?_); rintro e w15 ⟨rfl, hb⟩; replace HB := AM_ (below_step (BT HB.out) hb); (try clear hb); (try clear hb2); (try clear hk); (try clear hi))))
    go_ret
    exact QT (BT HB.out)
   subst c5
   have H1 : (if (wrap64 (x3_1 + 1)) < (l0.length : Int) then (if 0 ≤ (wrap64 (x3_1 + 1)) then (if ((rd_T76 l0 x3_1).f2) ≥ ((rd_T76 l0 (wrap64 (x3_1 + 1))).f2) then (some false) else (if ((rd_T76 l0 x3_1).f4) > ((rd_T76 l0 (wrap64 (x3_1 + 1))).f2) then (some false) else (spec_IsValidChain.l0 k1 l0 (wrap64 (x3_1 + 1))))) else (none)) else (spec_IsValidChain.l0 k1 l0 (wrap64 (x3_1 + 1)))) = some r := by rw [if_pos rfl] at H; exact H
   clear H
   have H := H1
   clear H1
   by_cases c6 : (wrap64 (x3_1 + 1)) < (l0.length : Int)
   rotate_left
   ·rw [if_neg c6] at H
    have c6b0 : decide ((wrap64 (x3_1 + 1)) < (l0.length : Int)) = false := decide_eq_false c6
    clear c6
    have H' := AM_ H
    clear H
    have p271 : 0 ≤ (x3_1 : Int) := DT
    have q271 : x3_1 < (l0.length : Int) := DT
    obtain ⟨ad271, e271, hx271_0, hx271_1, hx271_2, hx271_3, hx271_4⟩ := at_T76 HR0.out x3_1 p271 q271
    cases e271
    replace hx271_0 := BC HB.out hx271_0
    replace hx271_1 := BC HB.out hx271_1
    replace hx271_2 := BC HB.out hx271_2
    replace hx271_3 := BC HB.out hx271_3
    replace hx271_4 := BC HB.out hx271_4
    replace p271 := eq_true p271
    replace q271 := eq_true q271
    go_wp2_with (first | (go_at_call 194; (with_reducible refine (spec_IsValidVersion.calls k1 ((rd_T76 l0 x3_1).f0) ((rd_T76 l0 x3_1).f1) ((rd_T76 l0 x3_1).f2) ((rd_T76 l0 x3_1).f3) ((rd_T76 l0 x3_1).f4) true _ A4.out).mono ?_); rintro e w14 ⟨rfl, hb⟩; replace HB := AM_ (below_step (BT HB.out) hb); (try clear hb); (try clear hb2); (try clear hk); (try clear hi)))
    repeat (go_quiet (first | (go_at_call 194; (with_reducible refine (spec_IsValidVersion.calls k1 ((rd_T76 l0 x3_1).f0) ((rd_T76 l0 x3_1).f1) ((rd_T76 l0 x3_1).f2) ((rd_T76 l0 x3_1).f3) ((rd_T76 l0 x3_1).f4) true _ A4.out).mono ?_); rintro e w14 ⟨rfl, hb⟩; replace HB := AM_ (below_step (BT HB.out) hb); (try clear hb); (try clear hb2); (try clear hk); (try clear hi))); try go_wp2_with (first | (go_at_call 194; (with_reducible refine (spec_IsValidVersion.calls k1 ((rd_T76 l0 x3_1).f0) ((rd_T76 l0 x3_1).f1) ((rd_T76 l0 x3_1).f2) ((rd_T76 l0 x3_1).f3) ((rd_T76 l0 x3_1).f4) true _ A4.out).mono ?_); rintro e w14 ⟨rfl, hb⟩; replace HB := AM_ (below_step (BT HB.out) hb); (try clear hb); (try clear hb2); (try clear hk); (try clear hi))))
    go_roundg k1
    case measure => have := HK1.out; omega
    case rel => exact ⟨(wrap64 (x3_1 + 1)), (by first | rfl | (simp; done) | (simp [*]; done)), H', ⟨by have := HK1.out; omega⟩, ⟨BT HB.out⟩⟩
   rw [if_pos c6] at H
   have c6b0 : decide ((wrap64 (x3_1 + 1)) < (l0.length : Int)) = true := decide_eq_true c6
   clear c6
   obtain ⟨ji7, hji7⟩ : ∃ j_ : Int, (wrap64 (x3_1 + 1)) = j_ := ⟨_, rfl⟩
   replace H : (if 0 ≤ (ji7) then (if ((rd_T76 l0 x3_1).f2) ≥ ((rd_T76 l0 (ji7)).f2) then (some false) else (if ((rd_T76 l0 x3_1).f4) > ((rd_T76 l0 (ji7)).f2) then (some false) else (spec_IsValidChain.l0 k1 l0 ji7))) else (none)) = some r := by first | (rw [hji7] at H; exact H) | (simp only [hji7] at H ⊢; exact H)
   (try rw [hji7] at c6b0)
   (try rw [hji7] at A4)
   have hji7w : (IntKind.i64.wrap (x3_1 + 1)) = ji7 := (i64_w _).trans hji7
   by_cases c8 : 0 ≤ (ji7)
   rotate_left
   ·rw [if_neg c8] at H
    exact absurd H (by simp)
   rw [if_pos c8] at H
   have c8b0 : decide (0 ≤ (ji7)) = true := decide_eq_true c8
   clear c8
   by_cases c9 : ((rd_T76 l0 x3_1).f2) ≥ ((rd_T76 l0 (ji7)).f2)
   ·rw [if_pos c9] at H
    have c9b0 : decide (((rd_T76 l0 (ji7)).f2) ≤ ((rd_T76 l0 x3_1).f2)) = true := decide_eq_true c9
    clear c9
    obtain rfl := Option.some.inj H
    have p271 : 0 ≤ (x3_1 : Int) := DT
    have q271 : x3_1 < (l0.length : Int) := DT
    obtain ⟨ad271, e271, hx271_0, hx271_1, hx271_2, hx271_3, hx271_4⟩ := at_T76 HR0.out x3_1 p271 q271
    cases e271
    replace hx271_0 := BC HB.out hx271_0
    replace hx271_1 := BC HB.out hx271_1
    replace hx271_2 := BC HB.out hx271_2
    replace hx271_3 := BC HB.out hx271_3
    replace hx271_4 := BC HB.out hx271_4
    replace p271 := eq_true p271
    replace q271 := eq_true q271
    go_wp2_with (first | (go_at_call 194; (with_reducible refine (spec_IsValidVersion.calls k1 ((rd_T76 l0 x3_1).f0) ((rd_T76 l0 x3_1).f1) ((rd_T76 l0 x3_1).f2) ((rd_T76 l0 x3_1).f3) ((rd_T76 l0 x3_1).f4) true _ A4.out).mono ?_); rintro e w10 ⟨rfl, hb⟩; replace HB := AM_ (below_step (BT HB.out) hb); (try clear hb); (try clear hb2); (try clear hk); (try clear hi); have p273 : 0 ≤ (x3_1 : Int) := DT; have q273 : x3_1 < (l0.length : Int) := DT; obtain ⟨ad273, e273, hx273_0, hx273_1, hx273_2, hx273_3, hx273_4⟩ := at_T76 HR0.out x3_1 p273 q273; obtain rfl : ad271 = ad273 := (by injection e273); replace hx273_0 := BD HB.out hx273_0; replace hx273_1 := BD HB.out hx273_1; replace hx273_2 := BD HB.out hx273_2; replace hx273_3 := BD HB.out hx273_3; replace hx273_4 := BD HB.out hx273_4; replace p273 := eq_true p273; replace q273 := eq_true q273; have p274 : 0 ≤ ((ji7) : Int) := DT; have q274 : (ji7) < (l0.length : Int) := DT; obtain ⟨ad274, e274, hx274_0, hx274_1, hx274_2, hx274_3, hx274_4⟩ := at_T76 HR0.out (ji7) p274 q274; obtain rfl : ad271 = ad274 := (by injection e274); replace hx274_0 := BD HB.out hx274_0; replace hx274_1 := BD HB.out hx274_1; replace hx274_2 := BD HB.out hx274_2; replace hx274_3 := BD HB.out hx274_3; replace hx274_4 := BD HB.out hx274_4; replace p274 := eq_true p274; replace q274 := eq_true q274))
    repeat (go_quiet (first | (go_at_call 194; (with_reducible refine (spec_IsValidVersion.calls k1 ((rd_T76 l0 x3_1).f0) ((rd_T76 l0 x3_1).f1) ((rd_T76 l0 x3_1).f2) ((rd_T76 l0 x3_1).f3) ((rd_T76 l0 x3_1).f4) true _ A4.out).mono ?_); rintro e w10 ⟨rfl, hb⟩; replace HB := AM_ (below_step (BT HB.out) hb); (try clear hb); (try clear hb2); (try clear hk); (try clear hi); have p273 : 0 ≤ (x3_1 : Int) := DT; have q273 : x3_1 < (l0.length : Int) := DT; obtain ⟨ad273, e273, hx273_0, hx273_1, hx273_2, hx273_3, hx273_4⟩ := at_T76 HR0.out x3_1 p273 q273; obtain rfl : ad271 = ad273 := (by injection e273); replace hx273_0 := BD HB.out hx273_0; replace hx273_1 := BD HB.out hx273_1; replace hx273_2 := BD HB.out hx273_2; replace hx273_3 := BD HB.out hx273_3; replace hx273_4 := BD HB.out hx273_4; replace p273 := eq_true p273; replace q273 := eq_true q273; have p274 : 0 ≤ ((ji7) : Int) := DT; have q274 : (ji7) < (l0.length : Int) := DT; obtain ⟨ad274, e274, hx274_0, hx274_1, hx274_2, hx274_3, hx274_4⟩ := at_T76 HR0.out (ji7) p274 q274; obtain rfl : ad271 = ad274 := (by injection e274); replace hx274_0 := BD HB.out hx274_0; replace hx274_1 := BD HB.out hx274_1; replace hx274_2 := BD HB.out hx274_2; replace hx274_3 := BD HB.out hx274_3; replace hx274_4 := BD HB.out hx274_4; replace p274 := eq_true p274; replace q274 := eq_true q274)); try go_wp2_with (first | (go_at_call 194; (with_reducible refine (spec_IsValidVersion.calls k1 ((rd_T76 l0 x3_1).f0) ((rd_T76 l0 x3_1).f1) ((rd_T76 l0 x3_1).f2) ((rd_T76 l0 x3_1).f3) ((rd_T76 l0 x3_1).f4) true _ A4.out).mono ?_); rintro e w10 ⟨rfl, hb⟩; replace HB := AM_ (below_step (BT HB.out) hb); (try clear hb); (try clear hb2); (try clear hk); (try clear hi); have p273 : 0 ≤ (x3_1 : Int) := DT; have q273 : x3_1 < (l0.length : Int) := DT; obtain ⟨ad273, e273, hx273_0, hx273_1, hx273_2, hx273_3, hx273_4⟩ := at_T76 HR0.out x3_1 p273 q273; obtain rfl : ad271 = ad273 := (by injection e273); replace hx273_0 := BD HB.out hx273_0; replace hx273_1 := BD HB.out hx273_1; replace hx273_2 := BD HB.out hx273_2; replace hx273_3 := BD HB.out hx273_3; replace hx273_4 := BD HB.out hx273_4; replace p273 := eq_true p273; replace q273 := eq_true q273; have p274 : 0 ≤ ((ji7) : Int) := DT; have q274 : (ji7) < (l0.length : Int) := DT; obtain ⟨ad274, e274, hx274_0, hx274_1, hx274_2, hx274_3, hx274_4⟩ := at_T76 HR0.out (ji7) p274 q274; obtain rfl : ad271 = ad274 := (by injection e274); replace hx274_0 := BD HB.out hx274_0; replace hx274_1 := BD HB.out hx274_1; replace hx274_2 := BD HB.out hx274_2; replace hx274_3 := BD HB.out hx274_3; replace hx274_4 := BD HB.out hx274_4; replace p274 := eq_true p274; replace q274 := eq_true q274)))
    go_ret
    exact ⟨by first | rfl | (simp [errW_none, errW_some] <;> rfl) | (simp only [← hji7]; first | rfl | (simp [errW_none, errW_some] <;> rfl)) | (simp [*, errW_none, errW_some] <;> rfl), BT HB.out⟩
   rw [if_neg c9] at H
   have c9b0 : decide (((rd_T76 l0 (ji7)).f2) ≤ ((rd_T76 l0 x3_1).f2)) = false := decide_eq_false c9
   clear c9
   by_cases c11 : ((rd_T76 l0 x3_1).f4) > ((rd_T76 l0 (ji7)).f2)
   ·rw [if_pos c11] at H
    have c11b0 : decide (((rd_T76 l0 (ji7)).f2) < ((rd_T76 l0 x3_1).f4)) = true := decide_eq_true c11
    clear c11
    obtain rfl := Option.some.inj H
    have p271 : 0 ≤ (x3_1 : Int) := DT
    have q271 : x3_1 < (l0.length : Int) := DT
    obtain ⟨ad271, e271, hx271_0, hx271_1, hx271_2, hx271_3, hx271_4⟩ := at_T76 HR0.out x3_1 p271 q271
    cases e271
    replace hx271_0 := BC HB.out hx271_0
    replace hx271_1 := BC HB.out hx271_1
    replace hx271_2 := BC HB.out hx271_2
    replace hx271_3 := BC HB.out hx271_3
    replace hx271_4 := BC HB.out hx271_4
    replace p271 := eq_true p271
    replace q271 := eq_true q271
    go_wp2_with (first | (go_at_call 194; (with_reducible refine (spec_IsValidVersion.calls k1 ((rd_T76 l0 x3_1).f0) ((rd_T76 l0 x3_1).f1) ((rd_T76 l0 x3_1).f2) ((rd_T76 l0 x3_1).f3) ((rd_T76 l0 x3_1).f4) true _ A4.out).mono ?_); rintro e w12 ⟨rfl, hb⟩; replace HB := AM_ (below_step (BT HB.out) hb); (try clear hb); (try clear hb2); (try clear hk); (try clear hi); have p273 : 0 ≤ (x3_1 : Int) := DT; have q273 : x3_1 < (l0.length : Int) := DT; obtain ⟨ad273, e273, hx273_0, hx273_1, hx273_2, hx273_3, hx273_4⟩ := at_T76 HR0.out x3_1 p273 q273; obtain rfl : ad271 = ad273 := (by injection e273); replace hx273_0 := BD HB.out hx273_0; replace hx273_1 := BD HB.out hx273_1; replace hx273_2 := BD HB.out hx273_2; replace hx273_3 := BD HB.out hx273_3; replace hx273_4 := BD HB.out hx273_4; replace p273 := eq_true p273; replace q273 := eq_true q273; have p274 : 0 ≤ ((ji7) : Int) := DT; have q274 : (ji7) < (l0.length : Int) := DT; obtain ⟨ad274, e274, hx274_0, hx274_1, hx274_2, hx274_3, hx274_4⟩ := at_T76 HR0.out (ji7) p274 q274; obtain rfl : ad271 = ad274 := (by injection e274); replace hx274_0 := BD HB.out hx274_0; replace hx274_1 := BD HB.out hx274_1; replace hx274_2 := BD HB.out hx274_2; replace hx274_3 := BD HB.out hx274_3; replace hx274_4 := BD HB.out hx274_4; replace p274 := eq_true p274; replace q274 := eq_true q274; have p275 : 0 ≤ (x3_1 : Int) := DT; have q275 : x3_1 < (l0.length : Int) := DT; obtain ⟨ad275, e275, hx275_0, hx275_1, hx275_2, hx275_3, hx275_4⟩ := at_T76 HR0.out x3_1 p275 q275; obtain rfl : ad271 = ad275 := (by injection e275); replace hx275_0 := BD HB.out hx275_0; replace hx275_1 := BD HB.out hx275_1; replace hx275_2 := BD HB.out hx275_2; replace hx275_3 := BD HB.out hx275_3; replace hx275_4 := BD HB.out hx275_4; replace p275 := eq_true p275; replace q275 := eq_true q275; have p276 : 0 ≤ ((ji7) : Int) := DT; have q276 : (ji7) < (l0.length : Int) := DT; obtain ⟨ad276, e276, hx276_0, hx276_1, hx276_2, hx276_3, hx276_4⟩ := at_T76 HR0.out (ji7) p276 q276; obtain rfl : ad271 = ad276 := (by injection e276); replace hx276_0 := BD HB.out hx276_0; replace hx276_1 := BD HB.out hx276_1; replace hx276_2 := BD HB.out hx276_2; replace hx276_3 := BD HB.out hx276_3; replace hx276_4 := BD HB.out hx276_4; replace p276 := eq_true p276; replace q276 := eq_true q276))
    repeat (go_quiet (first | (go_at_call 194; (with_reducible refine (spec_IsValidVersion.calls k1 ((rd_T76 l0 x3_1).f0) ((rd_T76 l0 x3_1).f1) ((rd_T76 l0 x3_1).f2) ((rd_T76 l0 x3_1).f3) ((rd_T76 l0 x3_1).f4) true _ A4.out).mono ?_); rintro e w12 ⟨rfl, hb⟩; replace HB := AM_ (below_step (BT HB.out) hb); (try clear hb); (try clear hb2); (try clear hk); (try clear hi); have p273 : 0 ≤ (x3_1 : Int) := DT; have q273 : x3_1 < (l0.length : Int) := DT; obtain ⟨ad273, e273, hx273_0, hx273_1, hx273_2, hx273_3, hx273_4⟩ := at_T76 HR0.out x3_1 p273 q273; obtain rfl : ad271 = ad273 := (by injection e273); replace hx273_0 := BD HB.out hx273_0; replace hx273_1 := BD HB.out hx273_1; replace hx273_2 := BD HB.out hx273_2; replace hx273_3 := BD HB.out hx273_3; replace hx273_4 := BD HB.out hx273_4; replace p273 := eq_true p273; replace q273 := eq_true q273; have p274 : 0 ≤ ((ji7) : Int) := DT; have q274 : (ji7) < (l0.length : Int) := DT; obtain ⟨ad274, e274, hx274_0, hx274_1, hx274_2, hx274_3, hx274_4⟩ := at_T76 HR0.out (ji7) p274 q274; obtain rfl : ad271 = ad274 := (by injection e274); replace hx274_0 := BD HB.out hx274_0; replace hx274_1 := BD HB.out hx274_1; replace hx274_2 := BD HB.out hx274_2; replace hx274_3 := BD HB.out hx274_3; replace hx274_4 := BD HB.out hx274_4; replace p274 := eq_true p274; replace q274 := eq_true q274; have p275 : 0 ≤ (x3_1 : Int) := DT; have q275 : x3_1 < (l0.length : Int) := DT; obtain ⟨ad275, e275, hx275_0, hx275_1, hx275_2, hx275_3, hx275_4⟩ := at_T76 HR0.out x3_1 p275 q275; obtain rfl : ad271 = ad275 := (by injection e275); replace hx275_0 := BD HB.out hx275_0; replace hx275_1 := BD HB.out hx275_1; replace hx275_2 := BD HB.out hx275_2; replace hx275_3 := BD HB.out hx275_3; replace hx275_4 := BD HB.out hx275_4; replace p275 := eq_true p275; replace q275 := eq_true q275; have p276 : 0 ≤ ((ji7) : Int) := DT; have q276 : (ji7) < (l0.length : Int) := DT; obtain ⟨ad276, e276, hx276_0, hx276_1, hx276_2, hx276_3, hx276_4⟩ := at_T76 HR0.out (ji7) p276 q276; obtain rfl : ad271 = ad276 := (by injection e276); replace hx276_0 := BD HB.out hx276_0; replace hx276_1 := BD HB.out hx276_1; replace hx276_2 := BD HB.out hx276_2; replace hx276_3 := BD HB.out hx276_3; replace hx276_4 := BD HB.out hx276_4; replace p276 := eq_true p276; replace q276 := eq_true q276)); try go_wp2_with (first | (go_at_call 194; (with_reducible refine (spec_IsValidVersion.calls k1 ((rd_T76 l0 x3_1).f0) ((rd_T76 l0 x3_1).f1) ((rd_T76 l0 x3_1).f2) ((rd_T76 l0 x3_1).f3) ((rd_T76 l0 x3_1).f4) true _ A4.out).mono ?_); rintro e w12 ⟨rfl, hb⟩; replace HB := AM_ (below_step (BT HB.out) hb); (try clear hb); (try clear hb2); (try clear hk); (try clear hi); have p273 : 0 ≤ (x3_1 : Int) := DT; have q273 : x3_1 < (l0.length : Int) := DT; obtain ⟨ad273, e273, hx273_0, hx273_1, hx273_2, hx273_3, hx273_4⟩ := at_T76 HR0.out x3_1 p273 q273; obtain rfl : ad271 = ad273 := (by injection e273); replace hx273_0 := BD HB.out hx273_0; replace hx273_1 := BD HB.out hx273_1; replace hx273_2 := BD HB.out hx273_2; replace hx273_3 := BD HB.out hx273_3; replace hx273_4 := BD HB.out hx273_4; replace p273 := eq_true p273; replace q273 := eq_true q273; have p274 : 0 ≤ ((ji7) : Int) := DT; have q274 : (ji7) < (l0.length : Int) := DT; obtain ⟨ad274, e274, hx274_0, hx274_1, hx274_2, hx274_3, hx274_4⟩ := at_T76 HR0.out (ji7) p274 q274; obtain rfl : ad271 = ad274 := (by injection e274); replace hx274_0 := BD HB.out hx274_0; replace hx274_1 := BD HB.out hx274_1; replace hx274_2 := BD HB.out hx274_2; replace hx274_3 := BD HB.out hx274_3; replace hx274_4 := BD HB.out hx274_4; replace p274 := eq_true p274; replace q274 := eq_true q274; have p275 : 0 ≤ (x3_1 : Int) := DT; have q275 : x3_1 < (l0.length : Int) := DT; obtain ⟨ad275, e275, hx275_0, hx275_1, hx275_2, hx275_3, hx275_4⟩ := at_T76 HR0.out x3_1 p275 q275; obtain rfl : ad271 = ad275 := (by injection e275); replace hx275_0 := BD HB.out hx275_0; replace hx275_1 := BD HB.out hx275_1; replace hx275_2 := BD HB.out hx275_2; replace hx275_3 := BD HB.out hx275_3; replace hx275_4 := BD HB.out hx275_4; replace p275 := eq_true p275; replace q275 := eq_true q275; have p276 : 0 ≤ ((ji7) : Int) := DT; have q276 : (ji7) < (l0.length : Int) := DT; obtain ⟨ad276, e276, hx276_0, hx276_1, hx276_2, hx276_3, hx276_4⟩ := at_T76 HR0.out (ji7) p276 q276; obtain rfl : ad271 = ad276 := (by injection e276); replace hx276_0 := BD HB.out hx276_0; replace hx276_1 := BD HB.out hx276_1; replace hx276_2 := BD HB.out hx276_2; replace hx276_3 := BD HB.out hx276_3; replace hx276_4 := BD HB.out hx276_4; replace p276 := eq_true p276; replace q276 := eq_true q276)))
    go_ret
    exact ⟨by first | rfl | (simp [errW_none, errW_some] <;> rfl) | (simp only [← hji7]; first | rfl | (simp [errW_none, errW_some] <;> rfl)) | (simp [*, errW_none, errW_some] <;> rfl), BT HB.out⟩
   rw [if_neg c11] at H
   have c11b0 : decide (((rd_T76 l0 (ji7)).f2) < ((rd_T76 l0 x3_1).f4)) = false := decide_eq_false c11
   clear c11
   have H' := AM_ H
   clear H
   have p271 : 0 ≤ (x3_1 : Int) := DT
   have q271 : x3_1 < (l0.length : Int) := DT
   obtain ⟨ad271, e271, hx271_0, hx271_1, hx271_2, hx271_3, hx271_4⟩ := at_T76 HR0.out x3_1 p271 q271
   cases e271
   replace hx271_0 := BC HB.out hx271_0
   replace hx271_1 := BC HB.out hx271_1
   replace hx271_2 := BC HB.out hx271_2
   replace hx271_3 := BC HB.out hx271_3
   replace hx271_4 := BC HB.out hx271_4
   replace p271 := eq_true p271
   replace q271 := eq_true q271
   go_wp2_with (first | (go_at_call 194; (with_reducible refine (spec_IsValidVersion.calls k1 ((rd_T76 l0 x3_1).f0) ((rd_T76 l0 x3_1).f1) ((rd_T76 l0 x3_1).f2) ((rd_T76 l0 x3_1).f3) ((rd_T76 l0 x3_1).f4) true _ A4.out).mono ?_); rintro e w13 ⟨rfl, hb⟩; replace HB := AM_ (below_step (BT HB.out) hb); (try clear hb); (try clear hb2); (try clear hk); (try clear hi); have p273 : 0 ≤ (x3_1 : Int) := DT; have q273 : x3_1 < (l0.length : Int) := DT; obtain ⟨ad273, e273, hx273_0, hx273_1, hx273_2, hx273_3, hx273_4⟩ := at_T76 HR0.out x3_1 p273 q273; obtain rfl : ad271 = ad273 := (by injection e273); replace hx273_0 := BD HB.out hx273_0; replace hx273_1 := BD HB.out hx273_1; replace hx273_2 := BD HB.out hx273_2; replace hx273_3 := BD HB.out hx273_3; replace hx273_4 := BD HB.out hx273_4; replace p273 := eq_true p273; replace q273 := eq_true q273; have p274 : 0 ≤ ((ji7) : Int) := DT; have q274 : (ji7) < (l0.length : Int) := DT; obtain ⟨ad274, e274, hx274_0, hx274_1, hx274_2, hx274_3, hx274_4⟩ := at_T76 HR0.out (ji7) p274 q274; obtain rfl : ad271 = ad274 := (by injection e274); replace hx274_0 := BD HB.out hx274_0; replace hx274_1 := BD HB.out hx274_1; replace hx274_2 := BD HB.out hx274_2; replace hx274_3 := BD HB.out hx274_3; replace hx274_4 := BD HB.out hx274_4; replace p274 := eq_true p274; replace q274 := eq_true q274; have p275 : 0 ≤ (x3_1 : Int) := DT; have q275 : x3_1 < (l0.length : Int) := DT; obtain ⟨ad275, e275, hx275_0, hx275_1, hx275_2, hx275_3, hx275_4⟩ := at_T76 HR0.out x3_1 p275 q275; obtain rfl : ad271 = ad275 := (by injection e275); replace hx275_0 := BD HB.out hx275_0; replace hx275_1 := BD HB.out hx275_1; replace hx275_2 := BD HB.out hx275_2; replace hx275_3 := BD HB.out hx275_3; replace hx275_4 := BD HB.out hx275_4; replace p275 := eq_true p275; replace q275 := eq_true q275; have p276 : 0 ≤ ((ji7) : Int) := DT; have q276 : (ji7) < (l0.length : Int) := DT; obtain ⟨ad276, e276, hx276_0, hx276_1, hx276_2, hx276_3, hx276_4⟩ := at_T76 HR0.out (ji7) p276 q276; obtain rfl : ad271 = ad276 := (by injection e276); replace hx276_0 := BD HB.out hx276_0; replace hx276_1 := BD HB.out hx276_1; replace hx276_2 := BD HB.out hx276_2; replace hx276_3 := BD HB.out hx276_3; replace hx276_4 := BD HB.out hx276_4; replace p276 := eq_true p276; replace q276 := eq_true q276))
   repeat (go_quiet (first | (go_at_call 194; (with_reducible refine (spec_IsValidVersion.calls k1 ((rd_T76 l0 x3_1).f0) ((rd_T76 l0 x3_1).f1) ((rd_T76 l0 x3_1).f2) ((rd_T76 l0 x3_1).f3) ((rd_T76 l0 x3_1).f4) true _ A4.out).mono ?_); rintro e w13 ⟨rfl, hb⟩; replace HB := AM_ (below_step (BT HB.out) hb); (try clear hb); (try clear hb2); (try clear hk); (try clear hi); have p273 : 0 ≤ (x3_1 : Int) := DT; have q273 : x3_1 < (l0.length : Int) := DT; obtain ⟨ad273, e273, hx273_0, hx273_1, hx273_2, hx273_3, hx273_4⟩ := at_T76 HR0.out x3_1 p273 q273; obtain rfl : ad271 = ad273 := (by injection e273); replace hx273_0 := BD HB.out hx273_0; replace hx273_1 := BD HB.out hx273_1; replace hx273_2 := BD HB.out hx273_2; replace hx273_3 := BD HB.out hx273_3; replace hx273_4 := BD HB.out hx273_4; replace p273 := eq_true p273; replace q273 := eq_true q273; have p274 : 0 ≤ ((ji7) : Int) := DT; have q274 : (ji7) < (l0.length : Int) := DT; obtain ⟨ad274, e274, hx274_0, hx274_1, hx274_2, hx274_3, hx274_4⟩ := at_T76 HR0.out (ji7) p274 q274; obtain rfl : ad271 = ad274 := (by injection e274); replace hx274_0 := BD HB.out hx274_0; replace hx274_1 := BD HB.out hx274_1; replace hx274_2 := BD HB.out hx274_2; replace hx274_3 := BD HB.out hx274_3; replace hx274_4 := BD HB.out hx274_4; replace p274 := eq_true p274; replace q274 := eq_true q274; have p275 : 0 ≤ (x3_1 : Int) := DT; have q275 : x3_1 < (l0.length : Int) := DT; obtain ⟨ad275, e275, hx275_0, hx275_1, hx275_2, hx275_3, hx275_4⟩ := at_T76 HR0.out x3_1 p275 q275; obtain rfl : ad271 = ad275 := (by injection e275); replace hx275_0 := BD HB.out hx275_0; replace hx275_1 := BD HB.out hx275_1; replace hx275_2 := BD HB.out hx275_2; replace hx275_3 := BD HB.out hx275_3; replace hx275_4 := BD HB.out hx275_4; replace p275 := eq_true p275; replace q275 := eq_true q275; have p276 : 0 ≤ ((ji7) : Int) := DT; have q276 : (ji7) < (l0.length : Int) := DT; obtain ⟨ad276, e276, hx276_0, hx276_1, hx276_2, hx276_3, hx276_4⟩ := at_T76 HR0.out (ji7) p276 q276; obtain rfl : ad271 = ad276 := (by injection e276); replace hx276_0 := BD HB.out hx276_0; replace hx276_1 := BD HB.out hx276_1; replace hx276_2 := BD HB.out hx276_2; replace hx276_3 := BD HB.out hx276_3; replace hx276_4 := BD HB.out hx276_4; replace p276 := eq_true p276; replace q276 := eq_true q276)); try go_wp2_with (first | (go_at_call 194; (with_reducible refine (spec_IsValidVersion.calls k1 ((rd_T76 l0 x3_1).f0) ((rd_T76 l0 x3_1).f1) ((rd_T76 l0 x3_1).f2) ((rd_T76 l0 x3_1).f3) ((rd_T76 l0 x3_1).f4) true _ A4.out).mono ?_); rintro e w13 ⟨rfl, hb⟩; replace HB := AM_ (below_step (BT HB.out) hb); (try clear hb); (try clear hb2); (try clear hk); (try clear hi); have p273 : 0 ≤ (x3_1 : Int) := DT; have q273 : x3_1 < (l0.length : Int) := DT; obtain ⟨ad273, e273, hx273_0, hx273_1, hx273_2, hx273_3, hx273_4⟩ := at_T76 HR0.out x3_1 p273 q273; obtain rfl : ad271 = ad273 := (by injection e273); replace hx273_0 := BD HB.out hx273_0; replace hx273_1 := BD HB.out hx273_1; replace hx273_2 := BD HB.out hx273_2; replace hx273_3 := BD HB.out hx273_3; replace hx273_4 := BD HB.out hx273_4; replace p273 := eq_true p273; replace q273 := eq_true q273; have p274 : 0 ≤ ((ji7) : Int) := DT; have q274 : (ji7) < (l0.length : Int) := DT; obtain ⟨ad274, e274, hx274_0, hx274_1, hx274_2, hx274_3, hx274_4⟩ := at_T76 HR0.out (ji7) p274 q274; obtain rfl : ad271 = ad274 := (by injection e274); replace hx274_0 := BD HB.out hx274_0; replace hx274_1 := BD HB.out hx274_1; replace hx274_2 := BD HB.out hx274_2; replace hx274_3 := BD HB.out hx274_3; replace hx274_4 := BD HB.out hx274_4; replace p274 := eq_true p274; replace q274 := eq_true q274; have p275 : 0 ≤ (x3_1 : Int) := DT; have q275 : x3_1 < (l0.length : Int) := DT; obtain ⟨ad275, e275, hx275_0, hx275_1, hx275_2, hx275_3, hx275_4⟩ := at_T76 HR0.out x3_1 p275 q275; obtain rfl : ad271 = ad275 := (by injection e275); replace hx275_0 := BD HB.out hx275_0; replace hx275_1 := BD HB.out hx275_1; replace hx275_2 := BD HB.out hx275_2; replace hx275_3 := BD HB.out hx275_3; replace hx275_4 := BD HB.out hx275_4; replace p275 := eq_true p275; replace q275 := eq_true q275; have p276 : 0 ≤ ((ji7) : Int) := DT; have q276 : (ji7) < (l0.length : Int) := DT; obtain ⟨ad276, e276, hx276_0, hx276_1, hx276_2, hx276_3, hx276_4⟩ := at_T76 HR0.out (ji7) p276 q276; obtain rfl : ad271 = ad276 := (by injection e276); replace hx276_0 := BD HB.out hx276_0; replace hx276_1 := BD HB.out hx276_1; replace hx276_2 := BD HB.out hx276_2; replace hx276_3 := BD HB.out hx276_3; replace hx276_4 := BD HB.out hx276_4; replace p276 := eq_true p276; replace q276 := eq_true q276)))
   go_roundg k1
   case measure => have := HK1.out; omega
   case rel => exact ⟨(ji7), (by first | rfl | (simp; done) | (simp only [← hji7] <;> (first | rfl | simp)) | (simp [*]; done)), H', ⟨by have := HK1.out; omega⟩, ⟨BT HB.out⟩⟩

/-! ### spec_LatestVersion: function 55 -/
def spec_LatestVersion.f (k : Nat) (l0 : List (S76)) : Option (Int × Int × Int × Int × Int) := (spec_IsValidChain.f k l0).bind fun t278 => (if t278 = true then (if 0 ≤ (wrap64 ((l0.length : Int) - 1)) then (if (wrap64 ((l0.length : Int) - 1)) < (l0.length : Int) then (some ((rd_T76 l0 (wrap64 ((l0.length : Int) - 1))).f0, (rd_T76 l0 (wrap64 ((l0.length : Int) - 1))).f1, (rd_T76 l0 (wrap64 ((l0.length : Int) - 1))).f2, (rd_T76 l0 (wrap64 ((l0.length : Int) - 1))).f3, (rd_T76 l0 (wrap64 ((l0.length : Int) - 1))).f4)) else (none)) else (none)) else (some (0, 0, 0, 0, 0)))
theorem spec_LatestVersion.mono : ∀ a0 k, LeO (spec_LatestVersion.f k a0) (spec_LatestVersion.f (k + 1) a0) := by
 intro a0 k
 unfold spec_LatestVersion.f
 repeat' first
   | (with_reducible exact spec_IsValidChain.mono _ _)
   | (with_reducible exact LeO.refl _)
   | (with_reducible exact LeO.none _)
   | (with_reducible refine LeO.ite ?_ ?_)
   | (with_reducible refine LeO.bind ?_ (fun _ => ?_))
   | exact spec_IsValidChain.mono _ _
   | exact LeO.none _
   | refine LeO.ite ?_ ?_
   | refine LeO.bind ?_ (fun _ => ?_)
set_option maxHeartbeats 8000000 in
set_option maxRecDepth 100000 in
theorem spec_LatestVersion.calls (k : Nat) (A0 : Option Addr) (c0 : Nat) (l0 : List (S76)) (r1 : Int) (r2 : Int) (r3 : Int) (r4 : Int) (r5 : Int) (w : World) (hr0 : Kd.C k76 w A0 l0.length l0) (hc0 : l0.length ≤ c0) (h : spec_LatestVersion.f k l0 = some (r1, r2, r3, r4, r5)) :
  Calls Try.prog 55 #[.slice A0 l0.length c0] w fun e w' => e = .returned (.agg #[.int .i64 r1, .int .i64 r2, .int .i64 r3, .int .i64 r4, .int .i64 r5]) ∧ Below w.heap.size w w' := by
 have hu76 := Try.underlying76
 have HR0 := AM_ hr0
 have HC0 := AM_ hc0
 clear hr0 hc0
 have HB := AM_ (Below.refl w.heap.size w)
 have H : ((spec_IsValidChain.f k l0).bind fun t278 => (if t278 = true then (if 0 ≤ (wrap64 ((l0.length : Int) - 1)) then (if (wrap64 ((l0.length : Int) - 1)) < (l0.length : Int) then (some ((rd_T76 l0 (wrap64 ((l0.length : Int) - 1))).f0, (rd_T76 l0 (wrap64 ((l0.length : Int) - 1))).f1, (rd_T76 l0 (wrap64 ((l0.length : Int) - 1))).f2, (rd_T76 l0 (wrap64 ((l0.length : Int) - 1))).f3, (rd_T76 l0 (wrap64 ((l0.length : Int) - 1))).f4)) else (none)) else (none)) else (some (0, 0, 0, 0, 0)))) = some (r1, r2, r3, r4, r5) := h
 clear h
 replace H := Option.bind_eq_some_iff.mp H
 obtain ⟨t278, A20, H⟩ := H
 replace H : (if t278 = true then (if 0 ≤ (wrap64 ((l0.length : Int) - 1)) then (if (wrap64 ((l0.length : Int) - 1)) < (l0.length : Int) then (some ((rd_T76 l0 (wrap64 ((l0.length : Int) - 1))).f0, (rd_T76 l0 (wrap64 ((l0.length : Int) - 1))).f1, (rd_T76 l0 (wrap64 ((l0.length : Int) - 1))).f2, (rd_T76 l0 (wrap64 ((l0.length : Int) - 1))).f3, (rd_T76 l0 (wrap64 ((l0.length : Int) - 1))).f4)) else (none)) else (none)) else (some (0, 0, 0, 0, 0))) = some (r1, r2, r3, r4, r5) := H
 have A2 := AM_ A20
 clear A20
 by_cases c3 : t278 = true
 rotate_left
 ·replace c3 := Bool.eq_false_iff.mpr c3
  subst c3
  have H1 : (some (0, 0, 0, 0, 0)) = some (r1, r2, r3, r4, r5) := by rw [if_neg (show ¬ (false = true) by decide)] at H; exact H
  clear H
  have H := H1
  clear H1
  simp only [Option.some.injEq, Prod.mk.injEq] at H
  obtain ⟨rfl, rfl, rfl, rfl, rfl⟩ := H
  go_enter Try.func55, Try.ntmps55
  go_wp2_with (first | ((with_reducible refine gate_dst (N := 2) rfl ?_); refine box_event ?hg (N := 2) ?hd (cs := #[.int .i64 0, .int .i64 0, .int .i64 0, .int .i64 0, .int .i64 0]) (t := 76) ?hr ?_; (case hd => rfl); (case hg => rfl); (case hr => first | (go_simp; done) | (go_simp; rfl)); intro gb277 hg w10 hbox hb; have BK277 := AM_ (hbox); have GW277 := AM_ ((GS HB.out hg)); have GE277 := AM_ ((GS HB.out hg)); replace HB := AM_ (below_step (BT HB.out) hb); clear hb hbox hg) | ((with_reducible refine gate_callee (f := 136) rfl ?_); refine goesL_ (some 4) rfl rfl Try.func136 (by kernel_rfl) rfl #[.slice A0 l0.length c0] rfl (by (try simp only [List.map_toArray, List.map_cons, List.map_nil]); first | done | rfl | (simp only [List.length_drop, List.length_take]; rfl)) ?_; (with_reducible refine (spec_IsValidChain.calls k _ _ l0 false _ ?side1 ?side2 A2.out).mono ?_); (case side1 => exact CB HR0.out HB.out); (case side2 => exact HC0.out); rintro e w11 ⟨rfl, hb⟩; refine ⟨_, rfl, ?_⟩; replace BK277 := AM_ (BB BK277.out hb); replace HB := AM_ (below_step (BT HB.out) hb); (try clear hb); (try clear hb2); (try clear hk); (try clear hi); obtain ⟨hcz12_0, hcz12_1, hcz12_2, hcz12_3, hcz12_4, hfz12_0, hfz12_1, hfz12_2, hfz12_3, hfz12_4⟩ := bk5 BK277.out))
  refine bodyPost_ret (results_cell_row rfl _ _ gb277 76 #[.int .i64 0, .int .i64 0, .int .i64 0, .int .i64 0, .int .i64 0] (0, 0) _ rfl (by (with_reducible repeat (first | refine blk_drewN ?_ _ | refine blk_drew ?_ | refine blk_alloc ?_ _)); refine blk_put (cs := #[.int .i64 0, .int .i64 0, .int .i64 0, .int .i64 0, .int .i64 0]) ?_ 4 _ rfl; (with_reducible repeat (first | refine blk_drewN ?_ _ | refine blk_drew ?_ | refine blk_alloc ?_ _)); refine blk_put (cs := #[.int .i64 0, .int .i64 0, .int .i64 0, .int .i64 0, .int .i64 0]) ?_ 3 _ rfl; (with_reducible repeat (first | refine blk_drewN ?_ _ | refine blk_drew ?_ | refine blk_alloc ?_ _)); refine blk_put (cs := #[.int .i64 0, .int .i64 0, .int .i64 0, .int .i64 0, .int .i64 0]) ?_ 2 _ rfl; (with_reducible repeat (first | refine blk_drewN ?_ _ | refine blk_drew ?_ | refine blk_alloc ?_ _)); refine blk_put (cs := #[.int .i64 0, .int .i64 0, .int .i64 0, .int .i64 0, .int .i64 0]) ?_ 1 _ rfl; (with_reducible repeat (first | refine blk_drewN ?_ _ | refine blk_drew ?_ | refine blk_alloc ?_ _)); refine blk_put (cs := #[.int .i64 0, .int .i64 0, .int .i64 0, .int .i64 0, .int .i64 0]) ?_ 0 _ rfl; (with_reducible repeat (first | refine blk_drewN ?_ _ | refine blk_drew ?_ | refine blk_alloc ?_ _)); exact BK277.out) Try.underlying76 rfl (by kernel_rfl)) rfl ?_
  exact QT (BT HB.out)
 subst c3
 have H1 : (if 0 ≤ (wrap64 ((l0.length : Int) - 1)) then (if (wrap64 ((l0.length : Int) - 1)) < (l0.length : Int) then (some ((rd_T76 l0 (wrap64 ((l0.length : Int) - 1))).f0, (rd_T76 l0 (wrap64 ((l0.length : Int) - 1))).f1, (rd_T76 l0 (wrap64 ((l0.length : Int) - 1))).f2, (rd_T76 l0 (wrap64 ((l0.length : Int) - 1))).f3, (rd_T76 l0 (wrap64 ((l0.length : Int) - 1))).f4)) else (none)) else (none)) = some (r1, r2, r3, r4, r5) := by rw [if_pos rfl] at H; exact H
 clear H
 have H := H1
 clear H1
 obtain ⟨ji4, hji4⟩ : ∃ j_ : Int, (wrap64 ((l0.length : Int) - 1)) = j_ := ⟨_, rfl⟩
 replace H : (if 0 ≤ (ji4) then (if (ji4) < (l0.length : Int) then (some ((rd_T76 l0 (ji4)).f0, (rd_T76 l0 (ji4)).f1, (rd_T76 l0 (ji4)).f2, (rd_T76 l0 (ji4)).f3, (rd_T76 l0 (ji4)).f4)) else (none)) else (none)) = some (r1, r2, r3, r4, r5) := by first | (rw [hji4] at H; exact H) | (simp only [hji4] at H ⊢; exact H)
 (try rw [hji4] at A2)
 have hji4w : (IntKind.i64.wrap ((l0.length : Int) - 1)) = ji4 := (i64_w _).trans hji4
 by_cases c5 : 0 ≤ (ji4)
 rotate_left
 ·rw [if_neg c5] at H
  exact absurd H (by simp)
 rw [if_pos c5] at H
 have c5b0 : decide (0 ≤ (ji4)) = true := decide_eq_true c5
 clear c5
 by_cases c6 : (ji4) < (l0.length : Int)
 rotate_left
 ·rw [if_neg c6] at H
  exact absurd H (by simp)
 rw [if_pos c6] at H
 have c6b0 : decide ((ji4) < (l0.length : Int)) = true := decide_eq_true c6
 clear c6
 simp only [Option.some.injEq, Prod.mk.injEq] at H
 obtain ⟨rfl, rfl, rfl, rfl, rfl⟩ := H
 go_enter Try.func55, Try.ntmps55
 go_wp2_with (first | ((with_reducible refine gate_dst (N := 2) rfl ?_); refine box_event ?hg (N := 2) ?hd (cs := #[.int .i64 0, .int .i64 0, .int .i64 0, .int .i64 0, .int .i64 0]) (t := 76) ?hr ?_; (case hd => rfl); (case hg => rfl); (case hr => first | (go_simp; done) | (go_simp; rfl)); intro gb277 hg w7 hbox hb; have BK277 := AM_ (hbox); have GW277 := AM_ ((GS HB.out hg)); have GE277 := AM_ ((GS HB.out hg)); replace HB := AM_ (below_step (BT HB.out) hb); clear hb hbox hg) | ((with_reducible refine gate_callee (f := 136) rfl ?_); refine goesL_ (some 4) rfl rfl Try.func136 (by kernel_rfl) rfl #[.slice A0 l0.length c0] rfl (by (try simp only [List.map_toArray, List.map_cons, List.map_nil]); first | done | rfl | (simp only [List.length_drop, List.length_take]; rfl)) ?_; (with_reducible refine (spec_IsValidChain.calls k _ _ l0 true _ ?side1 ?side2 A2.out).mono ?_); (case side1 => exact CB HR0.out HB.out); (case side2 => exact HC0.out); rintro e w8 ⟨rfl, hb⟩; refine ⟨_, rfl, ?_⟩; replace BK277 := AM_ (BB BK277.out hb); replace HB := AM_ (below_step (BT HB.out) hb); (try clear hb); (try clear hb2); (try clear hk); (try clear hi); have p279 : 0 ≤ ((ji4) : Int) := DT; have q279 : (ji4) < (l0.length : Int) := DT; obtain ⟨ad279, e279, hx279_0, hx279_1, hx279_2, hx279_3, hx279_4⟩ := at_T76 HR0.out (ji4) p279 q279; cases e279; replace hx279_0 := BD HB.out hx279_0; replace hx279_1 := BD HB.out hx279_1; replace hx279_2 := BD HB.out hx279_2; replace hx279_3 := BD HB.out hx279_3; replace hx279_4 := BD HB.out hx279_4; replace p279 := eq_true p279; replace q279 := eq_true q279; obtain ⟨hcz9_0, hcz9_1, hcz9_2, hcz9_3, hcz9_4, hfz9_0, hfz9_1, hfz9_2, hfz9_3, hfz9_4⟩ := bk5 BK277.out))
 refine bodyPost_ret (results_cell_row rfl _ _ gb277 76 #[.int .i64 ((rd_T76 l0 (ji4)).f0), .int .i64 ((rd_T76 l0 (ji4)).f1), .int .i64 ((rd_T76 l0 (ji4)).f2), .int .i64 ((rd_T76 l0 (ji4)).f3), .int .i64 ((rd_T76 l0 (ji4)).f4)] (0, 0) _ rfl (by (with_reducible repeat (first | refine blk_drewN ?_ _ | refine blk_drew ?_ | refine blk_alloc ?_ _)); refine blk_put (cs := #[.int .i64 ((rd_T76 l0 (ji4)).f0), .int .i64 ((rd_T76 l0 (ji4)).f1), .int .i64 ((rd_T76 l0 (ji4)).f2), .int .i64 ((rd_T76 l0 (ji4)).f3), .int .i64 0]) ?_ 4 _ rfl; (with_reducible repeat (first | refine blk_drewN ?_ _ | refine blk_drew ?_ | refine blk_alloc ?_ _)); refine blk_put (cs := #[.int .i64 ((rd_T76 l0 (ji4)).f0), .int .i64 ((rd_T76 l0 (ji4)).f1), .int .i64 ((rd_T76 l0 (ji4)).f2), .int .i64 0, .int .i64 0]) ?_ 3 _ rfl; (with_reducible repeat (first | refine blk_drewN ?_ _ | refine blk_drew ?_ | refine blk_alloc ?_ _)); refine blk_put (cs := #[.int .i64 ((rd_T76 l0 (ji4)).f0), .int .i64 ((rd_T76 l0 (ji4)).f1), .int .i64 0, .int .i64 0, .int .i64 0]) ?_ 2 _ rfl; (with_reducible repeat (first | refine blk_drewN ?_ _ | refine blk_drew ?_ | refine blk_alloc ?_ _)); refine blk_put (cs := #[.int .i64 ((rd_T76 l0 (ji4)).f0), .int .i64 0, .int .i64 0, .int .i64 0, .int .i64 0]) ?_ 1 _ rfl; (with_reducible repeat (first | refine blk_drewN ?_ _ | refine blk_drew ?_ | refine blk_alloc ?_ _)); refine blk_put (cs := #[.int .i64 0, .int .i64 0, .int .i64 0, .int .i64 0, .int .i64 0]) ?_ 0 _ rfl; (with_reducible repeat (first | refine blk_drewN ?_ _ | refine blk_drew ?_ | refine blk_alloc ?_ _)); exact BK277.out) Try.underlying76 rfl (by kernel_rfl)) rfl ?_
 exact ⟨by first | rfl | (simp [errW_none, errW_some] <;> rfl) | (simp only [← hji4]; first | rfl | (simp [errW_none, errW_some] <;> rfl)) | (simp [*, errW_none, errW_some] <;> rfl), BT HB.out⟩

end Go.Proofs.Ytakpkmlbklahhaa.PFnExactWriteCode
