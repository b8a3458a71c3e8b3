-- Printed by a program of mine (wip/myprint.py), which runs the printer of the kit with contracts of mine beside it.
import Derived.Test.YtakpkmlbklahhaaPFnExactInstalledVersionsx0
import Derived.Test.YtakpkmlbklahhaaPFnExactInstalledVersionsx1
import Derived.Test.YtakpkmlbklahhaaPFnExactInstalledVersionsx2
import Derived.Test.YtakpkmlbklahhaaPFnExactInstalledVersionsx3
import Derived.Test.YtakpkmlbklahhaaPFnExactInstalledVersionsx4
import Derived.Test.YtakpkmlbklahhaaPFnExactInstalledVersionsx7
import Derived.Test.YtakpkmlbklahhaaPFnExactInstalledVersionsx13
import Derived.Test.YtakpkmlbklahhaaPFnExactInstalledVersionsx14
namespace Go.Proofs.Ytakpkmlbklahhaa.PFnExactInstalledVersions
open Go.RowKit Go.Proofs.YtakpkmlbklahhaaW.PrintWords Go.Proofs.YtakpkmlbklahhaaW.PrintLast Go.Proofs.YtakpkmlbklahhaaW.PrintMore
attribute [local go_sem] max2_int min2_int max_two min_two max_three min_three max_four min_four   -- for this text's walks alone
set_option linter.unusedVariables false
set_option linter.unusedSimpArgs false

/-! ### laws_FnExactInstalledVersions: function 11 -/
def laws_FnExactInstalledVersions.j0 : Nat → List (S76) → List (S76) → Bool → List (List (S207)) → Int → Int → Int → Int → Int → Int → Int → List (S189) → List (S191) → Option (Bool)
 | 0, _, _, _, _, _, _, _, _, _, _, _, _, _ => none
 | k + 1, x6, x9, x63, x332000, x333000, x333001, x333002, x333003, x333004, x333005, x333006, x333007, x333008 => if x63 = true then (some false) else ((laws_markVersionS.f k x9 1).bind fun bt399 => ((laws_heldVersionS.f k bt399.2 1).bind fun t401 => (if t401 < 0 then (some false) else (if t401 = bt399.1 then ((laws_toStore.f k x332000).bind fun t402 => ((laws_toTransaction.f k x333000 x333001 x333002 x333003 x333004 x333005 x333006 x333007 x333008).bind fun bt405 => ((impl_InstalledVersions.f k t402 bt405.1 bt405.2.1 bt405.2.2.1 bt405.2.2.2.1 bt405.2.2.2.2.1 bt405.2.2.2.2.2.1 bt405.2.2.2.2.2.2.1 bt405.2.2.2.2.2.2.2.1 bt405.2.2.2.2.2.2.2.2).bind fun t418 => ((laws_eqVersionS.f k t418 x6).bind fun t421 => (if t421 = true then ((laws_heldVersionS.f k bt399.2 1).bind fun t422 => (if t422 < 0 then (some false) else (if t422 = bt399.1 then (some true) else (some false)))) else (some false)))))) else (some false)))))
def laws_FnExactInstalledVersions.f (k : Nat) (l0_0 : List (List (S207))) (a1_0 : Int) (a1_1 : Int) (a1_2 : Int) (a1_3 : Int) (a1_4 : Int) (a1_5 : Int) (a1_6 : Int) (l1_7 : List (S189)) (l1_8 : List (S191)) : Option (Bool) := (laws_szStore.f k l0_0 1048576).bind fun t333 => (if t333 < 0 then (some true) else ((laws_szTransaction.f a1_0 a1_1 a1_2 a1_3 a1_4 a1_5 a1_6 l1_7 l1_8 t333).bind fun t334 => (if t334 < 0 then (some true) else ((laws_toStore.f k l0_0).bind fun t335 => ((laws_toTransaction.f k a1_0 a1_1 a1_2 a1_3 a1_4 a1_5 a1_6 l1_7 l1_8).bind fun bt338 => ((spec_InstalledVersions.f k t335 bt338.1 bt338.2.1 bt338.2.2.1 bt338.2.2.2.1 bt338.2.2.2.2.1 bt338.2.2.2.2.2.1 bt338.2.2.2.2.2.2.1 bt338.2.2.2.2.2.2.2.1 bt338.2.2.2.2.2.2.2.2).bind fun t351 => ((laws_toStore.f k l0_0).bind fun t354 => ((laws_toTransaction.f k a1_0 a1_1 a1_2 a1_3 a1_4 a1_5 a1_6 l1_7 l1_8).bind fun bt358 => ((impl_InstalledVersions.f k t354 bt358.1 bt358.2.1 bt358.2.2.1 bt358.2.2.2.1 bt358.2.2.2.2.1 bt358.2.2.2.2.2.1 bt358.2.2.2.2.2.2.1 bt358.2.2.2.2.2.2.2.1 bt358.2.2.2.2.2.2.2.2).bind fun t372 => ((laws_eqVersionS.f k t372 t351).bind fun t375 => (if t375 = true then ((laws_toStore.f k l0_0).bind fun t376 => ((laws_eqStore.f k t354 t376).bind fun t379 => (if t379 = true then ((laws_toTransaction.f k a1_0 a1_1 a1_2 a1_3 a1_4 a1_5 a1_6 l1_7 l1_8).bind fun bt380 => ((laws_eqTransaction.f k bt358.1 bt358.2.1 bt358.2.2.1 bt358.2.2.2.1 bt358.2.2.2.2.1 bt358.2.2.2.2.2.1 bt358.2.2.2.2.2.2.1 bt358.2.2.2.2.2.2.2.1 bt358.2.2.2.2.2.2.2.2 bt380.1 bt380.2.1 bt380.2.2.1 bt380.2.2.2.1 bt380.2.2.2.2.1 bt380.2.2.2.2.2.1 bt380.2.2.2.2.2.2.1 bt380.2.2.2.2.2.2.2.1 bt380.2.2.2.2.2.2.2.2).bind fun t393 => (if t393 = true then ((laws_markStore.f k t354 1).bind fun t394 => ((laws_markTransaction.f k bt358.1 bt358.2.1 bt358.2.2.1 bt358.2.2.2.1 bt358.2.2.2.2.1 bt358.2.2.2.2.2.1 bt358.2.2.2.2.2.2.1 bt358.2.2.2.2.2.2.2.1 bt358.2.2.2.2.2.2.2.2 t394).bind fun bt395 => (if bt395.1 < 0 then (laws_FnExactInstalledVersions.j0 k t351 t372 true l0_0 a1_0 a1_1 a1_2 a1_3 a1_4 a1_5 a1_6 l1_7 l1_8) else ((laws_eqVersionS.f k t372 t351).bind fun t398 => (laws_FnExactInstalledVersions.j0 k t351 t372 (!t398) l0_0 a1_0 a1_1 a1_2 a1_3 a1_4 a1_5 a1_6 l1_7 l1_8))))) else (some false)))) else (some false)))) else (some false))))))))))))
theorem laws_FnExactInstalledVersions.mono_l : ∀ k, (∀ y0 y1 y2 y3 y4 y5 y6 y7 y8 y9 y10 y11 y12, LeO (laws_FnExactInstalledVersions.j0 k y0 y1 y2 y3 y4 y5 y6 y7 y8 y9 y10 y11 y12) (laws_FnExactInstalledVersions.j0 (k + 1) y0 y1 y2 y3 y4 y5 y6 y7 y8 y9 y10 y11 y12))
 | 0 => fun _ _ _ _ _ _ _ _ _ _ _ _ _ r h => by simp [laws_FnExactInstalledVersions.j0] at h
 | k + 1 => by
  have ih0 := laws_FnExactInstalledVersions.mono_l k
  ·intro y0 y1 y2 y3 y4 y5 y6 y7 y8 y9 y10 y11 y12
   unfold laws_FnExactInstalledVersions.j0
   repeat' first
   | (with_reducible exact ih0 _ _ _ _ _ _ _ _ _ _ _ _ _)
   | (with_reducible exact impl_InstalledVersions.mono _ _ _ _ _ _ _ _ _ _ _)
   | (with_reducible exact laws_eqStore.mono _ _ _)
   | (with_reducible exact laws_eqTransaction.mono _ _ _ _ _ _ _ _ _ _ _ _ _ _ _ _ _ _ _)
   | (with_reducible exact laws_eqVersionS.mono _ _ _)
   | (with_reducible exact laws_heldVersionS.mono _ _ _)
   | (with_reducible exact laws_markStore.mono _ _ _)
   | (with_reducible exact laws_markTransaction.mono _ _ _ _ _ _ _ _ _ _ _)
   | (with_reducible exact laws_markVersionS.mono _ _ _)
   | (with_reducible exact laws_szStore.mono _ _ _)
   | (with_reducible exact laws_toStore.mono _ _)
   | (with_reducible exact laws_toTransaction.mono _ _ _ _ _ _ _ _ _ _)
   | (with_reducible exact spec_InstalledVersions.mono _ _ _ _ _ _ _ _ _ _ _)
   | (with_reducible exact LeO.refl _)
   | (with_reducible exact LeO.none _)
   | (with_reducible refine LeO.ite ?_ ?_)
   | (with_reducible refine LeO.bind ?_ (fun _ => ?_))
   | exact ih0 _ _ _ _ _ _ _ _ _ _ _ _ _
   | exact impl_InstalledVersions.mono _ _ _ _ _ _ _ _ _ _ _
   | exact laws_eqStore.mono _ _ _
   | exact laws_eqTransaction.mono _ _ _ _ _ _ _ _ _ _ _ _ _ _ _ _ _ _ _
   | exact laws_eqVersionS.mono _ _ _
   | exact laws_heldVersionS.mono _ _ _
   | exact laws_markStore.mono _ _ _
   | exact laws_markTransaction.mono _ _ _ _ _ _ _ _ _ _ _
   | exact laws_markVersionS.mono _ _ _
   | exact laws_szStore.mono _ _ _
   | exact laws_toStore.mono _ _
   | exact laws_toTransaction.mono _ _ _ _ _ _ _ _ _ _
   | exact spec_InstalledVersions.mono _ _ _ _ _ _ _ _ _ _ _
   | exact LeO.none _
   | refine LeO.ite ?_ ?_
   | refine LeO.bind ?_ (fun _ => ?_)
theorem laws_FnExactInstalledVersions.mono : ∀ a0 a1 a2 a3 a4 a5 a6 a7 a8 a9 k, LeO (laws_FnExactInstalledVersions.f k a0 a1 a2 a3 a4 a5 a6 a7 a8 a9) (laws_FnExactInstalledVersions.f (k + 1) a0 a1 a2 a3 a4 a5 a6 a7 a8 a9) := by
 intro a0 a1 a2 a3 a4 a5 a6 a7 a8 a9 k
 have ih0 := laws_FnExactInstalledVersions.mono_l k
 unfold laws_FnExactInstalledVersions.f
 repeat' first
   | (with_reducible exact ih0 _ _ _ _ _ _ _ _ _ _ _ _ _)
   | (with_reducible exact impl_InstalledVersions.mono _ _ _ _ _ _ _ _ _ _ _)
   | (with_reducible exact laws_eqStore.mono _ _ _)
   | (with_reducible exact laws_eqTransaction.mono _ _ _ _ _ _ _ _ _ _ _ _ _ _ _ _ _ _ _)
   | (with_reducible exact laws_eqVersionS.mono _ _ _)
   | (with_reducible exact laws_heldVersionS.mono _ _ _)
   | (with_reducible exact laws_markStore.mono _ _ _)
   | (with_reducible exact laws_markTransaction.mono _ _ _ _ _ _ _ _ _ _ _)
   | (with_reducible exact laws_markVersionS.mono _ _ _)
   | (with_reducible exact laws_szStore.mono _ _ _)
   | (with_reducible exact laws_toStore.mono _ _)
   | (with_reducible exact laws_toTransaction.mono _ _ _ _ _ _ _ _ _ _)
   | (with_reducible exact spec_InstalledVersions.mono _ _ _ _ _ _ _ _ _ _ _)
   | (with_reducible exact LeO.refl _)
   | (with_reducible exact LeO.none _)
   | (with_reducible refine LeO.ite ?_ ?_)
   | (with_reducible refine LeO.bind ?_ (fun _ => ?_))
   | exact ih0 _ _ _ _ _ _ _ _ _ _ _ _ _
   | exact impl_InstalledVersions.mono _ _ _ _ _ _ _ _ _ _ _
   | exact laws_eqStore.mono _ _ _
   | exact laws_eqTransaction.mono _ _ _ _ _ _ _ _ _ _ _ _ _ _ _ _ _ _ _
   | exact laws_eqVersionS.mono _ _ _
   | exact laws_heldVersionS.mono _ _ _
   | exact laws_markStore.mono _ _ _
   | exact laws_markTransaction.mono _ _ _ _ _ _ _ _ _ _ _
   | exact laws_markVersionS.mono _ _ _
   | exact laws_szStore.mono _ _ _
   | exact laws_toStore.mono _ _
   | exact laws_toTransaction.mono _ _ _ _ _ _ _ _ _ _
   | exact spec_InstalledVersions.mono _ _ _ _ _ _ _ _ _ _ _
   | exact LeO.none _
   | refine LeO.ite ?_ ?_
   | refine LeO.bind ?_ (fun _ => ?_)
set_option maxHeartbeats 8000000 in
set_option maxRecDepth 100000 in
theorem laws_FnExactInstalledVersions.calls (k : Nat) (A0_0 : Option Addr) (c0_0 : Nat) (l0_0 : List (List (S207))) (a1_0 : Int) (a1_1 : Int) (a1_2 : Int) (a1_3 : Int) (a1_4 : Int) (a1_5 : Int) (a1_6 : Int) (A1_7 : Option Addr) (c1_7 : Nat) (l1_7 : List (S189)) (A1_8 : Option Addr) (c1_8 : Nat) (l1_8 : List (S191)) (r : Bool) (w : World) (hr0_0 : Kd.C (Kd.slice 207 k207) w A0_0 l0_0.length l0_0) (hc0_0 : l0_0.length ≤ c0_0) (hr1_7 : Kd.C k189 w A1_7 l1_7.length l1_7) (hc1_7 : l1_7.length ≤ c1_7) (hr1_8 : Kd.C k191 w A1_8 l1_8.length l1_8) (hc1_8 : l1_8.length ≤ c1_8) (h : laws_FnExactInstalledVersions.f k l0_0 a1_0 a1_1 a1_2 a1_3 a1_4 a1_5 a1_6 l1_7 l1_8 = some r) :
  Calls Try.prog 11 #[.agg #[.slice A0_0 l0_0.length c0_0], .agg #[.int .i64 a1_0, .int .i64 a1_1, .int .i64 a1_2, .int .i64 a1_3, .int .i64 a1_4, .int .i64 a1_5, .int .i64 a1_6, .slice A1_7 l1_7.length c1_7, .slice A1_8 l1_8.length c1_8]] w fun e w' => e = .returned (.bool r) ∧ Below w.heap.size w w' := by
 have hu39 := Try.underlying39
 have hu60 := Try.underlying60
 have hu49 := Try.underlying49
 have hu68 := Try.underlying68
 have HR0_0 := AM_ hr0_0
 have HC0_0 := AM_ hc0_0
 clear hr0_0 hc0_0
 have HR1_7 := AM_ hr1_7
 have HC1_7 := AM_ hc1_7
 clear hr1_7 hc1_7
 have HR1_8 := AM_ hr1_8
 have HC1_8 := AM_ hc1_8
 clear hr1_8 hc1_8
 have HB := AM_ (Below.refl w.heap.size w)
 have H : ((laws_szStore.f k l0_0 1048576).bind fun t333 => (if t333 < 0 then (some true) else ((laws_szTransaction.f a1_0 a1_1 a1_2 a1_3 a1_4 a1_5 a1_6 l1_7 l1_8 t333).bind fun t334 => (if t334 < 0 then (some true) else ((laws_toStore.f k l0_0).bind fun t335 => ((laws_toTransaction.f k a1_0 a1_1 a1_2 a1_3 a1_4 a1_5 a1_6 l1_7 l1_8).bind fun bt338 => ((spec_InstalledVersions.f k t335 bt338.1 bt338.2.1 bt338.2.2.1 bt338.2.2.2.1 bt338.2.2.2.2.1 bt338.2.2.2.2.2.1 bt338.2.2.2.2.2.2.1 bt338.2.2.2.2.2.2.2.1 bt338.2.2.2.2.2.2.2.2).bind fun t351 => ((laws_toStore.f k l0_0).bind fun t354 => ((laws_toTransaction.f k a1_0 a1_1 a1_2 a1_3 a1_4 a1_5 a1_6 l1_7 l1_8).bind fun bt358 => ((impl_InstalledVersions.f k t354 bt358.1 bt358.2.1 bt358.2.2.1 bt358.2.2.2.1 bt358.2.2.2.2.1 bt358.2.2.2.2.2.1 bt358.2.2.2.2.2.2.1 bt358.2.2.2.2.2.2.2.1 bt358.2.2.2.2.2.2.2.2).bind fun t372 => ((laws_eqVersionS.f k t372 t351).bind fun t375 => (if t375 = true then ((laws_toStore.f k l0_0).bind fun t376 => ((laws_eqStore.f k t354 t376).bind fun t379 => (if t379 = true then ((laws_toTransaction.f k a1_0 a1_1 a1_2 a1_3 a1_4 a1_5 a1_6 l1_7 l1_8).bind fun bt380 => ((laws_eqTransaction.f k bt358.1 bt358.2.1 bt358.2.2.1 bt358.2.2.2.1 bt358.2.2.2.2.1 bt358.2.2.2.2.2.1 bt358.2.2.2.2.2.2.1 bt358.2.2.2.2.2.2.2.1 bt358.2.2.2.2.2.2.2.2 bt380.1 bt380.2.1 bt380.2.2.1 bt380.2.2.2.1 bt380.2.2.2.2.1 bt380.2.2.2.2.2.1 bt380.2.2.2.2.2.2.1 bt380.2.2.2.2.2.2.2.1 bt380.2.2.2.2.2.2.2.2).bind fun t393 => (if t393 = true then ((laws_markStore.f k t354 1).bind fun t394 => ((laws_markTransaction.f k bt358.1 bt358.2.1 bt358.2.2.1 bt358.2.2.2.1 bt358.2.2.2.2.1 bt358.2.2.2.2.2.1 bt358.2.2.2.2.2.2.1 bt358.2.2.2.2.2.2.2.1 bt358.2.2.2.2.2.2.2.2 t394).bind fun bt395 => (if bt395.1 < 0 then (laws_FnExactInstalledVersions.j0 k t351 t372 true l0_0 a1_0 a1_1 a1_2 a1_3 a1_4 a1_5 a1_6 l1_7 l1_8) else ((laws_eqVersionS.f k t372 t351).bind fun t398 => (laws_FnExactInstalledVersions.j0 k t351 t372 (!t398) l0_0 a1_0 a1_1 a1_2 a1_3 a1_4 a1_5 a1_6 l1_7 l1_8))))) else (some false)))) else (some false)))) else (some false))))))))))))) = some r := h
 clear h
 replace H := Option.bind_eq_some_iff.mp H
 obtain ⟨t333, A30, H⟩ := H
 replace H : (if t333 < 0 then (some true) else ((laws_szTransaction.f a1_0 a1_1 a1_2 a1_3 a1_4 a1_5 a1_6 l1_7 l1_8 t333).bind fun t334 => (if t334 < 0 then (some true) else ((laws_toStore.f k l0_0).bind fun t335 => ((laws_toTransaction.f k a1_0 a1_1 a1_2 a1_3 a1_4 a1_5 a1_6 l1_7 l1_8).bind fun bt338 => ((spec_InstalledVersions.f k t335 bt338.1 bt338.2.1 bt338.2.2.1 bt338.2.2.2.1 bt338.2.2.2.2.1 bt338.2.2.2.2.2.1 bt338.2.2.2.2.2.2.1 bt338.2.2.2.2.2.2.2.1 bt338.2.2.2.2.2.2.2.2).bind fun t351 => ((laws_toStore.f k l0_0).bind fun t354 => ((laws_toTransaction.f k a1_0 a1_1 a1_2 a1_3 a1_4 a1_5 a1_6 l1_7 l1_8).bind fun bt358 => ((impl_InstalledVersions.f k t354 bt358.1 bt358.2.1 bt358.2.2.1 bt358.2.2.2.1 bt358.2.2.2.2.1 bt358.2.2.2.2.2.1 bt358.2.2.2.2.2.2.1 bt358.2.2.2.2.2.2.2.1 bt358.2.2.2.2.2.2.2.2).bind fun t372 => ((laws_eqVersionS.f k t372 t351).bind fun t375 => (if t375 = true then ((laws_toStore.f k l0_0).bind fun t376 => ((laws_eqStore.f k t354 t376).bind fun t379 => (if t379 = true then ((laws_toTransaction.f k a1_0 a1_1 a1_2 a1_3 a1_4 a1_5 a1_6 l1_7 l1_8).bind fun bt380 => ((laws_eqTransaction.f k bt358.1 bt358.2.1 bt358.2.2.1 bt358.2.2.2.1 bt358.2.2.2.2.1 bt358.2.2.2.2.2.1 bt358.2.2.2.2.2.2.1 bt358.2.2.2.2.2.2.2.1 bt358.2.2.2.2.2.2.2.2 bt380.1 bt380.2.1 bt380.2.2.1 bt380.2.2.2.1 bt380.2.2.2.2.1 bt380.2.2.2.2.2.1 bt380.2.2.2.2.2.2.1 bt380.2.2.2.2.2.2.2.1 bt380.2.2.2.2.2.2.2.2).bind fun t393 => (if t393 = true then ((laws_markStore.f k t354 1).bind fun t394 => ((laws_markTransaction.f k bt358.1 bt358.2.1 bt358.2.2.1 bt358.2.2.2.1 bt358.2.2.2.2.1 bt358.2.2.2.2.2.1 bt358.2.2.2.2.2.2.1 bt358.2.2.2.2.2.2.2.1 bt358.2.2.2.2.2.2.2.2 t394).bind fun bt395 => (if bt395.1 < 0 then (laws_FnExactInstalledVersions.j0 k t351 t372 true l0_0 a1_0 a1_1 a1_2 a1_3 a1_4 a1_5 a1_6 l1_7 l1_8) else ((laws_eqVersionS.f k t372 t351).bind fun t398 => (laws_FnExactInstalledVersions.j0 k t351 t372 (!t398) l0_0 a1_0 a1_1 a1_2 a1_3 a1_4 a1_5 a1_6 l1_7 l1_8))))) else (some false)))) else (some false)))) else (some false)))))))))))) = some r := H
 have A3 := AM_ A30
 clear A30
 by_cases c4 : t333 < 0
 ·rw [if_pos c4] at H
  have c4b0 : decide (t333 < 0) = true := decide_eq_true c4
  clear c4
  obtain rfl := Option.some.inj H
  go_enter Try.func11, Try.ntmps11
  go_wp2_with (first | ((with_reducible refine gate_dst (N := 2) rfl ?_); refine box_event ?hg (N := 2) ?hd (cs := #[.slice A0_0 l0_0.length c0_0]) (t := 39) ?hr ?_; (case hd => rfl); (case hg => rfl); (case hr => first | (go_simp; done) | (go_simp; rfl)); intro gb331 hg w5 hbox hb; have BK331 := AM_ (hbox); have GW331 := AM_ ((GS HB.out hg)); have GE331 := AM_ ((GS HB.out hg)); replace HB := AM_ (below_step (BT HB.out) hb); clear hb hbox hg) | ((with_reducible refine gate_dst (N := 3) rfl ?_); refine box_event ?hg (N := 3) ?hd (cs := #[.int .i64 a1_0, .int .i64 a1_1, .int .i64 a1_2, .int .i64 a1_3, .int .i64 a1_4, .int .i64 a1_5, .int .i64 a1_6, .slice A1_7 l1_7.length c1_7, .slice A1_8 l1_8.length c1_8]) (t := 60) ?hr ?_; (case hd => rfl); (case hg => rfl); (case hr => first | (go_simp; done) | (go_simp; rfl)); intro gb332 hg w6 hbox hb; have BK332 := AM_ (hbox); have GW332 := AM_ ((GS HB.out hg)); have GE332 := AM_ ((GS HB.out hg)); replace HB := AM_ (below_step (BT HB.out) hb); have NB331_332 := AM_ ((NL BK331.out hg)); have NB332_331 := AM_ ((NG BK331.out hg)); replace BK331 := AM_ (BB BK331.out hb); clear hb hbox hg; have hnb7 := NB331_332.out; have hnc7 := NB332_331.out; obtain ⟨hcz8_0, hfz8_0⟩ := bk1 BK331.out) | ((with_reducible refine gate_callee (f := 32) rfl ?_); refine goesL_ (some 16) rfl rfl Try.func32 (by kernel_rfl) rfl #[.agg #[.slice A0_0 l0_0.length c0_0], .int .i64 1048576] rfl (by (try simp only [List.map_toArray, List.map_cons, List.map_nil]); first | done | rfl | (simp only [List.length_drop, List.length_take]; rfl)) ?_; (with_reducible refine (laws_szStore.calls k _ _ l0_0 1048576 t333 _ ?side1 ?side2 A3.out).mono ?_); (case side1 => exact CB HR0_0.out HB.out); (case side2 => exact HC0_0.out); rintro e w9 ⟨rfl, hb⟩; refine ⟨_, rfl, ?_⟩; replace BK331 := AM_ (BB BK331.out hb); replace BK332 := AM_ (BB BK332.out hb); replace HB := AM_ (below_step (BT HB.out) hb); (try clear hb); (try clear hb2); (try clear hk); (try clear hi)))
  go_ret
  exact QT (BT HB.out)
 rw [if_neg c4] at H
 have c4b0 : decide (t333 < 0) = false := decide_eq_false c4
 clear c4
 replace H := Option.bind_eq_some_iff.mp H
 obtain ⟨t334, A100, H⟩ := H
 replace H : (if t334 < 0 then (some true) else ((laws_toStore.f k l0_0).bind fun t335 => ((laws_toTransaction.f k a1_0 a1_1 a1_2 a1_3 a1_4 a1_5 a1_6 l1_7 l1_8).bind fun bt338 => ((spec_InstalledVersions.f k t335 bt338.1 bt338.2.1 bt338.2.2.1 bt338.2.2.2.1 bt338.2.2.2.2.1 bt338.2.2.2.2.2.1 bt338.2.2.2.2.2.2.1 bt338.2.2.2.2.2.2.2.1 bt338.2.2.2.2.2.2.2.2).bind fun t351 => ((laws_toStore.f k l0_0).bind fun t354 => ((laws_toTransaction.f k a1_0 a1_1 a1_2 a1_3 a1_4 a1_5 a1_6 l1_7 l1_8).bind fun bt358 => ((impl_InstalledVersions.f k t354 bt358.1 bt358.2.1 bt358.2.2.1 bt358.2.2.2.1 bt358.2.2.2.2.1 bt358.2.2.2.2.2.1 bt358.2.2.2.2.2.2.1 bt358.2.2.2.2.2.2.2.1 bt358.2.2.2.2.2.2.2.2).bind fun t372 => ((laws_eqVersionS.f k t372 t351).bind fun t375 => (if t375 = true then ((laws_toStore.f k l0_0).bind fun t376 => ((laws_eqStore.f k t354 t376).bind fun t379 => (if t379 = true then ((laws_toTransaction.f k a1_0 a1_1 a1_2 a1_3 a1_4 a1_5 a1_6 l1_7 l1_8).bind fun bt380 => ((laws_eqTransaction.f k bt358.1 bt358.2.1 bt358.2.2.1 bt358.2.2.2.1 bt358.2.2.2.2.1 bt358.2.2.2.2.2.1 bt358.2.2.2.2.2.2.1 bt358.2.2.2.2.2.2.2.1 bt358.2.2.2.2.2.2.2.2 bt380.1 bt380.2.1 bt380.2.2.1 bt380.2.2.2.1 bt380.2.2.2.2.1 bt380.2.2.2.2.2.1 bt380.2.2.2.2.2.2.1 bt380.2.2.2.2.2.2.2.1 bt380.2.2.2.2.2.2.2.2).bind fun t393 => (if t393 = true then ((laws_markStore.f k t354 1).bind fun t394 => ((laws_markTransaction.f k bt358.1 bt358.2.1 bt358.2.2.1 bt358.2.2.2.1 bt358.2.2.2.2.1 bt358.2.2.2.2.2.1 bt358.2.2.2.2.2.2.1 bt358.2.2.2.2.2.2.2.1 bt358.2.2.2.2.2.2.2.2 t394).bind fun bt395 => (if bt395.1 < 0 then (laws_FnExactInstalledVersions.j0 k t351 t372 true l0_0 a1_0 a1_1 a1_2 a1_3 a1_4 a1_5 a1_6 l1_7 l1_8) else ((laws_eqVersionS.f k t372 t351).bind fun t398 => (laws_FnExactInstalledVersions.j0 k t351 t372 (!t398) l0_0 a1_0 a1_1 a1_2 a1_3 a1_4 a1_5 a1_6 l1_7 l1_8))))) else (some false)))) else (some false)))) else (some false)))))))))) = some r := H
 have A10 := AM_ A100
 clear A100
 by_cases c11 : t334 < 0
 ·rw [if_pos c11] at H
  have c11b0 : decide (t334 < 0) = true := decide_eq_true c11
  clear c11
  obtain rfl := Option.some.inj H
  go_enter Try.func11, Try.ntmps11
  go_wp2_with (first | ((with_reducible refine gate_dst (N := 2) rfl ?_); refine box_event ?hg (N := 2) ?hd (cs := #[.slice A0_0 l0_0.length c0_0]) (t := 39) ?hr ?_; (case hd => rfl); (case hg => rfl); (case hr => first | (go_simp; done) | (go_simp; rfl)); intro gb331 hg w12 hbox hb; have BK331 := AM_ (hbox); have GW331 := AM_ ((GS HB.out hg)); have GE331 := AM_ ((GS HB.out hg)); replace HB := AM_ (below_step (BT HB.out) hb); clear hb hbox hg) | ((with_reducible refine gate_dst (N := 3) rfl ?_); refine box_event ?hg (N := 3) ?hd (cs := #[.int .i64 a1_0, .int .i64 a1_1, .int .i64 a1_2, .int .i64 a1_3, .int .i64 a1_4, .int .i64 a1_5, .int .i64 a1_6, .slice A1_7 l1_7.length c1_7, .slice A1_8 l1_8.length c1_8]) (t := 60) ?hr ?_; (case hd => rfl); (case hg => rfl); (case hr => first | (go_simp; done) | (go_simp; rfl)); intro gb332 hg w13 hbox hb; have BK332 := AM_ (hbox); have GW332 := AM_ ((GS HB.out hg)); have GE332 := AM_ ((GS HB.out hg)); replace HB := AM_ (below_step (BT HB.out) hb); have NB331_332 := AM_ ((NL BK331.out hg)); have NB332_331 := AM_ ((NG BK331.out hg)); replace BK331 := AM_ (BB BK331.out hb); clear hb hbox hg; have hnb14 := NB331_332.out; have hnc14 := NB332_331.out; obtain ⟨hcz15_0, hfz15_0⟩ := bk1 BK331.out) | ((with_reducible refine gate_callee (f := 32) rfl ?_); refine goesL_ (some 16) rfl rfl Try.func32 (by kernel_rfl) rfl #[.agg #[.slice A0_0 l0_0.length c0_0], .int .i64 1048576] rfl (by (try simp only [List.map_toArray, List.map_cons, List.map_nil]); first | done | rfl | (simp only [List.length_drop, List.length_take]; rfl)) ?_; (with_reducible refine (laws_szStore.calls k _ _ l0_0 1048576 t333 _ ?side1 ?side2 A3.out).mono ?_); (case side1 => exact CB HR0_0.out HB.out); (case side2 => exact HC0_0.out); rintro e w16 ⟨rfl, hb⟩; refine ⟨_, rfl, ?_⟩; replace BK331 := AM_ (BB BK331.out hb); replace BK332 := AM_ (BB BK332.out hb); replace HB := AM_ (below_step (BT HB.out) hb); (try clear hb); (try clear hb2); (try clear hk); (try clear hi); obtain ⟨hcz17_0, hcz17_1, hcz17_2, hcz17_3, hcz17_4, hcz17_5, hcz17_6, hcz17_7, hcz17_8, hfz17_0, hfz17_1, hfz17_2, hfz17_3, hfz17_4, hfz17_5, hfz17_6, hfz17_7, hfz17_8⟩ := bk9 BK332.out) | ((with_reducible refine gate_callee (f := 33) rfl ?_); refine goesL_ (some 21) rfl rfl Try.func33 (by kernel_rfl) rfl #[.agg #[.int .i64 a1_0, .int .i64 a1_1, .int .i64 a1_2, .int .i64 a1_3, .int .i64 a1_4, .int .i64 a1_5, .int .i64 a1_6, .slice A1_7 l1_7.length c1_7, .slice A1_8 l1_8.length c1_8], .int .i64 t333] rfl (by (try simp only [List.map_toArray, List.map_cons, List.map_nil]); first | done | rfl | (simp only [List.length_drop, List.length_take]; rfl)) ?_; (with_reducible refine (laws_szTransaction.calls a1_0 a1_1 a1_2 a1_3 a1_4 a1_5 a1_6 _ _ l1_7 _ _ l1_8 t333 t334 _ ?side1 ?side2 ?side3 ?side4 A10.out).mono ?_); (case side1 => exact CB HR1_7.out HB.out); (case side2 => exact HC1_7.out); (case side3 => exact CB HR1_8.out HB.out); (case side4 => exact HC1_8.out); rintro e w18 ⟨rfl, hb⟩; refine ⟨_, rfl, ?_⟩; replace BK331 := AM_ (BB BK331.out hb); replace BK332 := AM_ (BB BK332.out hb); replace HB := AM_ (below_step (BT HB.out) hb); (try clear hb); (try clear hb2); (try clear hk); (try clear hi)))
  go_ret
  exact QT (BT HB.out)
 rw [if_neg c11] at H
 have c11b0 : decide (t334 < 0) = false := decide_eq_false c11
 clear c11
 replace H := Option.bind_eq_some_iff.mp H
 obtain ⟨t335, A190, H⟩ := H
 replace H : ((laws_toTransaction.f k a1_0 a1_1 a1_2 a1_3 a1_4 a1_5 a1_6 l1_7 l1_8).bind fun bt338 => ((spec_InstalledVersions.f k t335 bt338.1 bt338.2.1 bt338.2.2.1 bt338.2.2.2.1 bt338.2.2.2.2.1 bt338.2.2.2.2.2.1 bt338.2.2.2.2.2.2.1 bt338.2.2.2.2.2.2.2.1 bt338.2.2.2.2.2.2.2.2).bind fun t351 => ((laws_toStore.f k l0_0).bind fun t354 => ((laws_toTransaction.f k a1_0 a1_1 a1_2 a1_3 a1_4 a1_5 a1_6 l1_7 l1_8).bind fun bt358 => ((impl_InstalledVersions.f k t354 bt358.1 bt358.2.1 bt358.2.2.1 bt358.2.2.2.1 bt358.2.2.2.2.1 bt358.2.2.2.2.2.1 bt358.2.2.2.2.2.2.1 bt358.2.2.2.2.2.2.2.1 bt358.2.2.2.2.2.2.2.2).bind fun t372 => ((laws_eqVersionS.f k t372 t351).bind fun t375 => (if t375 = true then ((laws_toStore.f k l0_0).bind fun t376 => ((laws_eqStore.f k t354 t376).bind fun t379 => (if t379 = true then ((laws_toTransaction.f k a1_0 a1_1 a1_2 a1_3 a1_4 a1_5 a1_6 l1_7 l1_8).bind fun bt380 => ((laws_eqTransaction.f k bt358.1 bt358.2.1 bt358.2.2.1 bt358.2.2.2.1 bt358.2.2.2.2.1 bt358.2.2.2.2.2.1 bt358.2.2.2.2.2.2.1 bt358.2.2.2.2.2.2.2.1 bt358.2.2.2.2.2.2.2.2 bt380.1 bt380.2.1 bt380.2.2.1 bt380.2.2.2.1 bt380.2.2.2.2.1 bt380.2.2.2.2.2.1 bt380.2.2.2.2.2.2.1 bt380.2.2.2.2.2.2.2.1 bt380.2.2.2.2.2.2.2.2).bind fun t393 => (if t393 = true then ((laws_markStore.f k t354 1).bind fun t394 => ((laws_markTransaction.f k bt358.1 bt358.2.1 bt358.2.2.1 bt358.2.2.2.1 bt358.2.2.2.2.1 bt358.2.2.2.2.2.1 bt358.2.2.2.2.2.2.1 bt358.2.2.2.2.2.2.2.1 bt358.2.2.2.2.2.2.2.2 t394).bind fun bt395 => (if bt395.1 < 0 then (laws_FnExactInstalledVersions.j0 k t351 t372 true l0_0 a1_0 a1_1 a1_2 a1_3 a1_4 a1_5 a1_6 l1_7 l1_8) else ((laws_eqVersionS.f k t372 t351).bind fun t398 => (laws_FnExactInstalledVersions.j0 k t351 t372 (!t398) l0_0 a1_0 a1_1 a1_2 a1_3 a1_4 a1_5 a1_6 l1_7 l1_8))))) else (some false)))) else (some false)))) else (some false)))))))) = some r := H
 have A19 := AM_ A190
 clear A190
 replace H := Option.bind_eq_some_iff.mp H
 obtain ⟨⟨t338, t339, t340, t341, t342, t343, t344, t345, t348⟩, A200, H⟩ := H
 replace H : ((spec_InstalledVersions.f k t335 t338 t339 t340 t341 t342 t343 t344 t345 t348).bind fun t351 => ((laws_toStore.f k l0_0).bind fun t354 => ((laws_toTransaction.f k a1_0 a1_1 a1_2 a1_3 a1_4 a1_5 a1_6 l1_7 l1_8).bind fun bt358 => ((impl_InstalledVersions.f k t354 bt358.1 bt358.2.1 bt358.2.2.1 bt358.2.2.2.1 bt358.2.2.2.2.1 bt358.2.2.2.2.2.1 bt358.2.2.2.2.2.2.1 bt358.2.2.2.2.2.2.2.1 bt358.2.2.2.2.2.2.2.2).bind fun t372 => ((laws_eqVersionS.f k t372 t351).bind fun t375 => (if t375 = true then ((laws_toStore.f k l0_0).bind fun t376 => ((laws_eqStore.f k t354 t376).bind fun t379 => (if t379 = true then ((laws_toTransaction.f k a1_0 a1_1 a1_2 a1_3 a1_4 a1_5 a1_6 l1_7 l1_8).bind fun bt380 => ((laws_eqTransaction.f k bt358.1 bt358.2.1 bt358.2.2.1 bt358.2.2.2.1 bt358.2.2.2.2.1 bt358.2.2.2.2.2.1 bt358.2.2.2.2.2.2.1 bt358.2.2.2.2.2.2.2.1 bt358.2.2.2.2.2.2.2.2 bt380.1 bt380.2.1 bt380.2.2.1 bt380.2.2.2.1 bt380.2.2.2.2.1 bt380.2.2.2.2.2.1 bt380.2.2.2.2.2.2.1 bt380.2.2.2.2.2.2.2.1 bt380.2.2.2.2.2.2.2.2).bind fun t393 => (if t393 = true then ((laws_markStore.f k t354 1).bind fun t394 => ((laws_markTransaction.f k bt358.1 bt358.2.1 bt358.2.2.1 bt358.2.2.2.1 bt358.2.2.2.2.1 bt358.2.2.2.2.2.1 bt358.2.2.2.2.2.2.1 bt358.2.2.2.2.2.2.2.1 bt358.2.2.2.2.2.2.2.2 t394).bind fun bt395 => (if bt395.1 < 0 then (laws_FnExactInstalledVersions.j0 k t351 t372 true l0_0 a1_0 a1_1 a1_2 a1_3 a1_4 a1_5 a1_6 l1_7 l1_8) else ((laws_eqVersionS.f k t372 t351).bind fun t398 => (laws_FnExactInstalledVersions.j0 k t351 t372 (!t398) l0_0 a1_0 a1_1 a1_2 a1_3 a1_4 a1_5 a1_6 l1_7 l1_8))))) else (some false)))) else (some false)))) else (some false))))))) = some r := H
 have A20 := AM_ A200
 clear A200
 replace H := Option.bind_eq_some_iff.mp H
 obtain ⟨t351, A210, H⟩ := H
 replace H : ((laws_toStore.f k l0_0).bind fun t354 => ((laws_toTransaction.f k a1_0 a1_1 a1_2 a1_3 a1_4 a1_5 a1_6 l1_7 l1_8).bind fun bt358 => ((impl_InstalledVersions.f k t354 bt358.1 bt358.2.1 bt358.2.2.1 bt358.2.2.2.1 bt358.2.2.2.2.1 bt358.2.2.2.2.2.1 bt358.2.2.2.2.2.2.1 bt358.2.2.2.2.2.2.2.1 bt358.2.2.2.2.2.2.2.2).bind fun t372 => ((laws_eqVersionS.f k t372 t351).bind fun t375 => (if t375 = true then ((laws_toStore.f k l0_0).bind fun t376 => ((laws_eqStore.f k t354 t376).bind fun t379 => (if t379 = true then ((laws_toTransaction.f k a1_0 a1_1 a1_2 a1_3 a1_4 a1_5 a1_6 l1_7 l1_8).bind fun bt380 => ((laws_eqTransaction.f k bt358.1 bt358.2.1 bt358.2.2.1 bt358.2.2.2.1 bt358.2.2.2.2.1 bt358.2.2.2.2.2.1 bt358.2.2.2.2.2.2.1 bt358.2.2.2.2.2.2.2.1 bt358.2.2.2.2.2.2.2.2 bt380.1 bt380.2.1 bt380.2.2.1 bt380.2.2.2.1 bt380.2.2.2.2.1 bt380.2.2.2.2.2.1 bt380.2.2.2.2.2.2.1 bt380.2.2.2.2.2.2.2.1 bt380.2.2.2.2.2.2.2.2).bind fun t393 => (if t393 = true then ((laws_markStore.f k t354 1).bind fun t394 => ((laws_markTransaction.f k bt358.1 bt358.2.1 bt358.2.2.1 bt358.2.2.2.1 bt358.2.2.2.2.1 bt358.2.2.2.2.2.1 bt358.2.2.2.2.2.2.1 bt358.2.2.2.2.2.2.2.1 bt358.2.2.2.2.2.2.2.2 t394).bind fun bt395 => (if bt395.1 < 0 then (laws_FnExactInstalledVersions.j0 k t351 t372 true l0_0 a1_0 a1_1 a1_2 a1_3 a1_4 a1_5 a1_6 l1_7 l1_8) else ((laws_eqVersionS.f k t372 t351).bind fun t398 => (laws_FnExactInstalledVersions.j0 k t351 t372 (!t398) l0_0 a1_0 a1_1 a1_2 a1_3 a1_4 a1_5 a1_6 l1_7 l1_8))))) else (some false)))) else (some false)))) else (some false)))))) = some r := H
 have A21 := AM_ A210
 clear A210
 replace H := Option.bind_eq_some_iff.mp H
 obtain ⟨t354, A220, H⟩ := H
 replace H : ((laws_toTransaction.f k a1_0 a1_1 a1_2 a1_3 a1_4 a1_5 a1_6 l1_7 l1_8).bind fun bt358 => ((impl_InstalledVersions.f k t354 bt358.1 bt358.2.1 bt358.2.2.1 bt358.2.2.2.1 bt358.2.2.2.2.1 bt358.2.2.2.2.2.1 bt358.2.2.2.2.2.2.1 bt358.2.2.2.2.2.2.2.1 bt358.2.2.2.2.2.2.2.2).bind fun t372 => ((laws_eqVersionS.f k t372 t351).bind fun t375 => (if t375 = true then ((laws_toStore.f k l0_0).bind fun t376 => ((laws_eqStore.f k t354 t376).bind fun t379 => (if t379 = true then ((laws_toTransaction.f k a1_0 a1_1 a1_2 a1_3 a1_4 a1_5 a1_6 l1_7 l1_8).bind fun bt380 => ((laws_eqTransaction.f k bt358.1 bt358.2.1 bt358.2.2.1 bt358.2.2.2.1 bt358.2.2.2.2.1 bt358.2.2.2.2.2.1 bt358.2.2.2.2.2.2.1 bt358.2.2.2.2.2.2.2.1 bt358.2.2.2.2.2.2.2.2 bt380.1 bt380.2.1 bt380.2.2.1 bt380.2.2.2.1 bt380.2.2.2.2.1 bt380.2.2.2.2.2.1 bt380.2.2.2.2.2.2.1 bt380.2.2.2.2.2.2.2.1 bt380.2.2.2.2.2.2.2.2).bind fun t393 => (if t393 = true then ((laws_markStore.f k t354 1).bind fun t394 => ((laws_markTransaction.f k bt358.1 bt358.2.1 bt358.2.2.1 bt358.2.2.2.1 bt358.2.2.2.2.1 bt358.2.2.2.2.2.1 bt358.2.2.2.2.2.2.1 bt358.2.2.2.2.2.2.2.1 bt358.2.2.2.2.2.2.2.2 t394).bind fun bt395 => (if bt395.1 < 0 then (laws_FnExactInstalledVersions.j0 k t351 t372 true l0_0 a1_0 a1_1 a1_2 a1_3 a1_4 a1_5 a1_6 l1_7 l1_8) else ((laws_eqVersionS.f k t372 t351).bind fun t398 => (laws_FnExactInstalledVersions.j0 k t351 t372 (!t398) l0_0 a1_0 a1_1 a1_2 a1_3 a1_4 a1_5 a1_6 l1_7 l1_8))))) else (some false)))) else (some false)))) else (some false))))) = some r := H
 have A22 := AM_ A220
 clear A220
 replace H := Option.bind_eq_some_iff.mp H
 obtain ⟨⟨t358, t359, t360, t361, t362, t363, t364, t365, t368⟩, A230, H⟩ := H
 replace H : ((impl_InstalledVersions.f k t354 t358 t359 t360 t361 t362 t363 t364 t365 t368).bind fun t372 => ((laws_eqVersionS.f k t372 t351).bind fun t375 => (if t375 = true then ((laws_toStore.f k l0_0).bind fun t376 => ((laws_eqStore.f k t354 t376).bind fun t379 => (if t379 = true then ((laws_toTransaction.f k a1_0 a1_1 a1_2 a1_3 a1_4 a1_5 a1_6 l1_7 l1_8).bind fun bt380 => ((laws_eqTransaction.f k t358 t359 t360 t361 t362 t363 t364 t365 t368 bt380.1 bt380.2.1 bt380.2.2.1 bt380.2.2.2.1 bt380.2.2.2.2.1 bt380.2.2.2.2.2.1 bt380.2.2.2.2.2.2.1 bt380.2.2.2.2.2.2.2.1 bt380.2.2.2.2.2.2.2.2).bind fun t393 => (if t393 = true then ((laws_markStore.f k t354 1).bind fun t394 => ((laws_markTransaction.f k t358 t359 t360 t361 t362 t363 t364 t365 t368 t394).bind fun bt395 => (if bt395.1 < 0 then (laws_FnExactInstalledVersions.j0 k t351 t372 true l0_0 a1_0 a1_1 a1_2 a1_3 a1_4 a1_5 a1_6 l1_7 l1_8) else ((laws_eqVersionS.f k t372 t351).bind fun t398 => (laws_FnExactInstalledVersions.j0 k t351 t372 (!t398) l0_0 a1_0 a1_1 a1_2 a1_3 a1_4 a1_5 a1_6 l1_7 l1_8))))) else (some false)))) else (some false)))) else (some false)))) = some r := H
 have A23 := AM_ A230
 clear A230
 replace H := Option.bind_eq_some_iff.mp H
 obtain ⟨t372, A240, H⟩ := H
 replace H : ((laws_eqVersionS.f k t372 t351).bind fun t375 => (if t375 = true then ((laws_toStore.f k l0_0).bind fun t376 => ((laws_eqStore.f k t354 t376).bind fun t379 => (if t379 = true then ((laws_toTransaction.f k a1_0 a1_1 a1_2 a1_3 a1_4 a1_5 a1_6 l1_7 l1_8).bind fun bt380 => ((laws_eqTransaction.f k t358 t359 t360 t361 t362 t363 t364 t365 t368 bt380.1 bt380.2.1 bt380.2.2.1 bt380.2.2.2.1 bt380.2.2.2.2.1 bt380.2.2.2.2.2.1 bt380.2.2.2.2.2.2.1 bt380.2.2.2.2.2.2.2.1 bt380.2.2.2.2.2.2.2.2).bind fun t393 => (if t393 = true then ((laws_markStore.f k t354 1).bind fun t394 => ((laws_markTransaction.f k t358 t359 t360 t361 t362 t363 t364 t365 t368 t394).bind fun bt395 => (if bt395.1 < 0 then (laws_FnExactInstalledVersions.j0 k t351 t372 true l0_0 a1_0 a1_1 a1_2 a1_3 a1_4 a1_5 a1_6 l1_7 l1_8) else ((laws_eqVersionS.f k t372 t351).bind fun t398 => (laws_FnExactInstalledVersions.j0 k t351 t372 (!t398) l0_0 a1_0 a1_1 a1_2 a1_3 a1_4 a1_5 a1_6 l1_7 l1_8))))) else (some false)))) else (some false)))) else (some false))) = some r := H
 have A24 := AM_ A240
 clear A240
 replace H := Option.bind_eq_some_iff.mp H
 obtain ⟨t375, A250, H⟩ := H
 replace H : (if t375 = true then ((laws_toStore.f k l0_0).bind fun t376 => ((laws_eqStore.f k t354 t376).bind fun t379 => (if t379 = true then ((laws_toTransaction.f k a1_0 a1_1 a1_2 a1_3 a1_4 a1_5 a1_6 l1_7 l1_8).bind fun bt380 => ((laws_eqTransaction.f k t358 t359 t360 t361 t362 t363 t364 t365 t368 bt380.1 bt380.2.1 bt380.2.2.1 bt380.2.2.2.1 bt380.2.2.2.2.1 bt380.2.2.2.2.2.1 bt380.2.2.2.2.2.2.1 bt380.2.2.2.2.2.2.2.1 bt380.2.2.2.2.2.2.2.2).bind fun t393 => (if t393 = true then ((laws_markStore.f k t354 1).bind fun t394 => ((laws_markTransaction.f k t358 t359 t360 t361 t362 t363 t364 t365 t368 t394).bind fun bt395 => (if bt395.1 < 0 then (laws_FnExactInstalledVersions.j0 k t351 t372 true l0_0 a1_0 a1_1 a1_2 a1_3 a1_4 a1_5 a1_6 l1_7 l1_8) else ((laws_eqVersionS.f k t372 t351).bind fun t398 => (laws_FnExactInstalledVersions.j0 k t351 t372 (!t398) l0_0 a1_0 a1_1 a1_2 a1_3 a1_4 a1_5 a1_6 l1_7 l1_8))))) else (some false)))) else (some false)))) else (some false)) = some r := H
 have A25 := AM_ A250
 clear A250
 go_enter Try.func11, Try.ntmps11
 try go_wp2_with (first | ((with_reducible refine gate_dst (N := 2) rfl ?_); refine box_event ?hg (N := 2) ?hd (cs := #[.slice A0_0 l0_0.length c0_0]) (t := 39) ?hr ?_; (case hd => rfl); (case hg => rfl); (case hr => first | (go_simp; done) | (go_simp; rfl)); intro gb331 hg w226 hbox hb; have BK331 := AM_ (hbox); have GW331 := AM_ ((GS HB.out hg)); have GE331 := AM_ ((GS HB.out hg)); replace HB := AM_ (below_step (BT HB.out) hb); clear hb hbox hg) | ((with_reducible refine gate_dst (N := 3) rfl ?_); refine box_event ?hg (N := 3) ?hd (cs := #[.int .i64 a1_0, .int .i64 a1_1, .int .i64 a1_2, .int .i64 a1_3, .int .i64 a1_4, .int .i64 a1_5, .int .i64 a1_6, .slice A1_7 l1_7.length c1_7, .slice A1_8 l1_8.length c1_8]) (t := 60) ?hr ?_; (case hd => rfl); (case hg => rfl); (case hr => first | (go_simp; done) | (go_simp; rfl)); intro gb332 hg w227 hbox hb; have BK332 := AM_ (hbox); have GW332 := AM_ ((GS HB.out hg)); have GE332 := AM_ ((GS HB.out hg)); replace HB := AM_ (below_step (BT HB.out) hb); have NB331_332 := AM_ ((NL BK331.out hg)); have NB332_331 := AM_ ((NG BK331.out hg)); replace BK331 := AM_ (BB BK331.out hb); clear hb hbox hg; have hnb228 := NB331_332.out; have hnc228 := NB332_331.out; obtain ⟨hcz229_0, hfz229_0⟩ := bk1 BK331.out) | ((with_reducible refine gate_callee (f := 32) rfl ?_); refine goesL_ (some 16) rfl rfl Try.func32 (by kernel_rfl) rfl #[.agg #[.slice A0_0 l0_0.length c0_0], .int .i64 1048576] rfl (by (try simp only [List.map_toArray, List.map_cons, List.map_nil]); first | done | rfl | (simp only [List.length_drop, List.length_take]; rfl)) ?_; (with_reducible refine (laws_szStore.calls k _ _ l0_0 1048576 t333 _ ?side1 ?side2 A3.out).mono ?_); (case side1 => exact CB HR0_0.out HB.out); (case side2 => exact HC0_0.out); rintro e w230 ⟨rfl, hb⟩; refine ⟨_, rfl, ?_⟩; replace BK331 := AM_ (BB BK331.out hb); replace BK332 := AM_ (BB BK332.out hb); replace HB := AM_ (below_step (BT HB.out) hb); (try clear hb); (try clear hb2); (try clear hk); (try clear hi); obtain ⟨hcz231_0, hcz231_1, hcz231_2, hcz231_3, hcz231_4, hcz231_5, hcz231_6, hcz231_7, hcz231_8, hfz231_0, hfz231_1, hfz231_2, hfz231_3, hfz231_4, hfz231_5, hfz231_6, hfz231_7, hfz231_8⟩ := bk9 BK332.out) | ((with_reducible refine gate_callee (f := 33) rfl ?_); refine goesL_ (some 21) rfl rfl Try.func33 (by kernel_rfl) rfl #[.agg #[.int .i64 a1_0, .int .i64 a1_1, .int .i64 a1_2, .int .i64 a1_3, .int .i64 a1_4, .int .i64 a1_5, .int .i64 a1_6, .slice A1_7 l1_7.length c1_7, .slice A1_8 l1_8.length c1_8], .int .i64 t333] rfl (by (try simp only [List.map_toArray, List.map_cons, List.map_nil]); first | done | rfl | (simp only [List.length_drop, List.length_take]; rfl)) ?_; (with_reducible refine (laws_szTransaction.calls a1_0 a1_1 a1_2 a1_3 a1_4 a1_5 a1_6 _ _ l1_7 _ _ l1_8 t333 t334 _ ?side1 ?side2 ?side3 ?side4 A10.out).mono ?_); (case side1 => exact CB HR1_7.out HB.out); (case side2 => exact HC1_7.out); (case side3 => exact CB HR1_8.out HB.out); (case side4 => exact HC1_8.out); rintro e w232 ⟨rfl, hb⟩; refine ⟨_, rfl, ?_⟩; replace BK331 := AM_ (BB BK331.out hb); replace BK332 := AM_ (BB BK332.out hb); replace HB := AM_ (below_step (BT HB.out) hb); (try clear hb); (try clear hb2); (try clear hk); (try clear hi)))
 replace BK331 := AM_ (blk_drew BK331.out)
 replace BK332 := AM_ (blk_drew BK332.out)
 replace HB := AM_ (below_drew1 HB.out)
 refine start_ (n := 6) (S := fun w' => w'.cell? ⟨gb331, 0, none⟩ = some (.slice A0_0 l0_0.length c0_0) ∧ w'.cell? ⟨gb332, 0, none⟩ = some (.int .i64 a1_0) ∧ w'.cell? ⟨gb332, 1, none⟩ = some (.int .i64 a1_1) ∧ w'.cell? ⟨gb332, 2, none⟩ = some (.int .i64 a1_2) ∧ w'.cell? ⟨gb332, 3, none⟩ = some (.int .i64 a1_3) ∧ w'.cell? ⟨gb332, 4, none⟩ = some (.int .i64 a1_4) ∧ w'.cell? ⟨gb332, 5, none⟩ = some (.int .i64 a1_5) ∧ w'.cell? ⟨gb332, 6, none⟩ = some (.int .i64 a1_6) ∧ w'.cell? ⟨gb332, 7, none⟩ = some (.slice A1_7 l1_7.length c1_7) ∧ w'.cell? ⟨gb332, 8, none⟩ = some (.slice A1_8 l1_8.length c1_8)) (ds := []) (bs 0 6) (by kernel_rfl) rfl rfl ⟨bc BK331.out 0, bc BK332.out 0, bc BK332.out 1, bc BK332.out 2, bc BK332.out 3, bc BK332.out 4, bc BK332.out 5, bc BK332.out 6, bc BK332.out 7, bc BK332.out 8⟩ (fun hHeld => ?_)
 generalize w232.drew = w233 at BK331 BK332 HB hHeld ⊢
 refine take_ (i := 0) (N := some 24) (v := ?_) (a' := ?_) (bs 1 6) rfl rfl (by kernel_rfl) (fun _ _ _ h => h) (Or.inl ⟨by rfl, ?_⟩) hHeld ?_ ?_
 rotate_left
 ·rintro w' ⟨s0, s1, s2, s3, s4, s5, s6, s7, s8, s9⟩
  go_simp
  with_reducible rfl
 rotate_left
 ·simp only [pA, pS, pZ, pK, i64_w, i32_w]
  rfl
 refine take_ (i := 2) (N := some 26) (v := ?_) (a' := ?_) (bs 5 6) rfl rfl (by kernel_rfl) (fun _ _ _ h => h) (Or.inl ⟨by rfl, ?_⟩) hHeld ?_ ?_
 rotate_left
 ·rintro w' ⟨s0, s1, s2, s3, s4, s5, s6, s7, s8, s9⟩
  go_simp
  with_reducible rfl
 rotate_left
 ·simp only [pA, pS, pZ, pK, i64_w, i32_w]
  rfl
 refine one_ (i := 1) (N := some 25) (bs 7 6) rfl rfl (by kernel_rfl) (by decide) (fun K hK => ?_)
 refine goes_ Try.func35 (by kernel_rfl) rfl #[.agg #[.slice A0_0 l0_0.length c0_0]] (by rfl) rfl rfl (by (try simp only [List.map_toArray, List.map_cons, List.map_nil]); first | done | rfl | (simp only [List.length_drop, List.length_take]; rfl)) ?_
 with_reducible refine (laws_toStore.calls k _ _ l0_0 t335 _ ?side1 ?side2 A19.out).mono ?_
 (case side1 => exact CB HR0_0.out HB.out)
 (case side2 => exact HC0_0.out)
 rintro e w234 ⟨v336, rfl, ho0, hb⟩
 refine ⟨_, rfl, ?_⟩
 have HO337 := AM_ (Kd.S_lower ho0 (below_size (BT HB.out)))
 replace BK331 := AM_ (BB BK331.out hb)
 replace BK332 := AM_ (BB BK332.out hb)
 replace HB := AM_ (below_step (BT HB.out) hb)
 (try clear hb)
 (try clear hb2)
 (try clear hk)
 (try clear hi)
 (try clear ho0)
 refine hK.out _ _ ⟨bc BK331.out 0, bc BK332.out 0, bc BK332.out 1, bc BK332.out 2, bc BK332.out 3, bc BK332.out 4, bc BK332.out 5, bc BK332.out 6, bc BK332.out 7, bc BK332.out 8⟩ (fun hHeld => ?_)
 clear hK K
 refine norm_ (a' := ?_) ?_ ?_
 rotate_left
 ·show Act.put _ (some 25) _ = _
  simp only [pA, pS, pZ, pK, i64_w, i32_w]
  rfl
 refine one_ (i := 3) (N := some 27) (bs 15 6) rfl rfl (by kernel_rfl) (by decide) (fun K hK => ?_)
 refine goes_ Try.func36 (by kernel_rfl) rfl #[.agg #[.int .i64 a1_0, .int .i64 a1_1, .int .i64 a1_2, .int .i64 a1_3, .int .i64 a1_4, .int .i64 a1_5, .int .i64 a1_6, .slice A1_7 l1_7.length c1_7, .slice A1_8 l1_8.length c1_8]] (by rfl) rfl rfl (by (try simp only [List.map_toArray, List.map_cons, List.map_nil]); first | done | rfl | (simp only [List.length_drop, List.length_take]; rfl)) ?_
 with_reducible refine (laws_toTransaction.calls k a1_0 a1_1 a1_2 a1_3 a1_4 a1_5 a1_6 _ _ l1_7 _ _ l1_8 t338 t339 t340 t341 t342 t343 t344 t345 t348 _ ?side1 ?side2 ?side3 ?side4 A20.out).mono ?_
 (case side1 => exact CB HR1_7.out HB.out)
 (case side2 => exact HC1_7.out)
 (case side3 => exact CB HR1_8.out HB.out)
 (case side4 => exact HC1_8.out)
 rintro e w235 ⟨v346, v349, rfl, ho0, ho1, hb⟩
 refine ⟨_, rfl, ?_⟩
 replace HO337 := AM_ (Kd.S_below (ST HO337.out) hb)
 have HO347 := AM_ (Kd.R_lower ho0 (below_size (BT HB.out)))
 have HO350 := AM_ (Kd.R_lower ho1 (below_size (BT HB.out)))
 replace BK331 := AM_ (BB BK331.out hb)
 replace BK332 := AM_ (BB BK332.out hb)
 replace HB := AM_ (below_step (BT HB.out) hb)
 (try clear hb)
 (try clear hb2)
 (try clear hk)
 (try clear hi)
 (try clear ho0)
 (try clear ho1)
 obtain ⟨Ao236, co236, eo236⟩ := Kd.S_slice HO337.out
 (first | subst eo236 | (injection eo236 with f1_ f2_ f3_; have f4_ := f1_.symm; have f5_ := f3_.symm; clear f1_ f2_ f3_; subst f4_; subst f5_))
 obtain ⟨Ao237, co237, eo237⟩ := Kd.R_slice HO347.out
 (first | subst eo237 | (injection eo237 with f1_ f2_ f3_; have f4_ := f1_.symm; have f5_ := f3_.symm; clear f1_ f2_ f3_; subst f4_; subst f5_))
 obtain ⟨Ao238, co238, eo238⟩ := Kd.R_slice HO350.out
 (first | subst eo238 | (injection eo238 with f1_ f2_ f3_; have f4_ := f1_.symm; have f5_ := f3_.symm; clear f1_ f2_ f3_; subst f4_; subst f5_))
 refine hK.out _ _ ⟨bc BK331.out 0, bc BK332.out 0, bc BK332.out 1, bc BK332.out 2, bc BK332.out 3, bc BK332.out 4, bc BK332.out 5, bc BK332.out 6, bc BK332.out 7, bc BK332.out 8⟩ (fun hHeld => ?_)
 clear hK K
 refine norm_ (a' := ?_) ?_ ?_
 rotate_left
 ·show Act.put _ (some 27) _ = _
  simp only [pA, pS, pZ, pK, i64_w, i32_w]
  rfl
 refine one_ (i := 4) (N := some 28) (bs 31 6) rfl rfl (by kernel_rfl) (by decide) (fun K hK => ?_)
 refine goes_ Try.func59 (by kernel_rfl) rfl #[.agg #[.slice Ao236 t335.length co236], .agg #[.int .i64 t338, .int .i64 t339, .int .i64 t340, .int .i64 t341, .int .i64 t342, .int .i64 t343, .int .i64 t344, .slice Ao237 t345.length co237, .slice Ao238 t348.length co238]] (by rfl) rfl rfl (by (try simp only [List.map_toArray, List.map_cons, List.map_nil]); first | done | rfl | (simp only [List.length_drop, List.length_take]; rfl)) ?_
 with_reducible refine (spec_InstalledVersions.calls k _ _ t335 t338 t339 t340 t341 t342 t343 t344 _ _ t345 _ _ t348 t351 _ ?side1 ?side2 ?side3 ?side4 ?side5 ?side6 A21.out).mono ?_
 (case side1 => exact Kd.C_below (Kd.S_reads' HO337.out).2.2 (BL (Below.refl _ _) rfl rfl rfl rfl))
 (case side2 => exact (Kd.S_reads' HO337.out).2.1)
 (case side3 => exact Kd.C_below (Kd.R_reads' HO347.out).2.2 (BL (Below.refl _ _) rfl rfl rfl rfl))
 (case side4 => exact (Kd.R_reads' HO347.out).2.1)
 (case side5 => exact Kd.C_below (Kd.R_reads' HO350.out).2.2 (BL (Below.refl _ _) rfl rfl rfl rfl))
 (case side6 => exact (Kd.R_reads' HO350.out).2.1)
 rintro e w239 ⟨v352, rfl, ho0, hb⟩
 refine ⟨_, rfl, ?_⟩
 replace HO337 := AM_ (Kd.S_elder' (ST HO337.out) (Kd.R_base ho0) hb)
 replace HO347 := AM_ (Kd.R_below (RT HO347.out) hb)
 replace HO350 := AM_ (Kd.R_below (RT HO350.out) hb)
 have HO353 := AM_ (Kd.R_lower ho0 (below_size (BT HB.out)))
 replace BK331 := AM_ (BB BK331.out hb)
 replace BK332 := AM_ (BB BK332.out hb)
 replace HB := AM_ (below_step (BT HB.out) hb)
 (try clear hb)
 (try clear hb2)
 (try clear hk)
 (try clear hi)
 (try clear ho0)
 refine hK.out _ _ ⟨bc BK331.out 0, bc BK332.out 0, bc BK332.out 1, bc BK332.out 2, bc BK332.out 3, bc BK332.out 4, bc BK332.out 5, bc BK332.out 6, bc BK332.out 7, bc BK332.out 8⟩ (fun hHeld => ?_)
 clear hK K
 refine norm_ (a' := ?_) ?_ ?_
 rotate_left
 ·show Act.put _ (some 28) _ = _
  simp only [pA, pS, pZ, pK, i64_w, i32_w]
  rfl
 refine pure_ (i := 5) (N := some 6) (v := ?_) (a' := ?_) (bs 63 6) rfl rfl (by kernel_rfl) (fun _ _ _ h => h) (Or.inl ⟨by rfl, ?_⟩) ?_ ?_
 rotate_left
 ·intro w'
  go_simp
  with_reducible rfl
 rotate_left
 ·simp only [pA, pS, pZ, pK, i64_w, i32_w]
  rfl
 refine done_ (by kernel_rfl) ?_
 obtain ⟨hcz240_0, hfz240_0⟩ := bk1 BK331.out
 go_upto_region 12 with (first | ((with_reducible refine gate_callee (f := 35) rfl ?_); refine goesL_ (some 30) rfl rfl Try.func35 (by kernel_rfl) rfl #[.agg #[.slice A0_0 l0_0.length c0_0]] rfl (by (try simp only [List.map_toArray, List.map_cons, List.map_nil]); first | done | rfl | (simp only [List.length_drop, List.length_take]; rfl)) ?_; (with_reducible refine (laws_toStore.calls k _ _ l0_0 t354 _ ?side1 ?side2 A22.out).mono ?_); (case side1 => exact CB HR0_0.out HB.out); (case side2 => exact HC0_0.out); rintro e w241 ⟨v355, rfl, ho0, hb⟩; refine ⟨_, rfl, ?_⟩; replace HO347 := AM_ (Kd.R_below (RT HO347.out) hb); replace HO350 := AM_ (Kd.R_below (RT HO350.out) hb); have HO356 := AM_ (Kd.S_lower (Kd.S_new' (Kd.S_new' ho0 (Kd.S_lt (ST HO337.out))) (Kd.R_lt (RT HO353.out))) (below_size (BT HB.out))); replace HO337 := AM_ (Kd.S_elder' (ST HO337.out) (Kd.S_base ho0) hb); replace HO353 := AM_ (Kd.R_below (RT HO353.out) hb); replace BK331 := AM_ (BB BK331.out hb); replace BK332 := AM_ (BB BK332.out hb); replace HB := AM_ (below_step (BT HB.out) hb); (try clear hb); (try clear hb2); (try clear hk); (try clear hi); (try clear ho0)) | ((with_reducible refine gate_dst (N := 7) rfl ?_); refine box_event ?hg (N := 7) ?hd (cs := #[.slice none 0 0]) (t := 49) ?hr ?_; (case hd => rfl); (case hg => rfl); (case hr => first | (go_simp; done) | (go_simp; rfl)); intro gb357 hg w242 hbox hb; replace HO337 := AM_ (Kd.S_below (ST HO337.out) hb); replace HO347 := AM_ (Kd.R_below (RT HO347.out) hb); replace HO350 := AM_ (Kd.R_below (RT HO350.out) hb); replace HO353 := AM_ (Kd.R_below (RT HO353.out) hb); replace HO356 := AM_ (Kd.S_below (ST HO356.out) hb); have BK357 := AM_ (hbox); have GW357 := AM_ ((GS HB.out hg)); have GE357 := AM_ ((GS HB.out hg)); replace HB := AM_ (below_step (BT HB.out) hb); have NB331_357 := AM_ ((NL BK331.out hg)); have NB357_331 := AM_ ((NG BK331.out hg)); replace BK331 := AM_ (BB BK331.out hb); have NB332_357 := AM_ ((NL BK332.out hg)); have NB357_332 := AM_ ((NG BK332.out hg)); replace BK332 := AM_ (BB BK332.out hb); clear hb hbox hg; obtain ⟨Ao243, co243, eo243⟩ := Kd.S_slice HO356.out; subst eo243; have hnb244 := NB357_331.out; have hnc244 := NB331_357.out; have hnb245 := NB357_332.out; have hnc245 := NB332_357.out; obtain ⟨hcz246_0, hfz246_0⟩ := bk1 BK357.out; obtain ⟨hcz247_0, hcz247_1, hcz247_2, hcz247_3, hcz247_4, hcz247_5, hcz247_6, hcz247_7, hcz247_8, hfz247_0, hfz247_1, hfz247_2, hfz247_3, hfz247_4, hfz247_5, hfz247_6, hfz247_7, hfz247_8⟩ := bk9 BK332.out) | ((with_reducible refine gate_callee (f := 36) rfl ?_); refine goesL_ (some 32) rfl rfl Try.func36 (by kernel_rfl) rfl #[.agg #[.int .i64 a1_0, .int .i64 a1_1, .int .i64 a1_2, .int .i64 a1_3, .int .i64 a1_4, .int .i64 a1_5, .int .i64 a1_6, .slice A1_7 l1_7.length c1_7, .slice A1_8 l1_8.length c1_8]] rfl (by (try simp only [List.map_toArray, List.map_cons, List.map_nil]); first | done | rfl | (simp only [List.length_drop, List.length_take]; rfl)) ?_; (with_reducible refine (laws_toTransaction.calls k a1_0 a1_1 a1_2 a1_3 a1_4 a1_5 a1_6 _ _ l1_7 _ _ l1_8 t358 t359 t360 t361 t362 t363 t364 t365 t368 _ ?side1 ?side2 ?side3 ?side4 A23.out).mono ?_); (case side1 => exact Kd.C_below HR1_7.out (BT HB.out)); (case side2 => exact HC1_7.out); (case side3 => exact Kd.C_below HR1_8.out (BT HB.out)); (case side4 => exact HC1_8.out); rintro e w248 ⟨v366, v369, rfl, ho0, ho1, hb⟩; refine ⟨_, rfl, ?_⟩; replace HO337 := AM_ (Kd.S_below (SF HO337.out BK357.out) hb); replace HO353 := AM_ (Kd.R_below (RF HO353.out BK357.out) hb); replace HO356 := AM_ (Kd.S_below (SF HO356.out BK357.out) hb); have HO367 := AM_ (Kd.R_lower (Kd.R_new' ho0 (Kd.R_lt (RF HO347.out BK357.out))) (below_size (BT HB.out))); replace HO347 := AM_ (Kd.R_elder' (RF HO347.out BK357.out) (Kd.R_base ho0) hb); have HO370 := AM_ (Kd.R_lower (Kd.R_new' ho1 (Kd.R_lt (RF HO350.out BK357.out))) (below_size (BT HB.out))); replace HO350 := AM_ (Kd.R_elder' (RF HO350.out BK357.out) (Kd.R_base ho1) hb); replace BK331 := AM_ (BF BK331.out NB331_357.out hb); replace BK332 := AM_ (BF BK332.out NB332_357.out hb); replace BK357 := AM_ (BP #[.slice Ao243 t354.length co243] BK357.out hb); replace HB := AM_ (below_step (BT HB.out) hb); (try clear hb); (try clear hb2); (try clear hk); (try clear hi); (try clear ho0); (try clear ho1)) | ((with_reducible refine gate_dst (N := 8) rfl ?_); refine box_event ?hg (N := 8) ?hd (cs := #[.int .i64 0, .int .i64 0, .int .i64 0, .int .i64 0, .int .i64 0, .int .i64 0, .int .i64 0, .slice none 0 0, .slice none 0 0]) (t := 68) ?hr ?_; (case hd => rfl); (case hg => rfl); (case hr => first | (go_simp; done) | (go_simp; rfl)); intro gb371 hg w249 hbox hb; replace HO337 := AM_ (Kd.S_below (ST HO337.out) hb); replace HO347 := AM_ (Kd.R_below (RT HO347.out) hb); replace HO350 := AM_ (Kd.R_below (RT HO350.out) hb); replace HO353 := AM_ (Kd.R_below (RT HO353.out) hb); replace HO356 := AM_ (Kd.S_below (ST HO356.out) hb); replace HO367 := AM_ (Kd.R_below (RT HO367.out) hb); replace HO370 := AM_ (Kd.R_below (RT HO370.out) hb); have BK371 := AM_ (hbox); have GW371 := AM_ ((GS HB.out hg)); have GE371 := AM_ ((GS HB.out hg)); replace HB := AM_ (below_step (BT HB.out) hb); have NB331_371 := AM_ ((NL BK331.out hg)); have NB371_331 := AM_ ((NG BK331.out hg)); replace BK331 := AM_ (BB BK331.out hb); have NB332_371 := AM_ ((NL BK332.out hg)); have NB371_332 := AM_ ((NG BK332.out hg)); replace BK332 := AM_ (BB BK332.out hb); have NB357_371 := AM_ ((NL BK357.out hg)); have NB371_357 := AM_ ((NG BK357.out hg)); replace BK357 := AM_ (BB BK357.out hb); clear hb hbox hg; have hnb250 := NB371_331.out; have hnc250 := NB331_371.out; have hnb251 := NB371_332.out; have hnc251 := NB332_371.out; have hnb252 := NB371_357.out; have hnc252 := NB357_371.out; obtain ⟨hcz253_0, hcz253_1, hcz253_2, hcz253_3, hcz253_4, hcz253_5, hcz253_6, hcz253_7, hcz253_8, hfz253_0, hfz253_1, hfz253_2, hfz253_3, hfz253_4, hfz253_5, hfz253_6, hfz253_7, hfz253_8⟩ := bk9 BK371.out; obtain ⟨Ao254, co254, eo254⟩ := Kd.R_slice HO367.out; subst eo254; obtain ⟨Ao255, co255, eo255⟩ := Kd.R_slice HO370.out; subst eo255; obtain ⟨hcz256_0, hfz256_0⟩ := bk1 BK357.out) | ((with_reducible refine gate_callee (f := 60) rfl ?_); refine goesL_ (some 35) rfl rfl Try.func60 (by kernel_rfl) rfl #[.agg #[.slice Ao243 t354.length co243], .agg #[.int .i64 t358, .int .i64 t359, .int .i64 t360, .int .i64 t361, .int .i64 t362, .int .i64 t363, .int .i64 t364, .slice Ao254 t365.length co254, .slice Ao255 t368.length co255]] rfl (by (try simp only [List.map_toArray, List.map_cons, List.map_nil]); first | done | rfl | (simp only [List.length_drop, List.length_take]; rfl)) ?_; (with_reducible refine (impl_InstalledVersions.calls k _ _ t354 t358 t359 t360 t361 t362 t363 t364 _ _ t365 _ _ t368 t372 _ ?side1 ?side2 ?side3 ?side4 ?side5 ?side6 A24.out).mono ?_); (case side1 => exact CG HO356.out BK371.out); (case side2 => exact (Kd.S_reads' HO356.out).2.1); (case side3 => exact CF HO367.out BK371.out); (case side4 => exact (Kd.R_reads' HO367.out).2.1); (case side5 => exact CF HO370.out BK371.out); (case side6 => exact (Kd.R_reads' HO370.out).2.1); rintro e w257 ⟨v373, rfl, ho0, hb⟩; refine ⟨_, rfl, ?_⟩; replace HO337 := AM_ (Kd.S_elder' (SF HO337.out BK371.out) (Kd.R_base ho0) hb); replace HO347 := AM_ (Kd.R_below (RF HO347.out BK371.out) hb); replace HO350 := AM_ (Kd.R_below (RF HO350.out BK371.out) hb); replace HO356 := AM_ (Kd.S_elder' (SF HO356.out BK371.out) (Kd.R_base ho0) hb); replace HO367 := AM_ (Kd.R_below (RF HO367.out BK371.out) hb); replace HO370 := AM_ (Kd.R_below (RF HO370.out BK371.out) hb); have HO374 := AM_ (Kd.R_lower (Kd.R_new' ho0 (Kd.R_lt (RF HO353.out BK371.out))) (below_size (BT HB.out))); replace HO353 := AM_ (Kd.R_elder' (RF HO353.out BK371.out) (Kd.R_base ho0) hb); replace BK331 := AM_ (BF BK331.out NB331_371.out hb); replace BK332 := AM_ (BF BK332.out NB332_371.out hb); replace BK357 := AM_ (BF BK357.out NB357_371.out hb); replace BK371 := AM_ (BP #[.int .i64 t358, .int .i64 t359, .int .i64 t360, .int .i64 t361, .int .i64 t362, .int .i64 t363, .int .i64 t364, .slice Ao254 t365.length co254, .slice Ao255 t368.length co255] BK371.out hb); replace HB := AM_ (below_step (BT HB.out) hb); (try clear hb); (try clear hb2); (try clear hk); (try clear hi); (try clear ho0); obtain ⟨Ao258, co258, eo258⟩ := Kd.R_slice HO374.out; subst eo258; obtain ⟨Ao259, co259, eo259⟩ := Kd.R_slice HO353.out; subst eo259))
 by_cases c26 : t375 = true
 rotate_left
 ·replace c26 := Bool.eq_false_iff.mpr c26
  subst c26
  have H1 : (some false) = some r := by rw [if_neg (show ¬ (false = true) by decide)] at H; exact H
  clear H
  have H := H1
  clear H1
  obtain rfl := Option.some.inj H
  try go_wp2_with (first | ((with_reducible refine gate_callee (f := 61) rfl ?_); refine goesL_ (some 38) rfl rfl Try.func61 (by kernel_rfl) rfl #[.slice Ao258 t372.length co258, .slice Ao259 t351.length co259] rfl (by (try simp only [List.map_toArray, List.map_cons, List.map_nil]); first | done | rfl | (simp only [List.length_drop, List.length_take]; rfl)) ?_; (with_reducible refine (laws_eqVersionS.calls k _ _ t372 _ _ t351 false _ ?side1 ?side2 ?side3 ?side4 A25.out).mono ?_); (case side1 => exact Kd.C_below (Kd.R_reads' HO374.out).2.2 (BL (Below.refl _ _) rfl rfl rfl rfl)); (case side2 => exact (Kd.R_reads' HO374.out).2.1); (case side3 => exact Kd.C_below (Kd.R_reads' HO353.out).2.2 (BL (Below.refl _ _) rfl rfl rfl rfl)); (case side4 => exact (Kd.R_reads' HO353.out).2.1); rintro e w260 ⟨rfl, hb⟩; refine ⟨_, rfl, ?_⟩; replace HO337 := AM_ (Kd.S_below (ST HO337.out) hb); replace HO347 := AM_ (Kd.R_below (RT HO347.out) hb); replace HO350 := AM_ (Kd.R_below (RT HO350.out) hb); replace HO353 := AM_ (Kd.R_below (RT HO353.out) hb); replace HO356 := AM_ (Kd.S_below (ST HO356.out) hb); replace HO367 := AM_ (Kd.R_below (RT HO367.out) hb); replace HO370 := AM_ (Kd.R_below (RT HO370.out) hb); replace HO374 := AM_ (Kd.R_below (RT HO374.out) hb); replace BK331 := AM_ (BB BK331.out hb); replace BK332 := AM_ (BB BK332.out hb); replace BK357 := AM_ (BB BK357.out hb); replace BK371 := AM_ (BB BK371.out hb); replace HB := AM_ (below_step (BT HB.out) hb); (try clear hb); (try clear hb2); (try clear hk); (try clear hi)))
  go_ret
  exact QT (BT HB.out)
 subst c26
 have H1 : ((laws_toStore.f k l0_0).bind fun t376 => ((laws_eqStore.f k t354 t376).bind fun t379 => (if t379 = true then ((laws_toTransaction.f k a1_0 a1_1 a1_2 a1_3 a1_4 a1_5 a1_6 l1_7 l1_8).bind fun bt380 => ((laws_eqTransaction.f k t358 t359 t360 t361 t362 t363 t364 t365 t368 bt380.1 bt380.2.1 bt380.2.2.1 bt380.2.2.2.1 bt380.2.2.2.2.1 bt380.2.2.2.2.2.1 bt380.2.2.2.2.2.2.1 bt380.2.2.2.2.2.2.2.1 bt380.2.2.2.2.2.2.2.2).bind fun t393 => (if t393 = true then ((laws_markStore.f k t354 1).bind fun t394 => ((laws_markTransaction.f k t358 t359 t360 t361 t362 t363 t364 t365 t368 t394).bind fun bt395 => (if bt395.1 < 0 then (laws_FnExactInstalledVersions.j0 k t351 t372 true l0_0 a1_0 a1_1 a1_2 a1_3 a1_4 a1_5 a1_6 l1_7 l1_8) else ((laws_eqVersionS.f k t372 t351).bind fun t398 => (laws_FnExactInstalledVersions.j0 k t351 t372 (!t398) l0_0 a1_0 a1_1 a1_2 a1_3 a1_4 a1_5 a1_6 l1_7 l1_8))))) else (some false)))) else (some false)))) = some r := by rw [if_pos rfl] at H; exact H
 clear H
 have H := H1
 clear H1
 replace H := Option.bind_eq_some_iff.mp H
 obtain ⟨t376, A270, H⟩ := H
 replace H : ((laws_eqStore.f k t354 t376).bind fun t379 => (if t379 = true then ((laws_toTransaction.f k a1_0 a1_1 a1_2 a1_3 a1_4 a1_5 a1_6 l1_7 l1_8).bind fun bt380 => ((laws_eqTransaction.f k t358 t359 t360 t361 t362 t363 t364 t365 t368 bt380.1 bt380.2.1 bt380.2.2.1 bt380.2.2.2.1 bt380.2.2.2.2.1 bt380.2.2.2.2.2.1 bt380.2.2.2.2.2.2.1 bt380.2.2.2.2.2.2.2.1 bt380.2.2.2.2.2.2.2.2).bind fun t393 => (if t393 = true then ((laws_markStore.f k t354 1).bind fun t394 => ((laws_markTransaction.f k t358 t359 t360 t361 t362 t363 t364 t365 t368 t394).bind fun bt395 => (if bt395.1 < 0 then (laws_FnExactInstalledVersions.j0 k t351 t372 true l0_0 a1_0 a1_1 a1_2 a1_3 a1_4 a1_5 a1_6 l1_7 l1_8) else ((laws_eqVersionS.f k t372 t351).bind fun t398 => (laws_FnExactInstalledVersions.j0 k t351 t372 (!t398) l0_0 a1_0 a1_1 a1_2 a1_3 a1_4 a1_5 a1_6 l1_7 l1_8))))) else (some false)))) else (some false))) = some r := H
 have A27 := AM_ A270
 clear A270
 replace H := Option.bind_eq_some_iff.mp H
 obtain ⟨t379, A280, H⟩ := H
 replace H : (if t379 = true then ((laws_toTransaction.f k a1_0 a1_1 a1_2 a1_3 a1_4 a1_5 a1_6 l1_7 l1_8).bind fun bt380 => ((laws_eqTransaction.f k t358 t359 t360 t361 t362 t363 t364 t365 t368 bt380.1 bt380.2.1 bt380.2.2.1 bt380.2.2.2.1 bt380.2.2.2.2.1 bt380.2.2.2.2.2.1 bt380.2.2.2.2.2.2.1 bt380.2.2.2.2.2.2.2.1 bt380.2.2.2.2.2.2.2.2).bind fun t393 => (if t393 = true then ((laws_markStore.f k t354 1).bind fun t394 => ((laws_markTransaction.f k t358 t359 t360 t361 t362 t363 t364 t365 t368 t394).bind fun bt395 => (if bt395.1 < 0 then (laws_FnExactInstalledVersions.j0 k t351 t372 true l0_0 a1_0 a1_1 a1_2 a1_3 a1_4 a1_5 a1_6 l1_7 l1_8) else ((laws_eqVersionS.f k t372 t351).bind fun t398 => (laws_FnExactInstalledVersions.j0 k t351 t372 (!t398) l0_0 a1_0 a1_1 a1_2 a1_3 a1_4 a1_5 a1_6 l1_7 l1_8))))) else (some false)))) else (some false)) = some r := H
 have A28 := AM_ A280
 clear A280
 by_cases c29 : t379 = true
 rotate_left
 ·replace c29 := Bool.eq_false_iff.mpr c29
  subst c29
  have H1 : (some false) = some r := by rw [if_neg (show ¬ (false = true) by decide)] at H; exact H
  clear H
  have H := H1
  clear H1
  obtain rfl := Option.some.inj H
  try go_wp2_with (first | ((with_reducible refine gate_callee (f := 61) rfl ?_); refine goesL_ (some 38) rfl rfl Try.func61 (by kernel_rfl) rfl #[.slice Ao258 t372.length co258, .slice Ao259 t351.length co259] rfl (by (try simp only [List.map_toArray, List.map_cons, List.map_nil]); first | done | rfl | (simp only [List.length_drop, List.length_take]; rfl)) ?_; (with_reducible refine (laws_eqVersionS.calls k _ _ t372 _ _ t351 true _ ?side1 ?side2 ?side3 ?side4 A25.out).mono ?_); (case side1 => exact Kd.C_below (Kd.R_reads' HO374.out).2.2 (BL (Below.refl _ _) rfl rfl rfl rfl)); (case side2 => exact (Kd.R_reads' HO374.out).2.1); (case side3 => exact Kd.C_below (Kd.R_reads' HO353.out).2.2 (BL (Below.refl _ _) rfl rfl rfl rfl)); (case side4 => exact (Kd.R_reads' HO353.out).2.1); rintro e w221 ⟨rfl, hb⟩; refine ⟨_, rfl, ?_⟩; replace HO337 := AM_ (Kd.S_below (ST HO337.out) hb); replace HO347 := AM_ (Kd.R_below (RT HO347.out) hb); replace HO350 := AM_ (Kd.R_below (RT HO350.out) hb); replace HO353 := AM_ (Kd.R_below (RT HO353.out) hb); replace HO356 := AM_ (Kd.S_below (ST HO356.out) hb); replace HO367 := AM_ (Kd.R_below (RT HO367.out) hb); replace HO370 := AM_ (Kd.R_below (RT HO370.out) hb); replace HO374 := AM_ (Kd.R_below (RT HO374.out) hb); replace BK331 := AM_ (BB BK331.out hb); replace BK332 := AM_ (BB BK332.out hb); replace BK357 := AM_ (BB BK357.out hb); replace BK371 := AM_ (BB BK371.out hb); replace HB := AM_ (below_step (BT HB.out) hb); (try clear hb); (try clear hb2); (try clear hk); (try clear hi)))
  replace HO337 := AM_ (Kd.S_drew HO337.out)
  replace HO347 := AM_ (Kd.R_drew HO347.out)
  replace HO350 := AM_ (Kd.R_drew HO350.out)
  replace HO353 := AM_ (Kd.R_drew HO353.out)
  replace HO356 := AM_ (Kd.S_drew HO356.out)
  replace HO367 := AM_ (Kd.R_drew HO367.out)
  replace HO370 := AM_ (Kd.R_drew HO370.out)
  replace HO374 := AM_ (Kd.R_drew HO374.out)
  replace BK331 := AM_ (blk_drew BK331.out)
  replace BK332 := AM_ (blk_drew BK332.out)
  replace BK357 := AM_ (blk_drew BK357.out)
  replace BK371 := AM_ (blk_drew BK371.out)
  replace HB := AM_ (below_drew1 HB.out)
  refine start_ (n := 5) (S := fun w' => w'.cell? ⟨gb357, 0, none⟩ = some (.slice Ao243 t354.length co243) ∧ w'.cell? ⟨gb331, 0, none⟩ = some (.slice A0_0 l0_0.length c0_0)) (ds := []) (bs 0 5) (by kernel_rfl) rfl rfl ⟨bc BK357.out 0, bc BK331.out 0⟩ (fun hHeld => ?_)
  generalize w221.drew = w222 at HO337 HO347 HO350 HO353 HO356 HO367 HO370 HO374 BK331 BK332 BK357 BK371 HB hHeld ⊢
  refine take_ (i := 0) (N := some 40) (v := ?_) (a' := ?_) (bs 1 5) rfl rfl (by kernel_rfl) (fun _ _ _ h => h) (Or.inl ⟨by rfl, ?_⟩) hHeld ?_ ?_
  rotate_left
  ·rintro w' ⟨s0, s1⟩
   go_simp
   with_reducible rfl
  rotate_left
  ·simp only [pA, pS, pZ, pK, i64_w, i32_w]
   rfl
  refine take_ (i := 1) (N := some 41) (v := ?_) (a' := ?_) (bs 3 5) rfl rfl (by kernel_rfl) (fun _ _ _ h => h) (Or.inl ⟨by rfl, ?_⟩) hHeld ?_ ?_
  rotate_left
  ·rintro w' ⟨s0, s1⟩
   go_simp
   with_reducible rfl
  rotate_left
  ·simp only [pA, pS, pZ, pK, i64_w, i32_w]
   rfl
  refine one_ (i := 2) (N := some 42) (bs 7 5) rfl rfl (by kernel_rfl) (by decide) (fun K hK => ?_)
  refine goes_ Try.func35 (by kernel_rfl) rfl #[.agg #[.slice A0_0 l0_0.length c0_0]] (by rfl) rfl rfl (by (try simp only [List.map_toArray, List.map_cons, List.map_nil]); first | done | rfl | (simp only [List.length_drop, List.length_take]; rfl)) ?_
  with_reducible refine (laws_toStore.calls k _ _ l0_0 t376 _ ?side1 ?side2 A27.out).mono ?_
  (case side1 => exact CB HR0_0.out HB.out)
  (case side2 => exact HC0_0.out)
  rintro e w223 ⟨v377, rfl, ho0, hb⟩
  refine ⟨_, rfl, ?_⟩
  replace HO347 := AM_ (Kd.R_below (RT HO347.out) hb)
  replace HO350 := AM_ (Kd.R_below (RT HO350.out) hb)
  replace HO367 := AM_ (Kd.R_below (RT HO367.out) hb)
  replace HO370 := AM_ (Kd.R_below (RT HO370.out) hb)
  have HO378 := AM_ (Kd.S_lower (Kd.S_new' (Kd.S_new' (Kd.S_new' (Kd.S_new' ho0 (Kd.S_lt (ST HO337.out))) (Kd.R_lt (RT HO353.out))) (Kd.S_lt (ST HO356.out))) (Kd.R_lt (RT HO374.out))) (below_size (BT HB.out)))
  replace HO337 := AM_ (Kd.S_elder' (ST HO337.out) (Kd.S_base ho0) hb)
  replace HO353 := AM_ (Kd.R_below (RT HO353.out) hb)
  replace HO356 := AM_ (Kd.S_elder' (ST HO356.out) (Kd.S_base ho0) hb)
  replace HO374 := AM_ (Kd.R_below (RT HO374.out) hb)
  replace BK331 := AM_ (BB BK331.out hb)
  replace BK332 := AM_ (BB BK332.out hb)
  replace BK357 := AM_ (BB BK357.out hb)
  replace BK371 := AM_ (BB BK371.out hb)
  replace HB := AM_ (below_step (BT HB.out) hb)
  (try clear hb)
  (try clear hb2)
  (try clear hk)
  (try clear hi)
  (try clear ho0)
  obtain ⟨Ao224, co224, eo224⟩ := Kd.S_slice HO378.out
  (first | subst eo224 | (injection eo224 with f1_ f2_ f3_; have f4_ := f1_.symm; have f5_ := f3_.symm; clear f1_ f2_ f3_; subst f4_; subst f5_))
  refine hK.out _ _ ⟨bc BK357.out 0, bc BK331.out 0⟩ (fun hHeld => ?_)
  clear hK K
  refine norm_ (a' := ?_) ?_ ?_
  rotate_left
  ·show Act.put _ (some 42) _ = _
   simp only [pA, pS, pZ, pK, i64_w, i32_w]
   rfl
  refine one_ (i := 3) (N := some 43) (bs 15 5) rfl rfl (by kernel_rfl) (by decide) (fun K hK => ?_)
  refine goes_ Try.func38 (by kernel_rfl) rfl #[.agg #[.slice Ao243 t354.length co243], .agg #[.slice Ao224 t376.length co224]] (by rfl) rfl rfl (by (try simp only [List.map_toArray, List.map_cons, List.map_nil]); first | done | rfl | (simp only [List.length_drop, List.length_take]; rfl)) ?_
  with_reducible refine (laws_eqStore.calls k _ _ t354 _ _ t376 false _ ?side1 ?side2 ?side3 ?side4 A28.out).mono ?_
  (case side1 => exact Kd.C_below (Kd.S_reads' HO356.out).2.2 (BL (Below.refl _ _) rfl rfl rfl rfl))
  (case side2 => exact (Kd.S_reads' HO356.out).2.1)
  (case side3 => exact Kd.C_below (Kd.S_reads' HO378.out).2.2 (BL (Below.refl _ _) rfl rfl rfl rfl))
  (case side4 => exact (Kd.S_reads' HO378.out).2.1)
  rintro e w225 ⟨rfl, hb⟩
  refine ⟨_, rfl, ?_⟩
  replace HO337 := AM_ (Kd.S_below (ST HO337.out) hb)
  replace HO347 := AM_ (Kd.R_below (RT HO347.out) hb)
  replace HO350 := AM_ (Kd.R_below (RT HO350.out) hb)
  replace HO353 := AM_ (Kd.R_below (RT HO353.out) hb)
  replace HO356 := AM_ (Kd.S_below (ST HO356.out) hb)
  replace HO367 := AM_ (Kd.R_below (RT HO367.out) hb)
  replace HO370 := AM_ (Kd.R_below (RT HO370.out) hb)
  replace HO374 := AM_ (Kd.R_below (RT HO374.out) hb)
  replace HO378 := AM_ (Kd.S_below (ST HO378.out) hb)
  replace BK331 := AM_ (BB BK331.out hb)
  replace BK332 := AM_ (BB BK332.out hb)
  replace BK357 := AM_ (BB BK357.out hb)
  replace BK371 := AM_ (BB BK371.out hb)
  replace HB := AM_ (below_step (BT HB.out) hb)
  (try clear hb)
  (try clear hb2)
  (try clear hk)
  (try clear hi)
  refine hK.out _ _ ⟨bc BK357.out 0, bc BK331.out 0⟩ (fun hHeld => ?_)
  clear hK K
  refine norm_ (a' := ?_) ?_ ?_
  rotate_left
  ·show Act.put _ (some 43) _ = _
   simp only [pA, pS, pZ, pK, i64_w, i32_w]
   rfl
  refine pure_ (i := 4) (N := some 44) (v := ?_) (a' := ?_) (bs 31 5) rfl rfl (by kernel_rfl) (fun _ _ _ h => h) (Or.inl ⟨by rfl, ?_⟩) ?_ ?_
  rotate_left
  ·intro w'
   go_simp
   with_reducible rfl
  rotate_left
  ·simp only [pA, pS, pZ, pK, i64_w, i32_w]
   rfl
  refine done_ (by kernel_rfl) ?_
  try go_wp2
  go_ret
  exact QT (BT HB.out)
 subst c29
 have H1 : ((laws_toTransaction.f k a1_0 a1_1 a1_2 a1_3 a1_4 a1_5 a1_6 l1_7 l1_8).bind fun bt380 => ((laws_eqTransaction.f k t358 t359 t360 t361 t362 t363 t364 t365 t368 bt380.1 bt380.2.1 bt380.2.2.1 bt380.2.2.2.1 bt380.2.2.2.2.1 bt380.2.2.2.2.2.1 bt380.2.2.2.2.2.2.1 bt380.2.2.2.2.2.2.2.1 bt380.2.2.2.2.2.2.2.2).bind fun t393 => (if t393 = true then ((laws_markStore.f k t354 1).bind fun t394 => ((laws_markTransaction.f k t358 t359 t360 t361 t362 t363 t364 t365 t368 t394).bind fun bt395 => (if bt395.1 < 0 then (laws_FnExactInstalledVersions.j0 k t351 t372 true l0_0 a1_0 a1_1 a1_2 a1_3 a1_4 a1_5 a1_6 l1_7 l1_8) else ((laws_eqVersionS.f k t372 t351).bind fun t398 => (laws_FnExactInstalledVersions.j0 k t351 t372 (!t398) l0_0 a1_0 a1_1 a1_2 a1_3 a1_4 a1_5 a1_6 l1_7 l1_8))))) else (some false)))) = some r := by rw [if_pos rfl] at H; exact H
 clear H
 have H := H1
 clear H1
 replace H := Option.bind_eq_some_iff.mp H
 obtain ⟨⟨t380, t381, t382, t383, t384, t385, t386, t387, t390⟩, A300, H⟩ := H
 replace H : ((laws_eqTransaction.f k t358 t359 t360 t361 t362 t363 t364 t365 t368 t380 t381 t382 t383 t384 t385 t386 t387 t390).bind fun t393 => (if t393 = true then ((laws_markStore.f k t354 1).bind fun t394 => ((laws_markTransaction.f k t358 t359 t360 t361 t362 t363 t364 t365 t368 t394).bind fun bt395 => (if bt395.1 < 0 then (laws_FnExactInstalledVersions.j0 k t351 t372 true l0_0 a1_0 a1_1 a1_2 a1_3 a1_4 a1_5 a1_6 l1_7 l1_8) else ((laws_eqVersionS.f k t372 t351).bind fun t398 => (laws_FnExactInstalledVersions.j0 k t351 t372 (!t398) l0_0 a1_0 a1_1 a1_2 a1_3 a1_4 a1_5 a1_6 l1_7 l1_8))))) else (some false))) = some r := H
 have A30 := AM_ A300
 clear A300
 replace H := Option.bind_eq_some_iff.mp H
 obtain ⟨t393, A310, H⟩ := H
 replace H : (if t393 = true then ((laws_markStore.f k t354 1).bind fun t394 => ((laws_markTransaction.f k t358 t359 t360 t361 t362 t363 t364 t365 t368 t394).bind fun bt395 => (if bt395.1 < 0 then (laws_FnExactInstalledVersions.j0 k t351 t372 true l0_0 a1_0 a1_1 a1_2 a1_3 a1_4 a1_5 a1_6 l1_7 l1_8) else ((laws_eqVersionS.f k t372 t351).bind fun t398 => (laws_FnExactInstalledVersions.j0 k t351 t372 (!t398) l0_0 a1_0 a1_1 a1_2 a1_3 a1_4 a1_5 a1_6 l1_7 l1_8))))) else (some false)) = some r := H
 have A31 := AM_ A310
 clear A310
 by_cases c32 : t393 = true
 rotate_left
 ·replace c32 := Bool.eq_false_iff.mpr c32
  subst c32
  have H1 : (some false) = some r := by rw [if_neg (show ¬ (false = true) by decide)] at H; exact H
  clear H
  have H := H1
  clear H1
  obtain rfl := Option.some.inj H
  try go_wp2_with (first | ((with_reducible refine gate_callee (f := 61) rfl ?_); refine goesL_ (some 38) rfl rfl Try.func61 (by kernel_rfl) rfl #[.slice Ao258 t372.length co258, .slice Ao259 t351.length co259] rfl (by (try simp only [List.map_toArray, List.map_cons, List.map_nil]); first | done | rfl | (simp only [List.length_drop, List.length_take]; rfl)) ?_; (with_reducible refine (laws_eqVersionS.calls k _ _ t372 _ _ t351 true _ ?side1 ?side2 ?side3 ?side4 A25.out).mono ?_); (case side1 => exact Kd.C_below (Kd.R_reads' HO374.out).2.2 (BL (Below.refl _ _) rfl rfl rfl rfl)); (case side2 => exact (Kd.R_reads' HO374.out).2.1); (case side3 => exact Kd.C_below (Kd.R_reads' HO353.out).2.2 (BL (Below.refl _ _) rfl rfl rfl rfl)); (case side4 => exact (Kd.R_reads' HO353.out).2.1); rintro e w177 ⟨rfl, hb⟩; refine ⟨_, rfl, ?_⟩; replace HO337 := AM_ (Kd.S_below (ST HO337.out) hb); replace HO347 := AM_ (Kd.R_below (RT HO347.out) hb); replace HO350 := AM_ (Kd.R_below (RT HO350.out) hb); replace HO353 := AM_ (Kd.R_below (RT HO353.out) hb); replace HO356 := AM_ (Kd.S_below (ST HO356.out) hb); replace HO367 := AM_ (Kd.R_below (RT HO367.out) hb); replace HO370 := AM_ (Kd.R_below (RT HO370.out) hb); replace HO374 := AM_ (Kd.R_below (RT HO374.out) hb); replace BK331 := AM_ (BB BK331.out hb); replace BK332 := AM_ (BB BK332.out hb); replace BK357 := AM_ (BB BK357.out hb); replace BK371 := AM_ (BB BK371.out hb); replace HB := AM_ (below_step (BT HB.out) hb); (try clear hb); (try clear hb2); (try clear hk); (try clear hi)))
  replace HO337 := AM_ (Kd.S_drew HO337.out)
  replace HO347 := AM_ (Kd.R_drew HO347.out)
  replace HO350 := AM_ (Kd.R_drew HO350.out)
  replace HO353 := AM_ (Kd.R_drew HO353.out)
  replace HO356 := AM_ (Kd.S_drew HO356.out)
  replace HO367 := AM_ (Kd.R_drew HO367.out)
  replace HO370 := AM_ (Kd.R_drew HO370.out)
  replace HO374 := AM_ (Kd.R_drew HO374.out)
  replace BK331 := AM_ (blk_drew BK331.out)
  replace BK332 := AM_ (blk_drew BK332.out)
  replace BK357 := AM_ (blk_drew BK357.out)
  replace BK371 := AM_ (blk_drew BK371.out)
  replace HB := AM_ (below_drew1 HB.out)
  refine start_ (n := 5) (S := fun w' => w'.cell? ⟨gb357, 0, none⟩ = some (.slice Ao243 t354.length co243) ∧ w'.cell? ⟨gb331, 0, none⟩ = some (.slice A0_0 l0_0.length c0_0)) (ds := []) (bs 0 5) (by kernel_rfl) rfl rfl ⟨bc BK357.out 0, bc BK331.out 0⟩ (fun hHeld => ?_)
  generalize w177.drew = w178 at HO337 HO347 HO350 HO353 HO356 HO367 HO370 HO374 BK331 BK332 BK357 BK371 HB hHeld ⊢
  refine take_ (i := 0) (N := some 40) (v := ?_) (a' := ?_) (bs 1 5) rfl rfl (by kernel_rfl) (fun _ _ _ h => h) (Or.inl ⟨by rfl, ?_⟩) hHeld ?_ ?_
  rotate_left
  ·rintro w' ⟨s0, s1⟩
   go_simp
   with_reducible rfl
  rotate_left
  ·simp only [pA, pS, pZ, pK, i64_w, i32_w]
   rfl
  refine take_ (i := 1) (N := some 41) (v := ?_) (a' := ?_) (bs 3 5) rfl rfl (by kernel_rfl) (fun _ _ _ h => h) (Or.inl ⟨by rfl, ?_⟩) hHeld ?_ ?_
  rotate_left
  ·rintro w' ⟨s0, s1⟩
   go_simp
   with_reducible rfl
  rotate_left
  ·simp only [pA, pS, pZ, pK, i64_w, i32_w]
   rfl
  refine one_ (i := 2) (N := some 42) (bs 7 5) rfl rfl (by kernel_rfl) (by decide) (fun K hK => ?_)
  refine goes_ Try.func35 (by kernel_rfl) rfl #[.agg #[.slice A0_0 l0_0.length c0_0]] (by rfl) rfl rfl (by (try simp only [List.map_toArray, List.map_cons, List.map_nil]); first | done | rfl | (simp only [List.length_drop, List.length_take]; rfl)) ?_
  with_reducible refine (laws_toStore.calls k _ _ l0_0 t376 _ ?side1 ?side2 A27.out).mono ?_
  (case side1 => exact CB HR0_0.out HB.out)
  (case side2 => exact HC0_0.out)
  rintro e w179 ⟨v377, rfl, ho0, hb⟩
  refine ⟨_, rfl, ?_⟩
  replace HO347 := AM_ (Kd.R_below (RT HO347.out) hb)
  replace HO350 := AM_ (Kd.R_below (RT HO350.out) hb)
  replace HO367 := AM_ (Kd.R_below (RT HO367.out) hb)
  replace HO370 := AM_ (Kd.R_below (RT HO370.out) hb)
  have HO378 := AM_ (Kd.S_lower (Kd.S_new' (Kd.S_new' (Kd.S_new' (Kd.S_new' ho0 (Kd.S_lt (ST HO337.out))) (Kd.R_lt (RT HO353.out))) (Kd.S_lt (ST HO356.out))) (Kd.R_lt (RT HO374.out))) (below_size (BT HB.out)))
  replace HO337 := AM_ (Kd.S_elder' (ST HO337.out) (Kd.S_base ho0) hb)
  replace HO353 := AM_ (Kd.R_below (RT HO353.out) hb)
  replace HO356 := AM_ (Kd.S_elder' (ST HO356.out) (Kd.S_base ho0) hb)
  replace HO374 := AM_ (Kd.R_below (RT HO374.out) hb)
  replace BK331 := AM_ (BB BK331.out hb)
  replace BK332 := AM_ (BB BK332.out hb)
  replace BK357 := AM_ (BB BK357.out hb)
  replace BK371 := AM_ (BB BK371.out hb)
  replace HB := AM_ (below_step (BT HB.out) hb)
  (try clear hb)
  (try clear hb2)
  (try clear hk)
  (try clear hi)
  (try clear ho0)
  obtain ⟨Ao180, co180, eo180⟩ := Kd.S_slice HO378.out
  (first | subst eo180 | (injection eo180 with f1_ f2_ f3_; have f4_ := f1_.symm; have f5_ := f3_.symm; clear f1_ f2_ f3_; subst f4_; subst f5_))
  refine hK.out _ _ ⟨bc BK357.out 0, bc BK331.out 0⟩ (fun hHeld => ?_)
  clear hK K
  refine norm_ (a' := ?_) ?_ ?_
  rotate_left
  ·show Act.put _ (some 42) _ = _
   simp only [pA, pS, pZ, pK, i64_w, i32_w]
   rfl
  refine one_ (i := 3) (N := some 43) (bs 15 5) rfl rfl (by kernel_rfl) (by decide) (fun K hK => ?_)
  refine goes_ Try.func38 (by kernel_rfl) rfl #[.agg #[.slice Ao243 t354.length co243], .agg #[.slice Ao180 t376.length co180]] (by rfl) rfl rfl (by (try simp only [List.map_toArray, List.map_cons, List.map_nil]); first | done | rfl | (simp only [List.length_drop, List.length_take]; rfl)) ?_
  with_reducible refine (laws_eqStore.calls k _ _ t354 _ _ t376 true _ ?side1 ?side2 ?side3 ?side4 A28.out).mono ?_
  (case side1 => exact Kd.C_below (Kd.S_reads' HO356.out).2.2 (BL (Below.refl _ _) rfl rfl rfl rfl))
  (case side2 => exact (Kd.S_reads' HO356.out).2.1)
  (case side3 => exact Kd.C_below (Kd.S_reads' HO378.out).2.2 (BL (Below.refl _ _) rfl rfl rfl rfl))
  (case side4 => exact (Kd.S_reads' HO378.out).2.1)
  rintro e w181 ⟨rfl, hb⟩
  refine ⟨_, rfl, ?_⟩
  replace HO337 := AM_ (Kd.S_below (ST HO337.out) hb)
  replace HO347 := AM_ (Kd.R_below (RT HO347.out) hb)
  replace HO350 := AM_ (Kd.R_below (RT HO350.out) hb)
  replace HO353 := AM_ (Kd.R_below (RT HO353.out) hb)
  replace HO356 := AM_ (Kd.S_below (ST HO356.out) hb)
  replace HO367 := AM_ (Kd.R_below (RT HO367.out) hb)
  replace HO370 := AM_ (Kd.R_below (RT HO370.out) hb)
  replace HO374 := AM_ (Kd.R_below (RT HO374.out) hb)
  replace HO378 := AM_ (Kd.S_below (ST HO378.out) hb)
  replace BK331 := AM_ (BB BK331.out hb)
  replace BK332 := AM_ (BB BK332.out hb)
  replace BK357 := AM_ (BB BK357.out hb)
  replace BK371 := AM_ (BB BK371.out hb)
  replace HB := AM_ (below_step (BT HB.out) hb)
  (try clear hb)
  (try clear hb2)
  (try clear hk)
  (try clear hi)
  refine hK.out _ _ ⟨bc BK357.out 0, bc BK331.out 0⟩ (fun hHeld => ?_)
  clear hK K
  refine norm_ (a' := ?_) ?_ ?_
  rotate_left
  ·show Act.put _ (some 43) _ = _
   simp only [pA, pS, pZ, pK, i64_w, i32_w]
   rfl
  refine pure_ (i := 4) (N := some 44) (v := ?_) (a' := ?_) (bs 31 5) rfl rfl (by kernel_rfl) (fun _ _ _ h => h) (Or.inl ⟨by rfl, ?_⟩) ?_ ?_
  rotate_left
  ·intro w'
   go_simp
   with_reducible rfl
  rotate_left
  ·simp only [pA, pS, pZ, pK, i64_w, i32_w]
   rfl
  refine done_ (by kernel_rfl) ?_
  try go_wp2
  replace HO337 := AM_ (Kd.S_drew HO337.out)
  replace HO347 := AM_ (Kd.R_drew HO347.out)
  replace HO350 := AM_ (Kd.R_drew HO350.out)
  replace HO353 := AM_ (Kd.R_drew HO353.out)
  replace HO356 := AM_ (Kd.S_drew HO356.out)
  replace HO367 := AM_ (Kd.R_drew HO367.out)
  replace HO370 := AM_ (Kd.R_drew HO370.out)
  replace HO374 := AM_ (Kd.R_drew HO374.out)
  replace HO378 := AM_ (Kd.S_drew HO378.out)
  replace BK331 := AM_ (blk_drew BK331.out)
  replace BK332 := AM_ (blk_drew BK332.out)
  replace BK357 := AM_ (blk_drew BK357.out)
  replace BK371 := AM_ (blk_drew BK371.out)
  replace HB := AM_ (below_drew1 HB.out)
  refine start_ (n := 5) (S := fun w' => w'.cell? ⟨gb371, 0, none⟩ = some (.int .i64 t358) ∧ w'.cell? ⟨gb371, 1, none⟩ = some (.int .i64 t359) ∧ w'.cell? ⟨gb371, 2, none⟩ = some (.int .i64 t360) ∧ w'.cell? ⟨gb371, 3, none⟩ = some (.int .i64 t361) ∧ w'.cell? ⟨gb371, 4, none⟩ = some (.int .i64 t362) ∧ w'.cell? ⟨gb371, 5, none⟩ = some (.int .i64 t363) ∧ w'.cell? ⟨gb371, 6, none⟩ = some (.int .i64 t364) ∧ w'.cell? ⟨gb371, 7, none⟩ = some (.slice Ao254 t365.length co254) ∧ w'.cell? ⟨gb371, 8, none⟩ = some (.slice Ao255 t368.length co255) ∧ w'.cell? ⟨gb332, 0, none⟩ = some (.int .i64 a1_0) ∧ w'.cell? ⟨gb332, 1, none⟩ = some (.int .i64 a1_1) ∧ w'.cell? ⟨gb332, 2, none⟩ = some (.int .i64 a1_2) ∧ w'.cell? ⟨gb332, 3, none⟩ = some (.int .i64 a1_3) ∧ w'.cell? ⟨gb332, 4, none⟩ = some (.int .i64 a1_4) ∧ w'.cell? ⟨gb332, 5, none⟩ = some (.int .i64 a1_5) ∧ w'.cell? ⟨gb332, 6, none⟩ = some (.int .i64 a1_6) ∧ w'.cell? ⟨gb332, 7, none⟩ = some (.slice A1_7 l1_7.length c1_7) ∧ w'.cell? ⟨gb332, 8, none⟩ = some (.slice A1_8 l1_8.length c1_8)) (ds := []) (bs 0 5) (by kernel_rfl) rfl rfl ⟨bc BK371.out 0, bc BK371.out 1, bc BK371.out 2, bc BK371.out 3, bc BK371.out 4, bc BK371.out 5, bc BK371.out 6, bc BK371.out 7, bc BK371.out 8, bc BK332.out 0, bc BK332.out 1, bc BK332.out 2, bc BK332.out 3, bc BK332.out 4, bc BK332.out 5, bc BK332.out 6, bc BK332.out 7, bc BK332.out 8⟩ (fun hHeld => ?_)
  generalize w181.drew = w182 at HO337 HO347 HO350 HO353 HO356 HO367 HO370 HO374 HO378 BK331 BK332 BK357 BK371 HB hHeld ⊢
  refine take_ (i := 0) (N := some 45) (v := ?_) (a' := ?_) (bs 1 5) rfl rfl (by kernel_rfl) (fun _ _ _ h => h) (Or.inl ⟨by rfl, ?_⟩) hHeld ?_ ?_
  rotate_left
  ·rintro w' ⟨s0, s1, s2, s3, s4, s5, s6, s7, s8, s9, s10, s11, s12, s13, s14, s15, s16, s17⟩
   go_simp
   with_reducible rfl
  rotate_left
  ·simp only [pA, pS, pZ, pK, i64_w, i32_w]
   rfl
  refine take_ (i := 1) (N := some 46) (v := ?_) (a' := ?_) (bs 3 5) rfl rfl (by kernel_rfl) (fun _ _ _ h => h) (Or.inl ⟨by rfl, ?_⟩) hHeld ?_ ?_
  rotate_left
  ·rintro w' ⟨s0, s1, s2, s3, s4, s5, s6, s7, s8, s9, s10, s11, s12, s13, s14, s15, s16, s17⟩
   go_simp
   with_reducible rfl
  rotate_left
  ·simp only [pA, pS, pZ, pK, i64_w, i32_w]
   rfl
  refine one_ (i := 2) (N := some 47) (bs 7 5) rfl rfl (by kernel_rfl) (by decide) (fun K hK => ?_)
  refine goes_ Try.func36 (by kernel_rfl) rfl #[.agg #[.int .i64 a1_0, .int .i64 a1_1, .int .i64 a1_2, .int .i64 a1_3, .int .i64 a1_4, .int .i64 a1_5, .int .i64 a1_6, .slice A1_7 l1_7.length c1_7, .slice A1_8 l1_8.length c1_8]] (by rfl) rfl rfl (by (try simp only [List.map_toArray, List.map_cons, List.map_nil]); first | done | rfl | (simp only [List.length_drop, List.length_take]; rfl)) ?_
  with_reducible refine (laws_toTransaction.calls k a1_0 a1_1 a1_2 a1_3 a1_4 a1_5 a1_6 _ _ l1_7 _ _ l1_8 t380 t381 t382 t383 t384 t385 t386 t387 t390 _ ?side1 ?side2 ?side3 ?side4 A30.out).mono ?_
  (case side1 => exact CB HR1_7.out HB.out)
  (case side2 => exact HC1_7.out)
  (case side3 => exact CB HR1_8.out HB.out)
  (case side4 => exact HC1_8.out)
  rintro e w183 ⟨v388, v391, rfl, ho0, ho1, hb⟩
  refine ⟨_, rfl, ?_⟩
  replace HO337 := AM_ (Kd.S_below (ST HO337.out) hb)
  replace HO353 := AM_ (Kd.R_below (RT HO353.out) hb)
  replace HO356 := AM_ (Kd.S_below (ST HO356.out) hb)
  replace HO374 := AM_ (Kd.R_below (RT HO374.out) hb)
  replace HO378 := AM_ (Kd.S_below (ST HO378.out) hb)
  have HO389 := AM_ (Kd.R_lower (Kd.R_new' (Kd.R_new' ho0 (Kd.R_lt (RT HO347.out))) (Kd.R_lt (RT HO367.out))) (below_size (BT HB.out)))
  replace HO347 := AM_ (Kd.R_elder' (RT HO347.out) (Kd.R_base ho0) hb)
  replace HO367 := AM_ (Kd.R_elder' (RT HO367.out) (Kd.R_base ho0) hb)
  have HO392 := AM_ (Kd.R_lower (Kd.R_new' (Kd.R_new' ho1 (Kd.R_lt (RT HO350.out))) (Kd.R_lt (RT HO370.out))) (below_size (BT HB.out)))
  replace HO350 := AM_ (Kd.R_elder' (RT HO350.out) (Kd.R_base ho1) hb)
  replace HO370 := AM_ (Kd.R_elder' (RT HO370.out) (Kd.R_base ho1) hb)
  replace BK331 := AM_ (BB BK331.out hb)
  replace BK332 := AM_ (BB BK332.out hb)
  replace BK357 := AM_ (BB BK357.out hb)
  replace BK371 := AM_ (BB BK371.out hb)
  replace HB := AM_ (below_step (BT HB.out) hb)
  (try clear hb)
  (try clear hb2)
  (try clear hk)
  (try clear hi)
  (try clear ho0)
  (try clear ho1)
  obtain ⟨Ao184, co184, eo184⟩ := Kd.R_slice HO389.out
  (first | subst eo184 | (injection eo184 with f1_ f2_ f3_; have f4_ := f1_.symm; have f5_ := f3_.symm; clear f1_ f2_ f3_; subst f4_; subst f5_))
  obtain ⟨Ao185, co185, eo185⟩ := Kd.R_slice HO392.out
  (first | subst eo185 | (injection eo185 with f1_ f2_ f3_; have f4_ := f1_.symm; have f5_ := f3_.symm; clear f1_ f2_ f3_; subst f4_; subst f5_))
  refine hK.out _ _ ⟨bc BK371.out 0, bc BK371.out 1, bc BK371.out 2, bc BK371.out 3, bc BK371.out 4, bc BK371.out 5, bc BK371.out 6, bc BK371.out 7, bc BK371.out 8, bc BK332.out 0, bc BK332.out 1, bc BK332.out 2, bc BK332.out 3, bc BK332.out 4, bc BK332.out 5, bc BK332.out 6, bc BK332.out 7, bc BK332.out 8⟩ (fun hHeld => ?_)
  clear hK K
  refine norm_ (a' := ?_) ?_ ?_
  rotate_left
  ·show Act.put _ (some 47) _ = _
   simp only [pA, pS, pZ, pK, i64_w, i32_w]
   rfl
  refine one_ (i := 3) (N := some 48) (bs 15 5) rfl rfl (by kernel_rfl) (by decide) (fun K hK => ?_)
  refine goes_ Try.func39 (by kernel_rfl) rfl #[.agg #[.int .i64 t358, .int .i64 t359, .int .i64 t360, .int .i64 t361, .int .i64 t362, .int .i64 t363, .int .i64 t364, .slice Ao254 t365.length co254, .slice Ao255 t368.length co255], .agg #[.int .i64 t380, .int .i64 t381, .int .i64 t382, .int .i64 t383, .int .i64 t384, .int .i64 t385, .int .i64 t386, .slice Ao184 t387.length co184, .slice Ao185 t390.length co185]] (by rfl) rfl rfl (by (try simp only [List.map_toArray, List.map_cons, List.map_nil]); first | done | rfl | (simp only [List.length_drop, List.length_take]; rfl)) ?_
  with_reducible refine (laws_eqTransaction.calls k t358 t359 t360 t361 t362 t363 t364 _ _ t365 _ _ t368 t380 t381 t382 t383 t384 t385 t386 _ _ t387 _ _ t390 false _ ?side1 ?side2 ?side3 ?side4 ?side5 ?side6 ?side7 ?side8 A31.out).mono ?_
  (case side1 => exact Kd.C_below (Kd.R_reads' HO367.out).2.2 (BL (Below.refl _ _) rfl rfl rfl rfl))
  (case side2 => exact (Kd.R_reads' HO367.out).2.1)
  (case side3 => exact Kd.C_below (Kd.R_reads' HO370.out).2.2 (BL (Below.refl _ _) rfl rfl rfl rfl))
  (case side4 => exact (Kd.R_reads' HO370.out).2.1)
  (case side5 => exact Kd.C_below (Kd.R_reads' HO389.out).2.2 (BL (Below.refl _ _) rfl rfl rfl rfl))
  (case side6 => exact (Kd.R_reads' HO389.out).2.1)
  (case side7 => exact Kd.C_below (Kd.R_reads' HO392.out).2.2 (BL (Below.refl _ _) rfl rfl rfl rfl))
  (case side8 => exact (Kd.R_reads' HO392.out).2.1)
  rintro e w186 ⟨rfl, hb⟩
  refine ⟨_, rfl, ?_⟩
  replace HO337 := AM_ (Kd.S_below (ST HO337.out) hb)
  replace HO347 := AM_ (Kd.R_below (RT HO347.out) hb)
  replace HO350 := AM_ (Kd.R_below (RT HO350.out) hb)
  replace HO353 := AM_ (Kd.R_below (RT HO353.out) hb)
  replace HO356 := AM_ (Kd.S_below (ST HO356.out) hb)
  replace HO367 := AM_ (Kd.R_below (RT HO367.out) hb)
  replace HO370 := AM_ (Kd.R_below (RT HO370.out) hb)
  replace HO374 := AM_ (Kd.R_below (RT HO374.out) hb)
  replace HO378 := AM_ (Kd.S_below (ST HO378.out) hb)
  replace HO389 := AM_ (Kd.R_below (RT HO389.out) hb)
  replace HO392 := AM_ (Kd.R_below (RT HO392.out) hb)
  replace BK331 := AM_ (BB BK331.out hb)
  replace BK332 := AM_ (BB BK332.out hb)
  replace BK357 := AM_ (BB BK357.out hb)
  replace BK371 := AM_ (BB BK371.out hb)
  replace HB := AM_ (below_step (BT HB.out) hb)
  (try clear hb)
  (try clear hb2)
  (try clear hk)
  (try clear hi)
  refine hK.out _ _ ⟨bc BK371.out 0, bc BK371.out 1, bc BK371.out 2, bc BK371.out 3, bc BK371.out 4, bc BK371.out 5, bc BK371.out 6, bc BK371.out 7, bc BK371.out 8, bc BK332.out 0, bc BK332.out 1, bc BK332.out 2, bc BK332.out 3, bc BK332.out 4, bc BK332.out 5, bc BK332.out 6, bc BK332.out 7, bc BK332.out 8⟩ (fun hHeld => ?_)
  clear hK K
  refine norm_ (a' := ?_) ?_ ?_
  rotate_left
  ·show Act.put _ (some 48) _ = _
   simp only [pA, pS, pZ, pK, i64_w, i32_w]
   rfl
  refine pure_ (i := 4) (N := some 49) (v := ?_) (a' := ?_) (bs 31 5) rfl rfl (by kernel_rfl) (fun _ _ _ h => h) (Or.inl ⟨by rfl, ?_⟩) ?_ ?_
  rotate_left
  ·intro w'
   go_simp
   with_reducible rfl
  rotate_left
  ·simp only [pA, pS, pZ, pK, i64_w, i32_w]
   rfl
  refine done_ (by kernel_rfl) ?_
  try go_wp2
  go_ret
  exact QT (BT HB.out)
 subst c32
 have H1 : ((laws_markStore.f k t354 1).bind fun t394 => ((laws_markTransaction.f k t358 t359 t360 t361 t362 t363 t364 t365 t368 t394).bind fun bt395 => (if bt395.1 < 0 then (laws_FnExactInstalledVersions.j0 k t351 t372 true l0_0 a1_0 a1_1 a1_2 a1_3 a1_4 a1_5 a1_6 l1_7 l1_8) else ((laws_eqVersionS.f k t372 t351).bind fun t398 => (laws_FnExactInstalledVersions.j0 k t351 t372 (!t398) l0_0 a1_0 a1_1 a1_2 a1_3 a1_4 a1_5 a1_6 l1_7 l1_8))))) = some r := by rw [if_pos rfl] at H; exact H
 clear H
 have H := H1
 clear H1
 replace H := Option.bind_eq_some_iff.mp H
 obtain ⟨t394, A330, H⟩ := H
 replace H : ((laws_markTransaction.f k t358 t359 t360 t361 t362 t363 t364 t365 t368 t394).bind fun bt395 => (if bt395.1 < 0 then (laws_FnExactInstalledVersions.j0 k t351 t372 true l0_0 a1_0 a1_1 a1_2 a1_3 a1_4 a1_5 a1_6 l1_7 l1_8) else ((laws_eqVersionS.f k t372 t351).bind fun t398 => (laws_FnExactInstalledVersions.j0 k t351 t372 (!t398) l0_0 a1_0 a1_1 a1_2 a1_3 a1_4 a1_5 a1_6 l1_7 l1_8)))) = some r := H
 have A33 := AM_ A330
 clear A330
 replace H := Option.bind_eq_some_iff.mp H
 obtain ⟨⟨t395, t396, t397⟩, A340, H⟩ := H
 replace H : (if t395 < 0 then (laws_FnExactInstalledVersions.j0 k t351 t372 true l0_0 a1_0 a1_1 a1_2 a1_3 a1_4 a1_5 a1_6 l1_7 l1_8) else ((laws_eqVersionS.f k t372 t351).bind fun t398 => (laws_FnExactInstalledVersions.j0 k t351 t372 (!t398) l0_0 a1_0 a1_1 a1_2 a1_3 a1_4 a1_5 a1_6 l1_7 l1_8))) = some r := H
 have A34 := AM_ A340
 clear A340
 have HC35 := AM_ H
 clear H
 try go_wp2_with (first | ((with_reducible refine gate_callee (f := 61) rfl ?_); refine goesL_ (some 38) rfl rfl Try.func61 (by kernel_rfl) rfl #[.slice Ao258 t372.length co258, .slice Ao259 t351.length co259] rfl (by (try simp only [List.map_toArray, List.map_cons, List.map_nil]); first | done | rfl | (simp only [List.length_drop, List.length_take]; rfl)) ?_; (with_reducible refine (laws_eqVersionS.calls k _ _ t372 _ _ t351 true _ ?side1 ?side2 ?side3 ?side4 A25.out).mono ?_); (case side1 => exact Kd.C_below (Kd.R_reads' HO374.out).2.2 (BL (Below.refl _ _) rfl rfl rfl rfl)); (case side2 => exact (Kd.R_reads' HO374.out).2.1); (case side3 => exact Kd.C_below (Kd.R_reads' HO353.out).2.2 (BL (Below.refl _ _) rfl rfl rfl rfl)); (case side4 => exact (Kd.R_reads' HO353.out).2.1); rintro e w70 ⟨rfl, hb⟩; refine ⟨_, rfl, ?_⟩; replace HO337 := AM_ (Kd.S_below (ST HO337.out) hb); replace HO347 := AM_ (Kd.R_below (RT HO347.out) hb); replace HO350 := AM_ (Kd.R_below (RT HO350.out) hb); replace HO353 := AM_ (Kd.R_below (RT HO353.out) hb); replace HO356 := AM_ (Kd.S_below (ST HO356.out) hb); replace HO367 := AM_ (Kd.R_below (RT HO367.out) hb); replace HO370 := AM_ (Kd.R_below (RT HO370.out) hb); replace HO374 := AM_ (Kd.R_below (RT HO374.out) hb); replace BK331 := AM_ (BB BK331.out hb); replace BK332 := AM_ (BB BK332.out hb); replace BK357 := AM_ (BB BK357.out hb); replace BK371 := AM_ (BB BK371.out hb); replace HB := AM_ (below_step (BT HB.out) hb); (try clear hb); (try clear hb2); (try clear hk); (try clear hi)))
 replace HO337 := AM_ (Kd.S_drew HO337.out)
 replace HO347 := AM_ (Kd.R_drew HO347.out)
 replace HO350 := AM_ (Kd.R_drew HO350.out)
 replace HO353 := AM_ (Kd.R_drew HO353.out)
 replace HO356 := AM_ (Kd.S_drew HO356.out)
 replace HO367 := AM_ (Kd.R_drew HO367.out)
 replace HO370 := AM_ (Kd.R_drew HO370.out)
 replace HO374 := AM_ (Kd.R_drew HO374.out)
 replace BK331 := AM_ (blk_drew BK331.out)
 replace BK332 := AM_ (blk_drew BK332.out)
 replace BK357 := AM_ (blk_drew BK357.out)
 replace BK371 := AM_ (blk_drew BK371.out)
 replace HB := AM_ (below_drew1 HB.out)
 refine start_ (n := 5) (S := fun w' => w'.cell? ⟨gb357, 0, none⟩ = some (.slice Ao243 t354.length co243) ∧ w'.cell? ⟨gb331, 0, none⟩ = some (.slice A0_0 l0_0.length c0_0)) (ds := []) (bs 0 5) (by kernel_rfl) rfl rfl ⟨bc BK357.out 0, bc BK331.out 0⟩ (fun hHeld => ?_)
 generalize w70.drew = w71 at HO337 HO347 HO350 HO353 HO356 HO367 HO370 HO374 BK331 BK332 BK357 BK371 HB hHeld ⊢
 refine take_ (i := 0) (N := some 40) (v := ?_) (a' := ?_) (bs 1 5) rfl rfl (by kernel_rfl) (fun _ _ _ h => h) (Or.inl ⟨by rfl, ?_⟩) hHeld ?_ ?_
 rotate_left
 ·rintro w' ⟨s0, s1⟩
  go_simp
  with_reducible rfl
 rotate_left
 ·simp only [pA, pS, pZ, pK, i64_w, i32_w]
  rfl
 refine take_ (i := 1) (N := some 41) (v := ?_) (a' := ?_) (bs 3 5) rfl rfl (by kernel_rfl) (fun _ _ _ h => h) (Or.inl ⟨by rfl, ?_⟩) hHeld ?_ ?_
 rotate_left
 ·rintro w' ⟨s0, s1⟩
  go_simp
  with_reducible rfl
 rotate_left
 ·simp only [pA, pS, pZ, pK, i64_w, i32_w]
  rfl
 refine one_ (i := 2) (N := some 42) (bs 7 5) rfl rfl (by kernel_rfl) (by decide) (fun K hK => ?_)
 refine goes_ Try.func35 (by kernel_rfl) rfl #[.agg #[.slice A0_0 l0_0.length c0_0]] (by rfl) rfl rfl (by (try simp only [List.map_toArray, List.map_cons, List.map_nil]); first | done | rfl | (simp only [List.length_drop, List.length_take]; rfl)) ?_
 with_reducible refine (laws_toStore.calls k _ _ l0_0 t376 _ ?side1 ?side2 A27.out).mono ?_
 (case side1 => exact CB HR0_0.out HB.out)
 (case side2 => exact HC0_0.out)
 rintro e w72 ⟨v377, rfl, ho0, hb⟩
 refine ⟨_, rfl, ?_⟩
 replace HO347 := AM_ (Kd.R_below (RT HO347.out) hb)
 replace HO350 := AM_ (Kd.R_below (RT HO350.out) hb)
 replace HO367 := AM_ (Kd.R_below (RT HO367.out) hb)
 replace HO370 := AM_ (Kd.R_below (RT HO370.out) hb)
 have HO378 := AM_ (Kd.S_lower (Kd.S_new' (Kd.S_new' (Kd.S_new' (Kd.S_new' ho0 (Kd.S_lt (ST HO337.out))) (Kd.R_lt (RT HO353.out))) (Kd.S_lt (ST HO356.out))) (Kd.R_lt (RT HO374.out))) (below_size (BT HB.out)))
 replace HO337 := AM_ (Kd.S_elder' (ST HO337.out) (Kd.S_base ho0) hb)
 replace HO353 := AM_ (Kd.R_below (RT HO353.out) hb)
 replace HO356 := AM_ (Kd.S_elder' (ST HO356.out) (Kd.S_base ho0) hb)
 replace HO374 := AM_ (Kd.R_below (RT HO374.out) hb)
 replace BK331 := AM_ (BB BK331.out hb)
 replace BK332 := AM_ (BB BK332.out hb)
 replace BK357 := AM_ (BB BK357.out hb)
 replace BK371 := AM_ (BB BK371.out hb)
 replace HB := AM_ (below_step (BT HB.out) hb)
 (try clear hb)
 (try clear hb2)
 (try clear hk)
 (try clear hi)
 (try clear ho0)
 obtain ⟨Ao73, co73, eo73⟩ := Kd.S_slice HO378.out
 (first | subst eo73 | (injection eo73 with f1_ f2_ f3_; have f4_ := f1_.symm; have f5_ := f3_.symm; clear f1_ f2_ f3_; subst f4_; subst f5_))
 refine hK.out _ _ ⟨bc BK357.out 0, bc BK331.out 0⟩ (fun hHeld => ?_)
 clear hK K
 refine norm_ (a' := ?_) ?_ ?_
 rotate_left
 ·show Act.put _ (some 42) _ = _
  simp only [pA, pS, pZ, pK, i64_w, i32_w]
  rfl
 refine one_ (i := 3) (N := some 43) (bs 15 5) rfl rfl (by kernel_rfl) (by decide) (fun K hK => ?_)
 refine goes_ Try.func38 (by kernel_rfl) rfl #[.agg #[.slice Ao243 t354.length co243], .agg #[.slice Ao73 t376.length co73]] (by rfl) rfl rfl (by (try simp only [List.map_toArray, List.map_cons, List.map_nil]); first | done | rfl | (simp only [List.length_drop, List.length_take]; rfl)) ?_
 with_reducible refine (laws_eqStore.calls k _ _ t354 _ _ t376 true _ ?side1 ?side2 ?side3 ?side4 A28.out).mono ?_
 (case side1 => exact Kd.C_below (Kd.S_reads' HO356.out).2.2 (BL (Below.refl _ _) rfl rfl rfl rfl))
 (case side2 => exact (Kd.S_reads' HO356.out).2.1)
 (case side3 => exact Kd.C_below (Kd.S_reads' HO378.out).2.2 (BL (Below.refl _ _) rfl rfl rfl rfl))
 (case side4 => exact (Kd.S_reads' HO378.out).2.1)
 rintro e w74 ⟨rfl, hb⟩
 refine ⟨_, rfl, ?_⟩
 replace HO337 := AM_ (Kd.S_below (ST HO337.out) hb)
 replace HO347 := AM_ (Kd.R_below (RT HO347.out) hb)
 replace HO350 := AM_ (Kd.R_below (RT HO350.out) hb)
 replace HO353 := AM_ (Kd.R_below (RT HO353.out) hb)
 replace HO356 := AM_ (Kd.S_below (ST HO356.out) hb)
 replace HO367 := AM_ (Kd.R_below (RT HO367.out) hb)
 replace HO370 := AM_ (Kd.R_below (RT HO370.out) hb)
 replace HO374 := AM_ (Kd.R_below (RT HO374.out) hb)
 replace HO378 := AM_ (Kd.S_below (ST HO378.out) hb)
 replace BK331 := AM_ (BB BK331.out hb)
 replace BK332 := AM_ (BB BK332.out hb)
 replace BK357 := AM_ (BB BK357.out hb)
 replace BK371 := AM_ (BB BK371.out hb)
 replace HB := AM_ (below_step (BT HB.out) hb)
 (try clear hb)
 (try clear hb2)
 (try clear hk)
 (try clear hi)
 refine hK.out _ _ ⟨bc BK357.out 0, bc BK331.out 0⟩ (fun hHeld => ?_)
 clear hK K
 refine norm_ (a' := ?_) ?_ ?_
 rotate_left
 ·show Act.put _ (some 43) _ = _
  simp only [pA, pS, pZ, pK, i64_w, i32_w]
  rfl
 refine pure_ (i := 4) (N := some 44) (v := ?_) (a' := ?_) (bs 31 5) rfl rfl (by kernel_rfl) (fun _ _ _ h => h) (Or.inl ⟨by rfl, ?_⟩) ?_ ?_
 rotate_left
 ·intro w'
  go_simp
  with_reducible rfl
 rotate_left
 ·simp only [pA, pS, pZ, pK, i64_w, i32_w]
  rfl
 refine done_ (by kernel_rfl) ?_
 try go_wp2
 replace HO337 := AM_ (Kd.S_drew HO337.out)
 replace HO347 := AM_ (Kd.R_drew HO347.out)
 replace HO350 := AM_ (Kd.R_drew HO350.out)
 replace HO353 := AM_ (Kd.R_drew HO353.out)
 replace HO356 := AM_ (Kd.S_drew HO356.out)
 replace HO367 := AM_ (Kd.R_drew HO367.out)
 replace HO370 := AM_ (Kd.R_drew HO370.out)
 replace HO374 := AM_ (Kd.R_drew HO374.out)
 replace HO378 := AM_ (Kd.S_drew HO378.out)
 replace BK331 := AM_ (blk_drew BK331.out)
 replace BK332 := AM_ (blk_drew BK332.out)
 replace BK357 := AM_ (blk_drew BK357.out)
 replace BK371 := AM_ (blk_drew BK371.out)
 replace HB := AM_ (below_drew1 HB.out)
 refine start_ (n := 5) (S := fun w' => w'.cell? ⟨gb371, 0, none⟩ = some (.int .i64 t358) ∧ w'.cell? ⟨gb371, 1, none⟩ = some (.int .i64 t359) ∧ w'.cell? ⟨gb371, 2, none⟩ = some (.int .i64 t360) ∧ w'.cell? ⟨gb371, 3, none⟩ = some (.int .i64 t361) ∧ w'.cell? ⟨gb371, 4, none⟩ = some (.int .i64 t362) ∧ w'.cell? ⟨gb371, 5, none⟩ = some (.int .i64 t363) ∧ w'.cell? ⟨gb371, 6, none⟩ = some (.int .i64 t364) ∧ w'.cell? ⟨gb371, 7, none⟩ = some (.slice Ao254 t365.length co254) ∧ w'.cell? ⟨gb371, 8, none⟩ = some (.slice Ao255 t368.length co255) ∧ w'.cell? ⟨gb332, 0, none⟩ = some (.int .i64 a1_0) ∧ w'.cell? ⟨gb332, 1, none⟩ = some (.int .i64 a1_1) ∧ w'.cell? ⟨gb332, 2, none⟩ = some (.int .i64 a1_2) ∧ w'.cell? ⟨gb332, 3, none⟩ = some (.int .i64 a1_3) ∧ w'.cell? ⟨gb332, 4, none⟩ = some (.int .i64 a1_4) ∧ w'.cell? ⟨gb332, 5, none⟩ = some (.int .i64 a1_5) ∧ w'.cell? ⟨gb332, 6, none⟩ = some (.int .i64 a1_6) ∧ w'.cell? ⟨gb332, 7, none⟩ = some (.slice A1_7 l1_7.length c1_7) ∧ w'.cell? ⟨gb332, 8, none⟩ = some (.slice A1_8 l1_8.length c1_8)) (ds := []) (bs 0 5) (by kernel_rfl) rfl rfl ⟨bc BK371.out 0, bc BK371.out 1, bc BK371.out 2, bc BK371.out 3, bc BK371.out 4, bc BK371.out 5, bc BK371.out 6, bc BK371.out 7, bc BK371.out 8, bc BK332.out 0, bc BK332.out 1, bc BK332.out 2, bc BK332.out 3, bc BK332.out 4, bc BK332.out 5, bc BK332.out 6, bc BK332.out 7, bc BK332.out 8⟩ (fun hHeld => ?_)
 generalize w74.drew = w75 at HO337 HO347 HO350 HO353 HO356 HO367 HO370 HO374 HO378 BK331 BK332 BK357 BK371 HB hHeld ⊢
 refine take_ (i := 0) (N := some 45) (v := ?_) (a' := ?_) (bs 1 5) rfl rfl (by kernel_rfl) (fun _ _ _ h => h) (Or.inl ⟨by rfl, ?_⟩) hHeld ?_ ?_
 rotate_left
 ·rintro w' ⟨s0, s1, s2, s3, s4, s5, s6, s7, s8, s9, s10, s11, s12, s13, s14, s15, s16, s17⟩
  go_simp
  with_reducible rfl
 rotate_left
 ·simp only [pA, pS, pZ, pK, i64_w, i32_w]
  rfl
 refine take_ (i := 1) (N := some 46) (v := ?_) (a' := ?_) (bs 3 5) rfl rfl (by kernel_rfl) (fun _ _ _ h => h) (Or.inl ⟨by rfl, ?_⟩) hHeld ?_ ?_
 rotate_left
 ·rintro w' ⟨s0, s1, s2, s3, s4, s5, s6, s7, s8, s9, s10, s11, s12, s13, s14, s15, s16, s17⟩
  go_simp
  with_reducible rfl
 rotate_left
 ·simp only [pA, pS, pZ, pK, i64_w, i32_w]
  rfl
 refine one_ (i := 2) (N := some 47) (bs 7 5) rfl rfl (by kernel_rfl) (by decide) (fun K hK => ?_)
 refine goes_ Try.func36 (by kernel_rfl) rfl #[.agg #[.int .i64 a1_0, .int .i64 a1_1, .int .i64 a1_2, .int .i64 a1_3, .int .i64 a1_4, .int .i64 a1_5, .int .i64 a1_6, .slice A1_7 l1_7.length c1_7, .slice A1_8 l1_8.length c1_8]] (by rfl) rfl rfl (by (try simp only [List.map_toArray, List.map_cons, List.map_nil]); first | done | rfl | (simp only [List.length_drop, List.length_take]; rfl)) ?_
 with_reducible refine (laws_toTransaction.calls k a1_0 a1_1 a1_2 a1_3 a1_4 a1_5 a1_6 _ _ l1_7 _ _ l1_8 t380 t381 t382 t383 t384 t385 t386 t387 t390 _ ?side1 ?side2 ?side3 ?side4 A30.out).mono ?_
 (case side1 => exact CB HR1_7.out HB.out)
 (case side2 => exact HC1_7.out)
 (case side3 => exact CB HR1_8.out HB.out)
 (case side4 => exact HC1_8.out)
 rintro e w76 ⟨v388, v391, rfl, ho0, ho1, hb⟩
 refine ⟨_, rfl, ?_⟩
 replace HO337 := AM_ (Kd.S_below (ST HO337.out) hb)
 replace HO353 := AM_ (Kd.R_below (RT HO353.out) hb)
 replace HO356 := AM_ (Kd.S_below (ST HO356.out) hb)
 replace HO374 := AM_ (Kd.R_below (RT HO374.out) hb)
 replace HO378 := AM_ (Kd.S_below (ST HO378.out) hb)
 have HO389 := AM_ (Kd.R_lower (Kd.R_new' (Kd.R_new' ho0 (Kd.R_lt (RT HO347.out))) (Kd.R_lt (RT HO367.out))) (below_size (BT HB.out)))
 replace HO347 := AM_ (Kd.R_elder' (RT HO347.out) (Kd.R_base ho0) hb)
 replace HO367 := AM_ (Kd.R_elder' (RT HO367.out) (Kd.R_base ho0) hb)
 have HO392 := AM_ (Kd.R_lower (Kd.R_new' (Kd.R_new' ho1 (Kd.R_lt (RT HO350.out))) (Kd.R_lt (RT HO370.out))) (below_size (BT HB.out)))
 replace HO350 := AM_ (Kd.R_elder' (RT HO350.out) (Kd.R_base ho1) hb)
 replace HO370 := AM_ (Kd.R_elder' (RT HO370.out) (Kd.R_base ho1) hb)
 replace BK331 := AM_ (BB BK331.out hb)
 replace BK332 := AM_ (BB BK332.out hb)
 replace BK357 := AM_ (BB BK357.out hb)
 replace BK371 := AM_ (BB BK371.out hb)
 replace HB := AM_ (below_step (BT HB.out) hb)
 (try clear hb)
 (try clear hb2)
 (try clear hk)
 (try clear hi)
 (try clear ho0)
 (try clear ho1)
 obtain ⟨Ao77, co77, eo77⟩ := Kd.R_slice HO389.out
 (first | subst eo77 | (injection eo77 with f1_ f2_ f3_; have f4_ := f1_.symm; have f5_ := f3_.symm; clear f1_ f2_ f3_; subst f4_; subst f5_))
 obtain ⟨Ao78, co78, eo78⟩ := Kd.R_slice HO392.out
 (first | subst eo78 | (injection eo78 with f1_ f2_ f3_; have f4_ := f1_.symm; have f5_ := f3_.symm; clear f1_ f2_ f3_; subst f4_; subst f5_))
 refine hK.out _ _ ⟨bc BK371.out 0, bc BK371.out 1, bc BK371.out 2, bc BK371.out 3, bc BK371.out 4, bc BK371.out 5, bc BK371.out 6, bc BK371.out 7, bc BK371.out 8, bc BK332.out 0, bc BK332.out 1, bc BK332.out 2, bc BK332.out 3, bc BK332.out 4, bc BK332.out 5, bc BK332.out 6, bc BK332.out 7, bc BK332.out 8⟩ (fun hHeld => ?_)
 clear hK K
 refine norm_ (a' := ?_) ?_ ?_
 rotate_left
 ·show Act.put _ (some 47) _ = _
  simp only [pA, pS, pZ, pK, i64_w, i32_w]
  rfl
 refine one_ (i := 3) (N := some 48) (bs 15 5) rfl rfl (by kernel_rfl) (by decide) (fun K hK => ?_)
 refine goes_ Try.func39 (by kernel_rfl) rfl #[.agg #[.int .i64 t358, .int .i64 t359, .int .i64 t360, .int .i64 t361, .int .i64 t362, .int .i64 t363, .int .i64 t364, .slice Ao254 t365.length co254, .slice Ao255 t368.length co255], .agg #[.int .i64 t380, .int .i64 t381, .int .i64 t382, .int .i64 t383, .int .i64 t384, .int .i64 t385, .int .i64 t386, .slice Ao77 t387.length co77, .slice Ao78 t390.length co78]] (by rfl) rfl rfl (by (try simp only [List.map_toArray, List.map_cons, List.map_nil]); first | done | rfl | (simp only [List.length_drop, List.length_take]; rfl)) ?_
 with_reducible refine (laws_eqTransaction.calls k t358 t359 t360 t361 t362 t363 t364 _ _ t365 _ _ t368 t380 t381 t382 t383 t384 t385 t386 _ _ t387 _ _ t390 true _ ?side1 ?side2 ?side3 ?side4 ?side5 ?side6 ?side7 ?side8 A31.out).mono ?_
 (case side1 => exact Kd.C_below (Kd.R_reads' HO367.out).2.2 (BL (Below.refl _ _) rfl rfl rfl rfl))
 (case side2 => exact (Kd.R_reads' HO367.out).2.1)
 (case side3 => exact Kd.C_below (Kd.R_reads' HO370.out).2.2 (BL (Below.refl _ _) rfl rfl rfl rfl))
 (case side4 => exact (Kd.R_reads' HO370.out).2.1)
 (case side5 => exact Kd.C_below (Kd.R_reads' HO389.out).2.2 (BL (Below.refl _ _) rfl rfl rfl rfl))
 (case side6 => exact (Kd.R_reads' HO389.out).2.1)
 (case side7 => exact Kd.C_below (Kd.R_reads' HO392.out).2.2 (BL (Below.refl _ _) rfl rfl rfl rfl))
 (case side8 => exact (Kd.R_reads' HO392.out).2.1)
 rintro e w79 ⟨rfl, hb⟩
 refine ⟨_, rfl, ?_⟩
 replace HO337 := AM_ (Kd.S_below (ST HO337.out) hb)
 replace HO347 := AM_ (Kd.R_below (RT HO347.out) hb)
 replace HO350 := AM_ (Kd.R_below (RT HO350.out) hb)
 replace HO353 := AM_ (Kd.R_below (RT HO353.out) hb)
 replace HO356 := AM_ (Kd.S_below (ST HO356.out) hb)
 replace HO367 := AM_ (Kd.R_below (RT HO367.out) hb)
 replace HO370 := AM_ (Kd.R_below (RT HO370.out) hb)
 replace HO374 := AM_ (Kd.R_below (RT HO374.out) hb)
 replace HO378 := AM_ (Kd.S_below (ST HO378.out) hb)
 replace HO389 := AM_ (Kd.R_below (RT HO389.out) hb)
 replace HO392 := AM_ (Kd.R_below (RT HO392.out) hb)
 replace BK331 := AM_ (BB BK331.out hb)
 replace BK332 := AM_ (BB BK332.out hb)
 replace BK357 := AM_ (BB BK357.out hb)
 replace BK371 := AM_ (BB BK371.out hb)
 replace HB := AM_ (below_step (BT HB.out) hb)
 (try clear hb)
 (try clear hb2)
 (try clear hk)
 (try clear hi)
 refine hK.out _ _ ⟨bc BK371.out 0, bc BK371.out 1, bc BK371.out 2, bc BK371.out 3, bc BK371.out 4, bc BK371.out 5, bc BK371.out 6, bc BK371.out 7, bc BK371.out 8, bc BK332.out 0, bc BK332.out 1, bc BK332.out 2, bc BK332.out 3, bc BK332.out 4, bc BK332.out 5, bc BK332.out 6, bc BK332.out 7, bc BK332.out 8⟩ (fun hHeld => ?_)
 clear hK K
 refine norm_ (a' := ?_) ?_ ?_
 rotate_left
 ·show Act.put _ (some 48) _ = _
  simp only [pA, pS, pZ, pK, i64_w, i32_w]
  rfl
 refine pure_ (i := 4) (N := some 49) (v := ?_) (a' := ?_) (bs 31 5) rfl rfl (by kernel_rfl) (fun _ _ _ h => h) (Or.inl ⟨by rfl, ?_⟩) ?_ ?_
 rotate_left
 ·intro w'
  go_simp
  with_reducible rfl
 rotate_left
 ·simp only [pA, pS, pZ, pK, i64_w, i32_w]
  rfl
 refine done_ (by kernel_rfl) ?_
 obtain ⟨hcz80_0, hfz80_0⟩ := bk1 BK357.out
 obtain ⟨PN81, hpn81, hpo81, hpt81⟩ := laws_markStore_nest HO356.out
 go_upto_region 21 with (first | ((with_reducible refine gate_callee (f := 62) rfl ?_); refine goesL_ (some 52) rfl rfl Try.func62 (by kernel_rfl) rfl #[.agg #[.slice Ao243 t354.length co243], .int .i64 1] rfl (by (try simp only [List.map_toArray, List.map_cons, List.map_nil]); first | done | rfl | (simp only [List.length_drop, List.length_take]; rfl)) ?_; (with_reducible refine (laws_markStore.calls k PN81 (.slice Ao243 t354.length co243) t354 1 t394 w _ ?side1 ?side2 A33.out).mono ?_); (case side1 => repeat (first | (with_reducible first | exact HB.out | apply below_alloc | apply pw_below_drewN | apply below_drew1 | refine below_set ?_ GE331.out | refine below_set ?_ GE332.out | refine below_set ?_ GE357.out | refine below_set ?_ GE371.out) | exact HB.out)); (case side2 => (with_reducible repeat (first | apply Kd.S_alloc | apply Kd.S_drewN | apply Kd.S_drew)); exact hpn81); rintro e w82 ⟨rfl, hb, hkp⟩; refine ⟨_, rfl, ?_⟩; have n0_ := AM_ (blk_kept (by (with_reducible repeat (first | refine blk_drewN ?_ _ | refine blk_drew ?_ | refine blk_alloc ?_ _)); exact BK331.out) hkp (fun hs_ => (fun e_ => laws_markStore_types ⟨_, BK331.out⟩ (hpt81 _ e_) (by decide)) hs_)); have n1_ := AM_ (blk_kept (by (with_reducible repeat (first | refine blk_drewN ?_ _ | refine blk_drew ?_ | refine blk_alloc ?_ _)); exact BK332.out) hkp (fun hs_ => (fun e_ => laws_markStore_types ⟨_, BK332.out⟩ (hpt81 _ e_) (by decide)) hs_)); have n2_ := AM_ (Kd.R_mono (ok' := fun k_ => some k_ ≠ (.slice Ao254 t365.length co254 : Value).ownBlock ∧ some k_ ≠ (.slice Ao77 t387.length co77 : Value).ownBlock) (Kd.R_keptB ((laws_markStore_apart (P := PN81) rfl HO347.out (fun k_ e_ hp_ => laws_markStore_types (Kd.R_typed HO347.out k_ e_) (hpt81 k_ hp_) (by decide)))) hkp (fun k_ hk_ hs_ => (hk_.2) hs_)) (fun k_ hk_ => ⟨hk_.1.1.1.2, hk_.1.1.2⟩)); have n3_ := AM_ (Kd.R_mono (ok' := fun k_ => some k_ ≠ (.slice Ao255 t368.length co255 : Value).ownBlock ∧ some k_ ≠ (.slice Ao78 t390.length co78 : Value).ownBlock) (Kd.R_keptB ((laws_markStore_apart (P := PN81) rfl HO350.out (fun k_ e_ hp_ => laws_markStore_types (Kd.R_typed HO350.out k_ e_) (hpt81 k_ hp_) (by decide)))) hkp (fun k_ hk_ hs_ => (hk_.2) hs_)) (fun k_ hk_ => ⟨hk_.1.1.1.2, hk_.1.1.2⟩)); have n4_ := AM_ (Kd.R_mono (ok' := fun k_ => some k_ ≠ (.slice Ao258 t372.length co258 : Value).ownBlock) (Kd.R_keptB ((laws_markStore_apart (P := PN81) rfl HO353.out (fun k_ e_ hp_ => ((hpo81 k_ hp_).1.1.2) e_.symm))) hkp (fun k_ hk_ hs_ => (hk_.2) hs_)) (fun k_ hk_ => hk_.1.1.2)); have n5_ := AM_ (blk_kept (by (with_reducible repeat (first | refine blk_drewN ?_ _ | refine blk_drew ?_ | refine blk_alloc ?_ _)); exact BK357.out) hkp (fun hs_ => (fun e_ => laws_markStore_types ⟨_, BK357.out⟩ (hpt81 _ e_) (by decide)) hs_)); have n6_ := AM_ (Kd.R_mono (ok' := fun k_ => some k_ ≠ (.slice Ao237 t345.length co237 : Value).ownBlock ∧ some k_ ≠ (.slice Ao77 t387.length co77 : Value).ownBlock) (Kd.R_keptB ((laws_markStore_apart (P := PN81) rfl HO367.out (fun k_ e_ hp_ => laws_markStore_types (Kd.R_typed HO367.out k_ e_) (hpt81 k_ hp_) (by decide)))) hkp (fun k_ hk_ hs_ => (hk_.2) hs_)) (fun k_ hk_ => ⟨hk_.1.1.1.2, hk_.1.1.2⟩)); have n7_ := AM_ (Kd.R_mono (ok' := fun k_ => some k_ ≠ (.slice Ao238 t348.length co238 : Value).ownBlock ∧ some k_ ≠ (.slice Ao78 t390.length co78 : Value).ownBlock) (Kd.R_keptB ((laws_markStore_apart (P := PN81) rfl HO370.out (fun k_ e_ hp_ => laws_markStore_types (Kd.R_typed HO370.out k_ e_) (hpt81 k_ hp_) (by decide)))) hkp (fun k_ hk_ hs_ => (hk_.2) hs_)) (fun k_ hk_ => ⟨hk_.1.1.1.2, hk_.1.1.2⟩)); have n8_ := AM_ (blk_kept (by (with_reducible repeat (first | refine blk_drewN ?_ _ | refine blk_drew ?_ | refine blk_alloc ?_ _)); exact BK371.out) hkp (fun hs_ => (fun e_ => laws_markStore_types ⟨_, BK371.out⟩ (hpt81 _ e_) (by decide)) hs_)); have n9_ := AM_ (Kd.R_mono (ok' := fun k_ => some k_ ≠ (.slice Ao259 t351.length co259 : Value).ownBlock) (Kd.R_keptB ((laws_markStore_apart (P := PN81) rfl HO374.out (fun k_ e_ hp_ => ((hpo81 k_ hp_).1.2) e_.symm))) hkp (fun k_ hk_ hs_ => (hk_.2) hs_)) (fun k_ hk_ => hk_.1.1.2)); have n10_ := AM_ (Kd.R_mono (ok' := fun k_ => some k_ ≠ (.slice Ao237 t345.length co237 : Value).ownBlock ∧ some k_ ≠ (.slice Ao254 t365.length co254 : Value).ownBlock) (Kd.R_keptB ((laws_markStore_apart (P := PN81) rfl HO389.out (fun k_ e_ hp_ => laws_markStore_types (Kd.R_typed HO389.out k_ e_) (hpt81 k_ hp_) (by decide)))) hkp (fun k_ hk_ hs_ => (hk_.2) hs_)) (fun k_ hk_ => ⟨hk_.1.1.1.2, hk_.1.1.2⟩)); have n11_ := AM_ (Kd.R_mono (ok' := fun k_ => some k_ ≠ (.slice Ao238 t348.length co238 : Value).ownBlock ∧ some k_ ≠ (.slice Ao255 t368.length co255 : Value).ownBlock) (Kd.R_keptB ((laws_markStore_apart (P := PN81) rfl HO392.out (fun k_ e_ hp_ => laws_markStore_types (Kd.R_typed HO392.out k_ e_) (hpt81 k_ hp_) (by decide)))) hkp (fun k_ hk_ hs_ => (hk_.2) hs_)) (fun k_ hk_ => ⟨hk_.1.1.1.2, hk_.1.1.2⟩)); have n12_ := AM_ (hb); clear BK331; clear BK332; clear HO347; clear HO350; clear HO353; clear BK357; clear HO367; clear HO370; clear BK371; clear HO374; clear HO389; clear HO392; clear HB; clear HO356; clear HO337; clear HO378; have BK331 := n0_; have BK332 := n1_; have HO347 := n2_; have HO350 := n3_; have HO353 := n4_; have BK357 := n5_; have HO367 := n6_; have HO370 := n7_; have BK371 := n8_; have HO374 := n9_; have HO389 := n10_; have HO392 := n11_; have HB := n12_; clear n0_ n1_ n2_ n3_ n4_ n5_ n6_ n7_ n8_ n9_ n10_ n11_ n12_; (try clear hb); (try clear hkp); obtain ⟨hcz83_0, hcz83_1, hcz83_2, hcz83_3, hcz83_4, hcz83_5, hcz83_6, hcz83_7, hcz83_8, hfz83_0, hfz83_1, hfz83_2, hfz83_3, hfz83_4, hfz83_5, hfz83_6, hfz83_7, hfz83_8⟩ := bk9 BK371.out) | ((with_reducible refine gate_callee (f := 63) rfl ?_); refine goesL_ (some 55) rfl rfl Try.func63 (by kernel_rfl) rfl #[.agg #[.int .i64 t358, .int .i64 t359, .int .i64 t360, .int .i64 t361, .int .i64 t362, .int .i64 t363, .int .i64 t364, .slice Ao254 t365.length co254, .slice Ao255 t368.length co255], .int .i64 t394] rfl (by (try simp only [List.map_toArray, List.map_cons, List.map_nil]); first | done | rfl | (simp only [List.length_drop, List.length_take]; rfl)) ?_; (with_reducible refine (laws_markTransaction.calls k t358 t359 t360 t361 t362 t363 t364 (fun k_ => some k_ = (.slice Ao254 t365.length co254 : Value).ownBlock) (.slice Ao254 t365.length co254) t365 (fun k_ => some k_ = (.slice Ao255 t368.length co255 : Value).ownBlock) (.slice Ao255 t368.length co255) t368 t394 t395 t396 t397 w _ ?side1 ?side2 ?side3 A34.out).mono ?_); (case side1 => repeat (first | (with_reducible first | exact HB.out | apply below_alloc | apply pw_below_drewN | apply below_drew1 | refine below_set ?_ GE331.out | refine below_set ?_ GE332.out | refine below_set ?_ GE357.out | refine below_set ?_ GE371.out) | exact HB.out)); (case side2 => exact Kd.R_tight rfl HO367.out); (case side3 => exact Kd.R_tight rfl HO370.out); rintro e w84 ⟨rfl, hy0, hy1, hb, hkp⟩; refine ⟨_, rfl, ?_⟩; replace BK331 := AM_ (blk_kept (by (with_reducible repeat (first | refine blk_drewN ?_ _ | refine blk_drew ?_ | refine blk_alloc ?_ _)); exact BK331.out) hkp (fun hs_ => Or.elim hs_ (fun e_ => (fun e_ => (Kd.R_ne HO367.out BK331.out (by decide)) e_) e_) (fun e_ => (fun e_ => (Kd.R_ne HO370.out BK331.out (by decide)) e_) e_))); replace BK332 := AM_ (blk_kept (by (with_reducible repeat (first | refine blk_drewN ?_ _ | refine blk_drew ?_ | refine blk_alloc ?_ _)); exact BK332.out) hkp (fun hs_ => Or.elim hs_ (fun e_ => (fun e_ => (Kd.R_ne HO367.out BK332.out (by decide)) e_) e_) (fun e_ => (fun e_ => (Kd.R_ne HO370.out BK332.out (by decide)) e_) e_))); replace HO347 := AM_ (Kd.R_mono (ok' := fun k_ => some k_ ≠ (.slice Ao254 t365.length co254 : Value).ownBlock ∧ some k_ ≠ (.slice Ao77 t387.length co77 : Value).ownBlock) (Kd.R_keptB ((Kd.R_apart' HO347.out (Kd.R_typed HO370.out) (by decide))) hkp (fun k_ hk_ hs_ => Or.elim hs_ (fun e_ => (hk_.1.1) e_) (fun e_ => (hk_.2) e_))) (fun k_ hk_ => ⟨hk_.1.1.1, hk_.1.1.2⟩)); replace HO350 := AM_ (Kd.R_mono (ok' := fun k_ => some k_ ≠ (.slice Ao255 t368.length co255 : Value).ownBlock ∧ some k_ ≠ (.slice Ao78 t390.length co78 : Value).ownBlock) (Kd.R_keptB ((Kd.R_apart' HO350.out (Kd.R_typed HO367.out) (by decide))) hkp (fun k_ hk_ hs_ => Or.elim hs_ (fun e_ => (hk_.2) e_) (fun e_ => (hk_.1.1) e_))) (fun k_ hk_ => ⟨hk_.1.1.1, hk_.1.1.2⟩)); replace HO353 := AM_ (Kd.R_mono (ok' := fun k_ => some k_ ≠ (.slice Ao258 t372.length co258 : Value).ownBlock) (Kd.R_keptB ((Kd.R_apart' (Kd.R_apart' HO353.out (Kd.R_typed HO367.out) (by decide)) (Kd.R_typed HO370.out) (by decide))) hkp (fun k_ hk_ hs_ => Or.elim hs_ (fun e_ => (hk_.1.2) e_) (fun e_ => (hk_.2) e_))) (fun k_ hk_ => hk_.1.1.1)); replace BK357 := AM_ (blk_kept (by (with_reducible repeat (first | refine blk_drewN ?_ _ | refine blk_drew ?_ | refine blk_alloc ?_ _)); exact BK357.out) hkp (fun hs_ => Or.elim hs_ (fun e_ => (fun e_ => (Kd.R_ne HO367.out BK357.out (by decide)) e_) e_) (fun e_ => (fun e_ => (Kd.R_ne HO370.out BK357.out (by decide)) e_) e_))); replace BK371 := AM_ (blk_kept (by (with_reducible repeat (first | refine blk_drewN ?_ _ | refine blk_drew ?_ | refine blk_alloc ?_ _)); exact BK371.out) hkp (fun hs_ => Or.elim hs_ (fun e_ => (fun e_ => (Kd.R_ne HO367.out BK371.out (by decide)) e_) e_) (fun e_ => (fun e_ => (Kd.R_ne HO370.out BK371.out (by decide)) e_) e_))); replace HO374 := AM_ (Kd.R_mono (ok' := fun k_ => some k_ ≠ (.slice Ao259 t351.length co259 : Value).ownBlock) (Kd.R_keptB ((Kd.R_apart' (Kd.R_apart' HO374.out (Kd.R_typed HO367.out) (by decide)) (Kd.R_typed HO370.out) (by decide))) hkp (fun k_ hk_ hs_ => Or.elim hs_ (fun e_ => (hk_.1.2) e_) (fun e_ => (hk_.2) e_))) (fun k_ hk_ => hk_.1.1.1)); replace HO389 := AM_ (Kd.R_mono (ok' := fun k_ => some k_ ≠ (.slice Ao237 t345.length co237 : Value).ownBlock ∧ some k_ ≠ (.slice Ao254 t365.length co254 : Value).ownBlock) (Kd.R_keptB ((Kd.R_apart' HO389.out (Kd.R_typed HO370.out) (by decide))) hkp (fun k_ hk_ hs_ => Or.elim hs_ (fun e_ => (hk_.1.2) e_) (fun e_ => (hk_.2) e_))) (fun k_ hk_ => ⟨hk_.1.1.1, hk_.1.1.2⟩)); replace HO370 := AM_ (Kd.R_reok rfl hy1 (fun k_ e_ => HO370.out.1 k_ e_)); replace HO392 := AM_ (Kd.R_mono (ok' := fun k_ => some k_ ≠ (.slice Ao238 t348.length co238 : Value).ownBlock ∧ some k_ ≠ (.slice Ao255 t368.length co255 : Value).ownBlock) (Kd.R_keptB ((Kd.R_apart' HO392.out (Kd.R_typed HO367.out) (by decide))) hkp (fun k_ hk_ hs_ => Or.elim hs_ (fun e_ => (hk_.2) e_) (fun e_ => (hk_.1.2) e_))) (fun k_ hk_ => ⟨hk_.1.1.1, hk_.1.1.2⟩)); replace HO367 := AM_ (Kd.R_reok rfl hy0 (fun k_ e_ => HO367.out.1 k_ e_)); replace HB := AM_ (hb); (try clear hb); (try clear hkp); (try clear hy0); (try clear hy1)))
 (try simp only [pA, pS, pZ, pK])
 go_cut [63] (fun v63 wc => ∃ (kq : Nat) (x63_34 : Bool), v63 = .bool x63_34 ∧ Aside0 (laws_FnExactInstalledVersions.j0 kq t351 t372 x63_34 l0_0 a1_0 a1_1 a1_2 a1_3 a1_4 a1_5 a1_6 l1_7 l1_8 = some r) ∧ Aside0 (kq ≤ k) ∧ Aside0 (Kd.R k76 76 wc w.heap.size (fun k_ => some k_ ≠ ((.slice Ao258 t372.length co258) : Value).ownBlock) (.slice Ao259 t351.length co259) t351) ∧ Aside0 (Kd.R k76 76 wc w.heap.size (fun k_ => some k_ ≠ ((.slice Ao259 t351.length co259) : Value).ownBlock) (.slice Ao258 t372.length co258) t372) ∧ Aside0 (Kd.R k165 165 wc w.heap.size (fun _ => True) (.slice Ao254 t365.length co254) t396) ∧ Aside0 (Kd.R k133 133 wc w.heap.size (fun _ => True) (.slice Ao255 t368.length co255) t397) ∧ Aside0 (wc.heap[gb331]? = some (.cells #[(.slice A0_0 l0_0.length c0_0)] 39 (0, 0))) ∧ Aside0 (wc.heap[gb332]? = some (.cells #[.int .i64 a1_0, .int .i64 a1_1, .int .i64 a1_2, .int .i64 a1_3, .int .i64 a1_4, .int .i64 a1_5, .int .i64 a1_6, (.slice A1_7 l1_7.length c1_7), (.slice A1_8 l1_8.length c1_8)] 60 (0, 0))) ∧ Aside0 (wc.heap[gb371]? = some (.cells #[.int .i64 t358, .int .i64 t359, .int .i64 t360, .int .i64 t361, .int .i64 t362, .int .i64 t363, .int .i64 t364, (.slice Ao254 t365.length co254), (.slice Ao255 t368.length co255)] 68 (0, 0))) ∧ Aside0 (Below w.heap.size w wc))
 case first =>
  have H := HC35.out
  clear HC35
  by_cases c85 : t395 < 0
  ·rw [if_pos c85] at H
   have c85b0 : decide (t395 < 0) = true := decide_eq_true c85
   clear c85
   (first | rw [c85b0] | (simp only [i64_w, i32_w]; rw [c85b0]) | skip)
   have H' := AM_ H
   clear H
   go_wp2
   go_meet
   case rel => exact ⟨_, (true), (by first | rfl | (simp; done) | (simp [*]; done)), H', ⟨by first | omega | exact Nat.le_refl _⟩, ⟨RT HO353.out⟩, ⟨RT HO374.out⟩, ⟨by (with_reducible repeat (first | apply Kd.R_alloc | apply Kd.R_drewN | apply Kd.R_drew)); exact Kd.R_mono HO367.out (fun _ hk => trivial)⟩, ⟨by (with_reducible repeat (first | apply Kd.R_alloc | apply Kd.R_drewN | apply Kd.R_drew)); exact Kd.R_mono HO370.out (fun _ hk => trivial)⟩, ⟨BH BK331.out⟩, ⟨BH BK332.out⟩, ⟨BH BK371.out⟩, ⟨BT HB.out⟩⟩
  rw [if_neg c85] at H
  have c85b0 : decide (t395 < 0) = false := decide_eq_false c85
  clear c85
  (first | rw [c85b0] | (simp only [i64_w, i32_w]; rw [c85b0]) | skip)
  replace H := Option.bind_eq_some_iff.mp H
  obtain ⟨t398, A860, H⟩ := H
  replace H : (laws_FnExactInstalledVersions.j0 k t351 t372 (!t398) l0_0 a1_0 a1_1 a1_2 a1_3 a1_4 a1_5 a1_6 l1_7 l1_8) = some r := H
  have A86 := AM_ A860
  clear A860
  have H' := AM_ H
  clear H
  go_wp2_with (first | (go_at_call 61; (with_reducible refine (laws_eqVersionS.calls k _ _ t372 _ _ t351 t398 _ ?side1 ?side2 ?side3 ?side4 A86.out).mono ?_); (case side1 => exact Kd.C_below (Kd.R_reads' HO374.out).2.2 (BL (Below.refl _ _) rfl rfl rfl rfl)); (case side2 => exact (Kd.R_reads' HO374.out).2.1); (case side3 => exact Kd.C_below (Kd.R_reads' HO353.out).2.2 (BL (Below.refl _ _) rfl rfl rfl rfl)); (case side4 => exact (Kd.R_reads' HO353.out).2.1); rintro e w87 ⟨rfl, hb⟩; replace HO347 := AM_ (Kd.R_below (RT HO347.out) hb); replace HO350 := AM_ (Kd.R_below (RT HO350.out) hb); replace HO353 := AM_ (Kd.R_below (RT HO353.out) hb); replace HO367 := AM_ (Kd.R_below (RT HO367.out) hb); replace HO370 := AM_ (Kd.R_below (RT HO370.out) hb); replace HO374 := AM_ (Kd.R_below (RT HO374.out) hb); replace HO389 := AM_ (Kd.R_below (RT HO389.out) hb); replace HO392 := AM_ (Kd.R_below (RT HO392.out) hb); replace BK331 := AM_ (BB BK331.out hb); replace BK332 := AM_ (BB BK332.out hb); replace BK357 := AM_ (BB BK357.out hb); replace BK371 := AM_ (BB BK371.out hb); replace HB := AM_ (below_step (BT HB.out) hb); (try clear hb); (try clear hb2); (try clear hk); (try clear hi)))
  go_meet
  case rel => exact ⟨_, (!t398), (by first | rfl | (simp; done) | (simp [*]; done)), H', ⟨by first | omega | exact Nat.le_refl _⟩, ⟨RT HO353.out⟩, ⟨RT HO374.out⟩, ⟨by (with_reducible repeat (first | apply Kd.R_alloc | apply Kd.R_drewN | apply Kd.R_drew)); exact Kd.R_mono HO367.out (fun _ hk => trivial)⟩, ⟨by (with_reducible repeat (first | apply Kd.R_alloc | apply Kd.R_drewN | apply Kd.R_drew)); exact Kd.R_mono HO370.out (fun _ hk => trivial)⟩, ⟨BH BK331.out⟩, ⟨BH BK332.out⟩, ⟨BH BK371.out⟩, ⟨BT HB.out⟩⟩
 case rest =>
  clear HC35
  try clear c1
  try clear p2
  try clear c3
  try clear c5
  try clear c6
  try clear c8
  try clear c35
  try clear c36
  try clear c38
  try clear c39
  try clear c54
  try clear c55
  try clear c59
  try clear c60
  try clear c61
  try clear c62
  try clear c63
  try clear c85
  try clear c85b0
  try clear hcz240_0
  try clear hcz246_0
  try clear hcz247_0
  try clear hcz247_1
  try clear hcz247_2
  try clear hcz247_3
  try clear hcz247_4
  try clear hcz247_5
  try clear hcz247_6
  try clear hcz247_7
  try clear hcz247_8
  try clear hcz253_0
  try clear hcz253_1
  try clear hcz253_2
  try clear hcz253_3
  try clear hcz253_4
  try clear hcz253_5
  try clear hcz253_6
  try clear hcz253_7
  try clear hcz253_8
  try clear hcz256_0
  try clear hcz80_0
  try clear hcz83_0
  try clear hcz83_1
  try clear hcz83_2
  try clear hcz83_3
  try clear hcz83_4
  try clear hcz83_5
  try clear hcz83_6
  try clear hcz83_7
  try clear hcz83_8
  try clear hfz240_0
  try clear hfz246_0
  try clear hfz247_0
  try clear hfz247_1
  try clear hfz247_2
  try clear hfz247_3
  try clear hfz247_4
  try clear hfz247_5
  try clear hfz247_6
  try clear hfz247_7
  try clear hfz247_8
  try clear hfz253_0
  try clear hfz253_1
  try clear hfz253_2
  try clear hfz253_3
  try clear hfz253_4
  try clear hfz253_5
  try clear hfz253_6
  try clear hfz253_7
  try clear hfz253_8
  try clear hfz256_0
  try clear hfz80_0
  try clear hfz83_0
  try clear hfz83_1
  try clear hfz83_2
  try clear hfz83_3
  try clear hfz83_4
  try clear hfz83_5
  try clear hfz83_6
  try clear hfz83_7
  try clear hfz83_8
  obtain ⟨kq, x63_34, rfl, HA, HJ34, HO_6, HO_9, HO_372007, HO_372008, BK331, BK332, BK371, HB⟩ := hcut
  have hl372007_34 := (Kd.R_reads' HO_372007.out).1
  rw [hl372007_34] at HO_372007
  (try simp only [hl372007_34])
  (try simp only [hl372007_34] at BK331)
  (try simp only [hl372007_34] at BK332)
  (try simp only [hl372007_34] at BK371)
  (try simp only [hl372007_34] at HO_6)
  (try simp only [hl372007_34] at HO_9)
  (try simp only [hl372007_34] at HO_372008)
  have hl372008_34 := (Kd.R_reads' HO_372008.out).1
  rw [hl372008_34] at HO_372008
  (try simp only [hl372008_34])
  (try simp only [hl372008_34] at BK331)
  (try simp only [hl372008_34] at BK332)
  (try simp only [hl372008_34] at BK371)
  (try simp only [hl372008_34] at HO_6)
  (try simp only [hl372008_34] at HO_9)
  (try simp only [hl372008_34] at HO_372007)
  cases kq with
  | zero => exact absurd HA.out (by simp [laws_FnExactInstalledVersions.j0])
  | succ kj34 =>
   have H := HA.out
   clear HA
   simp only [laws_FnExactInstalledVersions.j0] at H
   by_cases c88 : x63_34 = true
   ·subst c88
    have H1 : (some false) = some r := by rw [if_pos rfl] at H; exact H
    clear H
    have H := H1
    clear H1
    obtain rfl := Option.some.inj H
    go_wp2
    go_ret
    exact QT (BT HB.out)
   replace c88 := Bool.eq_false_iff.mpr c88
   subst c88
   have H1 : ((laws_markVersionS.f kj34 t372 1).bind fun bt399 => ((laws_heldVersionS.f kj34 bt399.2 1).bind fun t401 => (if t401 < 0 then (some false) else (if t401 = bt399.1 then ((laws_toStore.f kj34 l0_0).bind fun t402 => ((laws_toTransaction.f kj34 a1_0 a1_1 a1_2 a1_3 a1_4 a1_5 a1_6 l1_7 l1_8).bind fun bt405 => ((impl_InstalledVersions.f kj34 t402 bt405.1 bt405.2.1 bt405.2.2.1 bt405.2.2.2.1 bt405.2.2.2.2.1 bt405.2.2.2.2.2.1 bt405.2.2.2.2.2.2.1 bt405.2.2.2.2.2.2.2.1 bt405.2.2.2.2.2.2.2.2).bind fun t418 => ((laws_eqVersionS.f kj34 t418 t351).bind fun t421 => (if t421 = true then ((laws_heldVersionS.f kj34 bt399.2 1).bind fun t422 => (if t422 < 0 then (some false) else (if t422 = bt399.1 then (some true) else (some false)))) else (some false)))))) else (some false))))) = some r := by rw [if_neg (show ¬ (false = true) by decide)] at H; exact H
   clear H
   have H := H1
   clear H1
   replace H := Option.bind_eq_some_iff.mp H
   obtain ⟨⟨t399, t400⟩, A890, H⟩ := H
   replace H : ((laws_heldVersionS.f kj34 t400 1).bind fun t401 => (if t401 < 0 then (some false) else (if t401 = t399 then ((laws_toStore.f kj34 l0_0).bind fun t402 => ((laws_toTransaction.f kj34 a1_0 a1_1 a1_2 a1_3 a1_4 a1_5 a1_6 l1_7 l1_8).bind fun bt405 => ((impl_InstalledVersions.f kj34 t402 bt405.1 bt405.2.1 bt405.2.2.1 bt405.2.2.2.1 bt405.2.2.2.2.1 bt405.2.2.2.2.2.1 bt405.2.2.2.2.2.2.1 bt405.2.2.2.2.2.2.2.1 bt405.2.2.2.2.2.2.2.2).bind fun t418 => ((laws_eqVersionS.f kj34 t418 t351).bind fun t421 => (if t421 = true then ((laws_heldVersionS.f kj34 t400 1).bind fun t422 => (if t422 < 0 then (some false) else (if t422 = t399 then (some true) else (some false)))) else (some false)))))) else (some false)))) = some r := H
   have A89 := AM_ A890
   clear A890
   replace H := Option.bind_eq_some_iff.mp H
   obtain ⟨t401, A900, H⟩ := H
   replace H : (if t401 < 0 then (some false) else (if t401 = t399 then ((laws_toStore.f kj34 l0_0).bind fun t402 => ((laws_toTransaction.f kj34 a1_0 a1_1 a1_2 a1_3 a1_4 a1_5 a1_6 l1_7 l1_8).bind fun bt405 => ((impl_InstalledVersions.f kj34 t402 bt405.1 bt405.2.1 bt405.2.2.1 bt405.2.2.2.1 bt405.2.2.2.2.1 bt405.2.2.2.2.2.1 bt405.2.2.2.2.2.2.1 bt405.2.2.2.2.2.2.2.1 bt405.2.2.2.2.2.2.2.2).bind fun t418 => ((laws_eqVersionS.f kj34 t418 t351).bind fun t421 => (if t421 = true then ((laws_heldVersionS.f kj34 t400 1).bind fun t422 => (if t422 < 0 then (some false) else (if t422 = t399 then (some true) else (some false)))) else (some false)))))) else (some false))) = some r := H
   have A90 := AM_ A900
   clear A900
   by_cases c91 : t401 < 0
   ·rw [if_pos c91] at H
    have c91b0 : decide (t401 < 0) = true := decide_eq_true c91
    clear c91
    obtain rfl := Option.some.inj H
    go_wp2_with (first | ((with_reducible refine gate_callee (f := 64) rfl ?_); refine goesL_ (some 66) rfl rfl Try.func64 (by kernel_rfl) rfl #[.slice Ao258 t372.length co258, .int .i64 1] rfl (by (try simp only [List.map_toArray, List.map_cons, List.map_nil]); first | done | rfl | (simp only [List.length_drop, List.length_take]; rfl)) ?_; (with_reducible refine (laws_markVersionS.calls kj34 (fun k_ => some k_ = (.slice Ao258 t372.length co258 : Value).ownBlock) (.slice Ao258 t372.length co258) t372 1 t399 t400 w _ ?side1 ?side2 A89.out).mono ?_); (case side1 => repeat (first | (with_reducible first | exact HB.out | apply below_alloc | apply pw_below_drewN | apply below_drew1 | refine below_set ?_ GE331.out | refine below_set ?_ GE332.out | refine below_set ?_ GE371.out) | exact HB.out)); (case side2 => exact Kd.R_tight rfl HO_9.out); rintro e w92 ⟨rfl, hy0, hb, hkp⟩; refine ⟨_, rfl, ?_⟩; replace HO_6 := AM_ (Kd.R_mono (ok' := fun k_ => some k_ ≠ (.slice Ao258 t372.length co258 : Value).ownBlock) (Kd.R_keptB (HO_6.out) hkp (fun k_ hk_ hs_ => (hk_) hs_)) (fun k_ hk_ => hk_.1)); replace HO_372007 := AM_ (Kd.R_mono (ok' := fun k_ => True) (Kd.R_keptB ((Kd.R_apart' HO_372007.out (Kd.R_typed HO_9.out) (by decide))) hkp (fun k_ hk_ hs_ => (hk_.2) hs_)) (fun k_ hk_ => trivial)); replace HO_372008 := AM_ (Kd.R_mono (ok' := fun k_ => True) (Kd.R_keptB ((Kd.R_apart' HO_372008.out (Kd.R_typed HO_9.out) (by decide))) hkp (fun k_ hk_ hs_ => (hk_.2) hs_)) (fun k_ hk_ => trivial)); replace BK331 := AM_ (blk_kept (by (with_reducible repeat (first | refine blk_drewN ?_ _ | refine blk_drew ?_ | refine blk_alloc ?_ _)); exact BK331.out) hkp (fun hs_ => (fun e_ => (Kd.R_ne HO_9.out BK331.out (by decide)) e_) hs_)); replace BK332 := AM_ (blk_kept (by (with_reducible repeat (first | refine blk_drewN ?_ _ | refine blk_drew ?_ | refine blk_alloc ?_ _)); exact BK332.out) hkp (fun hs_ => (fun e_ => (Kd.R_ne HO_9.out BK332.out (by decide)) e_) hs_)); replace BK371 := AM_ (blk_kept (by (with_reducible repeat (first | refine blk_drewN ?_ _ | refine blk_drew ?_ | refine blk_alloc ?_ _)); exact BK371.out) hkp (fun hs_ => (fun e_ => (Kd.R_ne HO_9.out BK371.out (by decide)) e_) hs_)); replace HO_9 := AM_ (Kd.R_reok rfl hy0 (fun k_ e_ => HO_9.out.1 k_ e_)); replace HB := AM_ (hb); (try clear hb); (try clear hkp); (try clear hy0)) | ((with_reducible refine gate_callee (f := 65) rfl ?_); refine goesL_ (some 69) rfl rfl Try.func65 (by kernel_rfl) rfl #[.slice Ao258 t400.length co258, .int .i64 1] rfl (by (try simp only [List.map_toArray, List.map_cons, List.map_nil]); first | done | (rw [show t400.length = t372.length from (Kd.R_reads' HO_9.out).1.symm] <;> rfl) | rfl | (simp only [List.length_drop, List.length_take]; rfl)) ?_; (with_reducible refine (laws_heldVersionS.calls kj34 _ _ t400 1 t401 _ ?side1 ?side2 A90.out).mono ?_); (case side1 => exact Kd.C_below (Kd.R_reads' HO_9.out).2.2 (BL (Below.refl _ _) rfl rfl rfl rfl)); (case side2 => rw [show t400.length = t372.length from (Kd.R_reads' HO_9.out).1.symm]; exact (Kd.R_reads' HO_9.out).2.1); rintro e w' ⟨rfl, ⟨nd, rfl⟩⟩; refine ⟨_, rfl, ?_⟩))
    go_ret
    exact QT (BT HB.out)
   rw [if_neg c91] at H
   have c91b0 : decide (t401 < 0) = false := decide_eq_false c91
   clear c91
   by_cases c93 : t401 = t399
   rotate_left
   ·rw [if_neg c93] at H
    have c93b0 : (t401 == t399) = false := beq_eq_false_iff_ne.mpr c93
    have c93b1 : (t401 != t399) = true := bne_iff_ne.mpr c93
    obtain rfl := Option.some.inj H
    go_wp2_with (first | ((with_reducible refine gate_callee (f := 64) rfl ?_); refine goesL_ (some 66) rfl rfl Try.func64 (by kernel_rfl) rfl #[.slice Ao258 t372.length co258, .int .i64 1] rfl (by (try simp only [List.map_toArray, List.map_cons, List.map_nil]); first | done | rfl | (simp only [List.length_drop, List.length_take]; rfl)) ?_; (with_reducible refine (laws_markVersionS.calls kj34 (fun k_ => some k_ = (.slice Ao258 t372.length co258 : Value).ownBlock) (.slice Ao258 t372.length co258) t372 1 t399 t400 w _ ?side1 ?side2 A89.out).mono ?_); (case side1 => repeat (first | (with_reducible first | exact HB.out | apply below_alloc | apply pw_below_drewN | apply below_drew1 | refine below_set ?_ GE331.out | refine below_set ?_ GE332.out | refine below_set ?_ GE371.out) | exact HB.out)); (case side2 => exact Kd.R_tight rfl HO_9.out); rintro e w142 ⟨rfl, hy0, hb, hkp⟩; refine ⟨_, rfl, ?_⟩; replace HO_6 := AM_ (Kd.R_mono (ok' := fun k_ => some k_ ≠ (.slice Ao258 t372.length co258 : Value).ownBlock) (Kd.R_keptB (HO_6.out) hkp (fun k_ hk_ hs_ => (hk_) hs_)) (fun k_ hk_ => hk_.1)); replace HO_372007 := AM_ (Kd.R_mono (ok' := fun k_ => True) (Kd.R_keptB ((Kd.R_apart' HO_372007.out (Kd.R_typed HO_9.out) (by decide))) hkp (fun k_ hk_ hs_ => (hk_.2) hs_)) (fun k_ hk_ => trivial)); replace HO_372008 := AM_ (Kd.R_mono (ok' := fun k_ => True) (Kd.R_keptB ((Kd.R_apart' HO_372008.out (Kd.R_typed HO_9.out) (by decide))) hkp (fun k_ hk_ hs_ => (hk_.2) hs_)) (fun k_ hk_ => trivial)); replace BK331 := AM_ (blk_kept (by (with_reducible repeat (first | refine blk_drewN ?_ _ | refine blk_drew ?_ | refine blk_alloc ?_ _)); exact BK331.out) hkp (fun hs_ => (fun e_ => (Kd.R_ne HO_9.out BK331.out (by decide)) e_) hs_)); replace BK332 := AM_ (blk_kept (by (with_reducible repeat (first | refine blk_drewN ?_ _ | refine blk_drew ?_ | refine blk_alloc ?_ _)); exact BK332.out) hkp (fun hs_ => (fun e_ => (Kd.R_ne HO_9.out BK332.out (by decide)) e_) hs_)); replace BK371 := AM_ (blk_kept (by (with_reducible repeat (first | refine blk_drewN ?_ _ | refine blk_drew ?_ | refine blk_alloc ?_ _)); exact BK371.out) hkp (fun hs_ => (fun e_ => (Kd.R_ne HO_9.out BK371.out (by decide)) e_) hs_)); replace HO_9 := AM_ (Kd.R_reok rfl hy0 (fun k_ e_ => HO_9.out.1 k_ e_)); replace HB := AM_ (hb); (try clear hb); (try clear hkp); (try clear hy0)) | ((with_reducible refine gate_callee (f := 65) rfl ?_); refine goesL_ (some 69) rfl rfl Try.func65 (by kernel_rfl) rfl #[.slice Ao258 t400.length co258, .int .i64 1] rfl (by (try simp only [List.map_toArray, List.map_cons, List.map_nil]); first | done | (rw [show t400.length = t372.length from (Kd.R_reads' HO_9.out).1.symm] <;> rfl) | rfl | (simp only [List.length_drop, List.length_take]; rfl)) ?_; (with_reducible refine (laws_heldVersionS.calls kj34 _ _ t400 1 t401 _ ?side1 ?side2 A90.out).mono ?_); (case side1 => exact Kd.C_below (Kd.R_reads' HO_9.out).2.2 (BL (Below.refl _ _) rfl rfl rfl rfl)); (case side2 => rw [show t400.length = t372.length from (Kd.R_reads' HO_9.out).1.symm]; exact (Kd.R_reads' HO_9.out).2.1); rintro e w' ⟨rfl, ⟨nd, rfl⟩⟩; refine ⟨_, rfl, ?_⟩))
    go_ret
    exact QT (BT HB.out)
   rw [if_pos c93] at H
   have c93b0 : (t401 == t399) = true := beq_iff_eq.mpr c93
   have c93b1 : (t401 != t399) = false := bne_eq_false_iff_eq.mpr c93
   clear c93
   replace H := Option.bind_eq_some_iff.mp H
   obtain ⟨t402, A940, H⟩ := H
   replace H : ((laws_toTransaction.f kj34 a1_0 a1_1 a1_2 a1_3 a1_4 a1_5 a1_6 l1_7 l1_8).bind fun bt405 => ((impl_InstalledVersions.f kj34 t402 bt405.1 bt405.2.1 bt405.2.2.1 bt405.2.2.2.1 bt405.2.2.2.2.1 bt405.2.2.2.2.2.1 bt405.2.2.2.2.2.2.1 bt405.2.2.2.2.2.2.2.1 bt405.2.2.2.2.2.2.2.2).bind fun t418 => ((laws_eqVersionS.f kj34 t418 t351).bind fun t421 => (if t421 = true then ((laws_heldVersionS.f kj34 t400 1).bind fun t422 => (if t422 < 0 then (some false) else (if t422 = t399 then (some true) else (some false)))) else (some false))))) = some r := H
   have A94 := AM_ A940
   clear A940
   replace H := Option.bind_eq_some_iff.mp H
   obtain ⟨⟨t405, t406, t407, t408, t409, t410, t411, t412, t415⟩, A950, H⟩ := H
   replace H : ((impl_InstalledVersions.f kj34 t402 t405 t406 t407 t408 t409 t410 t411 t412 t415).bind fun t418 => ((laws_eqVersionS.f kj34 t418 t351).bind fun t421 => (if t421 = true then ((laws_heldVersionS.f kj34 t400 1).bind fun t422 => (if t422 < 0 then (some false) else (if t422 = t399 then (some true) else (some false)))) else (some false)))) = some r := H
   have A95 := AM_ A950
   clear A950
   replace H := Option.bind_eq_some_iff.mp H
   obtain ⟨t418, A960, H⟩ := H
   replace H : ((laws_eqVersionS.f kj34 t418 t351).bind fun t421 => (if t421 = true then ((laws_heldVersionS.f kj34 t400 1).bind fun t422 => (if t422 < 0 then (some false) else (if t422 = t399 then (some true) else (some false)))) else (some false))) = some r := H
   have A96 := AM_ A960
   clear A960
   replace H := Option.bind_eq_some_iff.mp H
   obtain ⟨t421, A970, H⟩ := H
   replace H : (if t421 = true then ((laws_heldVersionS.f kj34 t400 1).bind fun t422 => (if t422 < 0 then (some false) else (if t422 = t399 then (some true) else (some false)))) else (some false)) = some r := H
   have A97 := AM_ A970
   clear A970
   by_cases c98 : t421 = true
   rotate_left
   ·replace c98 := Bool.eq_false_iff.mpr c98
    subst c98
    have H1 : (some false) = some r := by rw [if_neg (show ¬ (false = true) by decide)] at H; exact H
    clear H
    have H := H1
    clear H1
    obtain rfl := Option.some.inj H
    try go_wp2_with (first | ((with_reducible refine gate_callee (f := 64) rfl ?_); refine goesL_ (some 66) rfl rfl Try.func64 (by kernel_rfl) rfl #[.slice Ao258 t372.length co258, .int .i64 1] rfl (by (try simp only [List.map_toArray, List.map_cons, List.map_nil]); first | done | rfl | (simp only [List.length_drop, List.length_take]; rfl)) ?_; (with_reducible refine (laws_markVersionS.calls kj34 (fun k_ => some k_ = (.slice Ao258 t372.length co258 : Value).ownBlock) (.slice Ao258 t372.length co258) t372 1 t399 t400 w _ ?side1 ?side2 A89.out).mono ?_); (case side1 => repeat (first | (with_reducible first | exact HB.out | apply below_alloc | apply pw_below_drewN | apply below_drew1 | refine below_set ?_ GE331.out | refine below_set ?_ GE332.out | refine below_set ?_ GE371.out) | exact HB.out)); (case side2 => exact Kd.R_tight rfl HO_9.out); rintro e w132 ⟨rfl, hy0, hb, hkp⟩; refine ⟨_, rfl, ?_⟩; replace HO_6 := AM_ (Kd.R_mono (ok' := fun k_ => some k_ ≠ (.slice Ao258 t372.length co258 : Value).ownBlock) (Kd.R_keptB (HO_6.out) hkp (fun k_ hk_ hs_ => (hk_) hs_)) (fun k_ hk_ => hk_.1)); replace HO_372007 := AM_ (Kd.R_mono (ok' := fun k_ => True) (Kd.R_keptB ((Kd.R_apart' HO_372007.out (Kd.R_typed HO_9.out) (by decide))) hkp (fun k_ hk_ hs_ => (hk_.2) hs_)) (fun k_ hk_ => trivial)); replace HO_372008 := AM_ (Kd.R_mono (ok' := fun k_ => True) (Kd.R_keptB ((Kd.R_apart' HO_372008.out (Kd.R_typed HO_9.out) (by decide))) hkp (fun k_ hk_ hs_ => (hk_.2) hs_)) (fun k_ hk_ => trivial)); replace BK331 := AM_ (blk_kept (by (with_reducible repeat (first | refine blk_drewN ?_ _ | refine blk_drew ?_ | refine blk_alloc ?_ _)); exact BK331.out) hkp (fun hs_ => (fun e_ => (Kd.R_ne HO_9.out BK331.out (by decide)) e_) hs_)); replace BK332 := AM_ (blk_kept (by (with_reducible repeat (first | refine blk_drewN ?_ _ | refine blk_drew ?_ | refine blk_alloc ?_ _)); exact BK332.out) hkp (fun hs_ => (fun e_ => (Kd.R_ne HO_9.out BK332.out (by decide)) e_) hs_)); replace BK371 := AM_ (blk_kept (by (with_reducible repeat (first | refine blk_drewN ?_ _ | refine blk_drew ?_ | refine blk_alloc ?_ _)); exact BK371.out) hkp (fun hs_ => (fun e_ => (Kd.R_ne HO_9.out BK371.out (by decide)) e_) hs_)); replace HO_9 := AM_ (Kd.R_reok rfl hy0 (fun k_ e_ => HO_9.out.1 k_ e_)); replace HB := AM_ (hb); (try clear hb); (try clear hkp); (try clear hy0)) | ((with_reducible refine gate_callee (f := 65) rfl ?_); refine goesL_ (some 69) rfl rfl Try.func65 (by kernel_rfl) rfl #[.slice Ao258 t400.length co258, .int .i64 1] rfl (by (try simp only [List.map_toArray, List.map_cons, List.map_nil]); first | done | (rw [show t400.length = t372.length from (Kd.R_reads' HO_9.out).1.symm] <;> rfl) | rfl | (simp only [List.length_drop, List.length_take]; rfl)) ?_; (with_reducible refine (laws_heldVersionS.calls kj34 _ _ t400 1 t401 _ ?side1 ?side2 A90.out).mono ?_); (case side1 => exact Kd.C_below (Kd.R_reads' HO_9.out).2.2 (BL (Below.refl _ _) rfl rfl rfl rfl)); (case side2 => rw [show t400.length = t372.length from (Kd.R_reads' HO_9.out).1.symm]; exact (Kd.R_reads' HO_9.out).2.1); rintro e w' ⟨rfl, ⟨nd, rfl⟩⟩; refine ⟨_, rfl, ?_⟩))
    (try (rw [drewN_self w132]; generalize hq_ : World.drewN w132 _ = w132; have n0_ : Aside0 (Kd.R k165 165 w132 w.heap.size (fun _ => True) (.slice Ao254 t396.length co254) t396) := ⟨by rw [← hq_]; exact (RT HO_372007.out)⟩; have n1_ : Aside0 (Kd.R k133 133 w132 w.heap.size (fun _ => True) (.slice Ao255 t397.length co255) t397) := ⟨by rw [← hq_]; exact (RT HO_372008.out)⟩; have n2_ : Aside0 (Kd.R k76 76 w132 w.heap.size (fun k_ => some k_ ≠ (.slice Ao258 t372.length co258 : Value).ownBlock) (.slice Ao259 t351.length co259) t351) := ⟨by rw [← hq_]; exact (RT HO_6.out)⟩; have n3_ : Aside0 (Kd.R k76 76 w132 w.heap.size (fun k_ => some k_ ≠ (.slice Ao259 t351.length co259 : Value).ownBlock) (.slice Ao258 t372.length co258) t400) := ⟨by rw [← hq_]; exact (RT HO_9.out)⟩; have n4_ : Aside0 (w132.heap[gb331]? = some (.cells #[.slice A0_0 l0_0.length c0_0] 39 (0, 0))) := ⟨by rw [← hq_]; exact (by (with_reducible repeat (first | refine blk_drewN ?_ _ | refine blk_drew ?_ | refine blk_alloc ?_ _)); exact BK331.out)⟩; have n5_ : Aside0 (w132.heap[gb332]? = some (.cells #[.int .i64 a1_0, .int .i64 a1_1, .int .i64 a1_2, .int .i64 a1_3, .int .i64 a1_4, .int .i64 a1_5, .int .i64 a1_6, .slice A1_7 l1_7.length c1_7, .slice A1_8 l1_8.length c1_8] 60 (0, 0))) := ⟨by rw [← hq_]; exact (by (with_reducible repeat (first | refine blk_drewN ?_ _ | refine blk_drew ?_ | refine blk_alloc ?_ _)); exact BK332.out)⟩; have n6_ : Aside0 (w132.heap[gb371]? = some (.cells #[.int .i64 t358, .int .i64 t359, .int .i64 t360, .int .i64 t361, .int .i64 t362, .int .i64 t363, .int .i64 t364, .slice Ao254 t396.length co254, .slice Ao255 t397.length co255] 68 (0, 0))) := ⟨by rw [← hq_]; exact (by (with_reducible repeat (first | refine blk_drewN ?_ _ | refine blk_drew ?_ | refine blk_alloc ?_ _)); exact BK371.out)⟩; have n7_ : Aside0 (Below w.heap.size w w132) := ⟨by rw [← hq_]; exact (BT HB.out)⟩; clear HO_372007 HO_372008 HO_6 HO_9 BK331 BK332 BK371 HB hq_; have HO_372007 := n0_; have HO_372008 := n1_; have HO_6 := n2_; have HO_9 := n3_; have BK331 := n4_; have BK332 := n5_; have BK371 := n6_; have HB := n7_; clear n0_ n1_ n2_ n3_ n4_ n5_ n6_ n7_))
    replace HO_6 := AM_ (Kd.R_drew HO_6.out)
    replace HO_9 := AM_ (Kd.R_drew HO_9.out)
    replace HO_372007 := AM_ (Kd.R_drew HO_372007.out)
    replace HO_372008 := AM_ (Kd.R_drew HO_372008.out)
    replace BK331 := AM_ (blk_drew BK331.out)
    replace BK332 := AM_ (blk_drew BK332.out)
    replace BK371 := AM_ (blk_drew BK371.out)
    replace HB := AM_ (below_drew1 HB.out)
    refine start_ (n := 6) (S := fun w' => w'.cell? ⟨gb331, 0, none⟩ = some (.slice A0_0 l0_0.length c0_0) ∧ w'.cell? ⟨gb332, 0, none⟩ = some (.int .i64 a1_0) ∧ w'.cell? ⟨gb332, 1, none⟩ = some (.int .i64 a1_1) ∧ w'.cell? ⟨gb332, 2, none⟩ = some (.int .i64 a1_2) ∧ w'.cell? ⟨gb332, 3, none⟩ = some (.int .i64 a1_3) ∧ w'.cell? ⟨gb332, 4, none⟩ = some (.int .i64 a1_4) ∧ w'.cell? ⟨gb332, 5, none⟩ = some (.int .i64 a1_5) ∧ w'.cell? ⟨gb332, 6, none⟩ = some (.int .i64 a1_6) ∧ w'.cell? ⟨gb332, 7, none⟩ = some (.slice A1_7 l1_7.length c1_7) ∧ w'.cell? ⟨gb332, 8, none⟩ = some (.slice A1_8 l1_8.length c1_8)) (ds := []) (bs 0 6) (by kernel_rfl) rfl rfl ⟨bc BK331.out 0, bc BK332.out 0, bc BK332.out 1, bc BK332.out 2, bc BK332.out 3, bc BK332.out 4, bc BK332.out 5, bc BK332.out 6, bc BK332.out 7, bc BK332.out 8⟩ (fun hHeld => ?_)
    generalize w132.drew = w133 at HO_6 HO_9 HO_372007 HO_372008 BK331 BK332 BK371 HB hHeld ⊢
    refine take_ (i := 0) (N := some 75) (v := ?_) (a' := ?_) (bs 1 6) rfl rfl (by kernel_rfl) (fun _ _ _ h => h) (Or.inl ⟨by rfl, ?_⟩) hHeld ?_ ?_
    rotate_left
    ·rintro w' ⟨s0, s1, s2, s3, s4, s5, s6, s7, s8, s9⟩
     go_simp
     with_reducible rfl
    rotate_left
    ·simp only [pA, pS, pZ, pK, i64_w, i32_w]
     rfl
    refine take_ (i := 2) (N := some 77) (v := ?_) (a' := ?_) (bs 5 6) rfl rfl (by kernel_rfl) (fun _ _ _ h => h) (Or.inl ⟨by rfl, ?_⟩) hHeld ?_ ?_
    rotate_left
    ·rintro w' ⟨s0, s1, s2, s3, s4, s5, s6, s7, s8, s9⟩
     go_simp
     with_reducible rfl
    rotate_left
    ·simp only [pA, pS, pZ, pK, i64_w, i32_w]
     rfl
    refine one_ (i := 1) (N := some 76) (bs 7 6) rfl rfl (by kernel_rfl) (by decide) (fun K hK => ?_)
    refine goes_ Try.func35 (by kernel_rfl) rfl #[.agg #[.slice A0_0 l0_0.length c0_0]] (by rfl) rfl rfl (by (try simp only [List.map_toArray, List.map_cons, List.map_nil]); first | done | rfl | (simp only [List.length_drop, List.length_take]; rfl)) ?_
    with_reducible refine (laws_toStore.calls kj34 _ _ l0_0 t402 _ ?side1 ?side2 A94.out).mono ?_
    (case side1 => exact CB HR0_0.out HB.out)
    (case side2 => exact HC0_0.out)
    rintro e w134 ⟨v403, rfl, ho0, hb⟩
    refine ⟨_, rfl, ?_⟩
    replace HO_372007 := AM_ (Kd.R_below (RT HO_372007.out) hb)
    replace HO_372008 := AM_ (Kd.R_below (RT HO_372008.out) hb)
    have HO404 := AM_ (Kd.S_lower (Kd.S_new' (Kd.S_new' ho0 (Kd.R_lt (RT HO_6.out))) (Kd.R_lt (RT HO_9.out))) (below_size (BT HB.out)))
    replace HO_6 := AM_ (Kd.R_below (RT HO_6.out) hb)
    replace HO_9 := AM_ (Kd.R_below (RT HO_9.out) hb)
    replace BK331 := AM_ (BB BK331.out hb)
    replace BK332 := AM_ (BB BK332.out hb)
    replace BK371 := AM_ (BB BK371.out hb)
    replace HB := AM_ (below_step (BT HB.out) hb)
    (try clear hb)
    (try clear hb2)
    (try clear hk)
    (try clear hi)
    (try clear ho0)
    refine hK.out _ _ ⟨bc BK331.out 0, bc BK332.out 0, bc BK332.out 1, bc BK332.out 2, bc BK332.out 3, bc BK332.out 4, bc BK332.out 5, bc BK332.out 6, bc BK332.out 7, bc BK332.out 8⟩ (fun hHeld => ?_)
    clear hK K
    refine norm_ (a' := ?_) ?_ ?_
    rotate_left
    ·show Act.put _ (some 76) _ = _
     simp only [pA, pS, pZ, pK, i64_w, i32_w]
     rfl
    refine one_ (i := 3) (N := some 78) (bs 15 6) rfl rfl (by kernel_rfl) (by decide) (fun K hK => ?_)
    refine goes_ Try.func36 (by kernel_rfl) rfl #[.agg #[.int .i64 a1_0, .int .i64 a1_1, .int .i64 a1_2, .int .i64 a1_3, .int .i64 a1_4, .int .i64 a1_5, .int .i64 a1_6, .slice A1_7 l1_7.length c1_7, .slice A1_8 l1_8.length c1_8]] (by rfl) rfl rfl (by (try simp only [List.map_toArray, List.map_cons, List.map_nil]); first | done | rfl | (simp only [List.length_drop, List.length_take]; rfl)) ?_
    with_reducible refine (laws_toTransaction.calls kj34 a1_0 a1_1 a1_2 a1_3 a1_4 a1_5 a1_6 _ _ l1_7 _ _ l1_8 t405 t406 t407 t408 t409 t410 t411 t412 t415 _ ?side1 ?side2 ?side3 ?side4 A95.out).mono ?_
    (case side1 => exact CB HR1_7.out HB.out)
    (case side2 => exact HC1_7.out)
    (case side3 => exact CB HR1_8.out HB.out)
    (case side4 => exact HC1_8.out)
    rintro e w135 ⟨v413, v416, rfl, ho0, ho1, hb⟩
    refine ⟨_, rfl, ?_⟩
    replace HO_6 := AM_ (Kd.R_below (RT HO_6.out) hb)
    replace HO_9 := AM_ (Kd.R_below (RT HO_9.out) hb)
    replace HO404 := AM_ (Kd.S_below (ST HO404.out) hb)
    have HO414 := AM_ (Kd.R_lower (Kd.R_new' ho0 (Kd.R_lt (RT HO_372007.out))) (below_size (BT HB.out)))
    replace HO_372007 := AM_ (Kd.R_elder' (RT HO_372007.out) (Kd.R_base ho0) hb)
    have HO417 := AM_ (Kd.R_lower (Kd.R_new' ho1 (Kd.R_lt (RT HO_372008.out))) (below_size (BT HB.out)))
    replace HO_372008 := AM_ (Kd.R_elder' (RT HO_372008.out) (Kd.R_base ho1) hb)
    replace BK331 := AM_ (BB BK331.out hb)
    replace BK332 := AM_ (BB BK332.out hb)
    replace BK371 := AM_ (BB BK371.out hb)
    replace HB := AM_ (below_step (BT HB.out) hb)
    (try clear hb)
    (try clear hb2)
    (try clear hk)
    (try clear hi)
    (try clear ho0)
    (try clear ho1)
    obtain ⟨Ao136, co136, eo136⟩ := Kd.S_slice HO404.out
    (first | subst eo136 | (injection eo136 with f1_ f2_ f3_; have f4_ := f1_.symm; have f5_ := f3_.symm; clear f1_ f2_ f3_; subst f4_; subst f5_))
    obtain ⟨Ao137, co137, eo137⟩ := Kd.R_slice HO414.out
    (first | subst eo137 | (injection eo137 with f1_ f2_ f3_; have f4_ := f1_.symm; have f5_ := f3_.symm; clear f1_ f2_ f3_; subst f4_; subst f5_))
    obtain ⟨Ao138, co138, eo138⟩ := Kd.R_slice HO417.out
    (first | subst eo138 | (injection eo138 with f1_ f2_ f3_; have f4_ := f1_.symm; have f5_ := f3_.symm; clear f1_ f2_ f3_; subst f4_; subst f5_))
    refine hK.out _ _ ⟨bc BK331.out 0, bc BK332.out 0, bc BK332.out 1, bc BK332.out 2, bc BK332.out 3, bc BK332.out 4, bc BK332.out 5, bc BK332.out 6, bc BK332.out 7, bc BK332.out 8⟩ (fun hHeld => ?_)
    clear hK K
    refine norm_ (a' := ?_) ?_ ?_
    rotate_left
    ·show Act.put _ (some 78) _ = _
     simp only [pA, pS, pZ, pK, i64_w, i32_w]
     rfl
    refine one_ (i := 4) (N := some 79) (bs 31 6) rfl rfl (by kernel_rfl) (by decide) (fun K hK => ?_)
    refine goes_ Try.func60 (by kernel_rfl) rfl #[.agg #[.slice Ao136 t402.length co136], .agg #[.int .i64 t405, .int .i64 t406, .int .i64 t407, .int .i64 t408, .int .i64 t409, .int .i64 t410, .int .i64 t411, .slice Ao137 t412.length co137, .slice Ao138 t415.length co138]] (by rfl) rfl rfl (by (try simp only [List.map_toArray, List.map_cons, List.map_nil]); first | done | rfl | (simp only [List.length_drop, List.length_take]; rfl)) ?_
    with_reducible refine (impl_InstalledVersions.calls kj34 _ _ t402 t405 t406 t407 t408 t409 t410 t411 _ _ t412 _ _ t415 t418 _ ?side1 ?side2 ?side3 ?side4 ?side5 ?side6 A96.out).mono ?_
    (case side1 => exact Kd.C_below (Kd.S_reads' HO404.out).2.2 (BL (Below.refl _ _) rfl rfl rfl rfl))
    (case side2 => exact (Kd.S_reads' HO404.out).2.1)
    (case side3 => exact Kd.C_below (Kd.R_reads' HO414.out).2.2 (BL (Below.refl _ _) rfl rfl rfl rfl))
    (case side4 => exact (Kd.R_reads' HO414.out).2.1)
    (case side5 => exact Kd.C_below (Kd.R_reads' HO417.out).2.2 (BL (Below.refl _ _) rfl rfl rfl rfl))
    (case side6 => exact (Kd.R_reads' HO417.out).2.1)
    rintro e w139 ⟨v419, rfl, ho0, hb⟩
    refine ⟨_, rfl, ?_⟩
    replace HO_372007 := AM_ (Kd.R_below (RT HO_372007.out) hb)
    replace HO_372008 := AM_ (Kd.R_below (RT HO_372008.out) hb)
    replace HO404 := AM_ (Kd.S_elder' (ST HO404.out) (Kd.R_base ho0) hb)
    replace HO414 := AM_ (Kd.R_below (RT HO414.out) hb)
    replace HO417 := AM_ (Kd.R_below (RT HO417.out) hb)
    have HO420 := AM_ (Kd.R_lower (Kd.R_new' (Kd.R_new' ho0 (Kd.R_lt (RT HO_6.out))) (Kd.R_lt (RT HO_9.out))) (below_size (BT HB.out)))
    replace HO_6 := AM_ (Kd.R_elder' (RT HO_6.out) (Kd.R_base ho0) hb)
    replace HO_9 := AM_ (Kd.R_elder' (RT HO_9.out) (Kd.R_base ho0) hb)
    replace BK331 := AM_ (BB BK331.out hb)
    replace BK332 := AM_ (BB BK332.out hb)
    replace BK371 := AM_ (BB BK371.out hb)
    replace HB := AM_ (below_step (BT HB.out) hb)
    (try clear hb)
    (try clear hb2)
    (try clear hk)
    (try clear hi)
    (try clear ho0)
    refine hK.out _ _ ⟨bc BK331.out 0, bc BK332.out 0, bc BK332.out 1, bc BK332.out 2, bc BK332.out 3, bc BK332.out 4, bc BK332.out 5, bc BK332.out 6, bc BK332.out 7, bc BK332.out 8⟩ (fun hHeld => ?_)
    clear hK K
    refine norm_ (a' := ?_) ?_ ?_
    rotate_left
    ·show Act.put _ (some 79) _ = _
     simp only [pA, pS, pZ, pK, i64_w, i32_w]
     rfl
    refine pure_ (i := 5) (N := some 13) (v := ?_) (a' := ?_) (bs 63 6) rfl rfl (by kernel_rfl) (fun _ _ _ h => h) (Or.inl ⟨by rfl, ?_⟩) ?_ ?_
    rotate_left
    ·intro w'
     go_simp
     with_reducible rfl
    rotate_left
    ·simp only [pA, pS, pZ, pK, i64_w, i32_w]
     rfl
    refine done_ (by kernel_rfl) ?_
    obtain ⟨Ao140, co140, eo140⟩ := Kd.R_slice HO420.out
    subst eo140
    try go_wp2_with (first | ((with_reducible refine gate_callee (f := 61) rfl ?_); refine goesL_ (some 82) rfl rfl Try.func61 (by kernel_rfl) rfl #[.slice Ao140 t418.length co140, .slice Ao259 t351.length co259] rfl (by (try simp only [List.map_toArray, List.map_cons, List.map_nil]); first | done | rfl | (simp only [List.length_drop, List.length_take]; rfl)) ?_; (with_reducible refine (laws_eqVersionS.calls kj34 _ _ t418 _ _ t351 false _ ?side1 ?side2 ?side3 ?side4 A97.out).mono ?_); (case side1 => exact Kd.C_below (Kd.R_reads' HO420.out).2.2 (BL (Below.refl _ _) rfl rfl rfl rfl)); (case side2 => exact (Kd.R_reads' HO420.out).2.1); (case side3 => exact Kd.C_below (Kd.R_reads' HO_6.out).2.2 (BL (Below.refl _ _) rfl rfl rfl rfl)); (case side4 => exact (Kd.R_reads' HO_6.out).2.1); rintro e w141 ⟨rfl, hb⟩; refine ⟨_, rfl, ?_⟩; replace HO_6 := AM_ (Kd.R_below (RT HO_6.out) hb); replace HO_9 := AM_ (Kd.R_below (RT HO_9.out) hb); replace HO_372007 := AM_ (Kd.R_below (RT HO_372007.out) hb); replace HO_372008 := AM_ (Kd.R_below (RT HO_372008.out) hb); replace HO404 := AM_ (Kd.S_below (ST HO404.out) hb); replace HO414 := AM_ (Kd.R_below (RT HO414.out) hb); replace HO417 := AM_ (Kd.R_below (RT HO417.out) hb); replace HO420 := AM_ (Kd.R_below (RT HO420.out) hb); replace BK331 := AM_ (BB BK331.out hb); replace BK332 := AM_ (BB BK332.out hb); replace BK371 := AM_ (BB BK371.out hb); replace HB := AM_ (below_step (BT HB.out) hb); (try clear hb); (try clear hb2); (try clear hk); (try clear hi)))
    go_ret
    exact QT (BT HB.out)
   subst c98
   have H1 : ((laws_heldVersionS.f kj34 t400 1).bind fun t422 => (if t422 < 0 then (some false) else (if t422 = t399 then (some true) else (some false)))) = some r := by rw [if_pos rfl] at H; exact H
   clear H
   have H := H1
   clear H1
   replace H := Option.bind_eq_some_iff.mp H
   obtain ⟨t422, A990, H⟩ := H
   replace H : (if t422 < 0 then (some false) else (if t422 = t399 then (some true) else (some false))) = some r := H
   have A99 := AM_ A990
   clear A990
   by_cases c100 : t422 < 0
   ·rw [if_pos c100] at H
    have c100b0 : decide (t422 < 0) = true := decide_eq_true c100
    clear c100
    obtain rfl := Option.some.inj H
    try go_wp2_with (first | ((with_reducible refine gate_callee (f := 64) rfl ?_); refine goesL_ (some 66) rfl rfl Try.func64 (by kernel_rfl) rfl #[.slice Ao258 t372.length co258, .int .i64 1] rfl (by (try simp only [List.map_toArray, List.map_cons, List.map_nil]); first | done | rfl | (simp only [List.length_drop, List.length_take]; rfl)) ?_; (with_reducible refine (laws_markVersionS.calls kj34 (fun k_ => some k_ = (.slice Ao258 t372.length co258 : Value).ownBlock) (.slice Ao258 t372.length co258) t372 1 t399 t400 w _ ?side1 ?side2 A89.out).mono ?_); (case side1 => repeat (first | (with_reducible first | exact HB.out | apply below_alloc | apply pw_below_drewN | apply below_drew1 | refine below_set ?_ GE331.out | refine below_set ?_ GE332.out | refine below_set ?_ GE371.out) | exact HB.out)); (case side2 => exact Kd.R_tight rfl HO_9.out); rintro e w101 ⟨rfl, hy0, hb, hkp⟩; refine ⟨_, rfl, ?_⟩; replace HO_6 := AM_ (Kd.R_mono (ok' := fun k_ => some k_ ≠ (.slice Ao258 t372.length co258 : Value).ownBlock) (Kd.R_keptB (HO_6.out) hkp (fun k_ hk_ hs_ => (hk_) hs_)) (fun k_ hk_ => hk_.1)); replace HO_372007 := AM_ (Kd.R_mono (ok' := fun k_ => True) (Kd.R_keptB ((Kd.R_apart' HO_372007.out (Kd.R_typed HO_9.out) (by decide))) hkp (fun k_ hk_ hs_ => (hk_.2) hs_)) (fun k_ hk_ => trivial)); replace HO_372008 := AM_ (Kd.R_mono (ok' := fun k_ => True) (Kd.R_keptB ((Kd.R_apart' HO_372008.out (Kd.R_typed HO_9.out) (by decide))) hkp (fun k_ hk_ hs_ => (hk_.2) hs_)) (fun k_ hk_ => trivial)); replace BK331 := AM_ (blk_kept (by (with_reducible repeat (first | refine blk_drewN ?_ _ | refine blk_drew ?_ | refine blk_alloc ?_ _)); exact BK331.out) hkp (fun hs_ => (fun e_ => (Kd.R_ne HO_9.out BK331.out (by decide)) e_) hs_)); replace BK332 := AM_ (blk_kept (by (with_reducible repeat (first | refine blk_drewN ?_ _ | refine blk_drew ?_ | refine blk_alloc ?_ _)); exact BK332.out) hkp (fun hs_ => (fun e_ => (Kd.R_ne HO_9.out BK332.out (by decide)) e_) hs_)); replace BK371 := AM_ (blk_kept (by (with_reducible repeat (first | refine blk_drewN ?_ _ | refine blk_drew ?_ | refine blk_alloc ?_ _)); exact BK371.out) hkp (fun hs_ => (fun e_ => (Kd.R_ne HO_9.out BK371.out (by decide)) e_) hs_)); replace HO_9 := AM_ (Kd.R_reok rfl hy0 (fun k_ e_ => HO_9.out.1 k_ e_)); replace HB := AM_ (hb); (try clear hb); (try clear hkp); (try clear hy0)) | ((with_reducible refine gate_callee (f := 65) rfl ?_); refine goesL_ (some 69) rfl rfl Try.func65 (by kernel_rfl) rfl #[.slice Ao258 t400.length co258, .int .i64 1] rfl (by (try simp only [List.map_toArray, List.map_cons, List.map_nil]); first | done | (rw [show t400.length = t372.length from (Kd.R_reads' HO_9.out).1.symm] <;> rfl) | rfl | (simp only [List.length_drop, List.length_take]; rfl)) ?_; (with_reducible refine (laws_heldVersionS.calls kj34 _ _ t400 1 t401 _ ?side1 ?side2 A90.out).mono ?_); (case side1 => exact Kd.C_below (Kd.R_reads' HO_9.out).2.2 (BL (Below.refl _ _) rfl rfl rfl rfl)); (case side2 => rw [show t400.length = t372.length from (Kd.R_reads' HO_9.out).1.symm]; exact (Kd.R_reads' HO_9.out).2.1); rintro e w' ⟨rfl, ⟨nd, rfl⟩⟩; refine ⟨_, rfl, ?_⟩))
    (try (rw [drewN_self w101]; generalize hq_ : World.drewN w101 _ = w101; have n0_ : Aside0 (Kd.R k165 165 w101 w.heap.size (fun _ => True) (.slice Ao254 t396.length co254) t396) := ⟨by rw [← hq_]; exact (RT HO_372007.out)⟩; have n1_ : Aside0 (Kd.R k133 133 w101 w.heap.size (fun _ => True) (.slice Ao255 t397.length co255) t397) := ⟨by rw [← hq_]; exact (RT HO_372008.out)⟩; have n2_ : Aside0 (Kd.R k76 76 w101 w.heap.size (fun k_ => some k_ ≠ (.slice Ao258 t372.length co258 : Value).ownBlock) (.slice Ao259 t351.length co259) t351) := ⟨by rw [← hq_]; exact (RT HO_6.out)⟩; have n3_ : Aside0 (Kd.R k76 76 w101 w.heap.size (fun k_ => some k_ ≠ (.slice Ao259 t351.length co259 : Value).ownBlock) (.slice Ao258 t372.length co258) t400) := ⟨by rw [← hq_]; exact (RT HO_9.out)⟩; have n4_ : Aside0 (w101.heap[gb331]? = some (.cells #[.slice A0_0 l0_0.length c0_0] 39 (0, 0))) := ⟨by rw [← hq_]; exact (by (with_reducible repeat (first | refine blk_drewN ?_ _ | refine blk_drew ?_ | refine blk_alloc ?_ _)); exact BK331.out)⟩; have n5_ : Aside0 (w101.heap[gb332]? = some (.cells #[.int .i64 a1_0, .int .i64 a1_1, .int .i64 a1_2, .int .i64 a1_3, .int .i64 a1_4, .int .i64 a1_5, .int .i64 a1_6, .slice A1_7 l1_7.length c1_7, .slice A1_8 l1_8.length c1_8] 60 (0, 0))) := ⟨by rw [← hq_]; exact (by (with_reducible repeat (first | refine blk_drewN ?_ _ | refine blk_drew ?_ | refine blk_alloc ?_ _)); exact BK332.out)⟩; have n6_ : Aside0 (w101.heap[gb371]? = some (.cells #[.int .i64 t358, .int .i64 t359, .int .i64 t360, .int .i64 t361, .int .i64 t362, .int .i64 t363, .int .i64 t364, .slice Ao254 t396.length co254, .slice Ao255 t397.length co255] 68 (0, 0))) := ⟨by rw [← hq_]; exact (by (with_reducible repeat (first | refine blk_drewN ?_ _ | refine blk_drew ?_ | refine blk_alloc ?_ _)); exact BK371.out)⟩; have n7_ : Aside0 (Below w.heap.size w w101) := ⟨by rw [← hq_]; exact (BT HB.out)⟩; clear HO_372007 HO_372008 HO_6 HO_9 BK331 BK332 BK371 HB hq_; have HO_372007 := n0_; have HO_372008 := n1_; have HO_6 := n2_; have HO_9 := n3_; have BK331 := n4_; have BK332 := n5_; have BK371 := n6_; have HB := n7_; clear n0_ n1_ n2_ n3_ n4_ n5_ n6_ n7_))
    replace HO_6 := AM_ (Kd.R_drew HO_6.out)
    replace HO_9 := AM_ (Kd.R_drew HO_9.out)
    replace HO_372007 := AM_ (Kd.R_drew HO_372007.out)
    replace HO_372008 := AM_ (Kd.R_drew HO_372008.out)
    replace BK331 := AM_ (blk_drew BK331.out)
    replace BK332 := AM_ (blk_drew BK332.out)
    replace BK371 := AM_ (blk_drew BK371.out)
    replace HB := AM_ (below_drew1 HB.out)
    refine start_ (n := 6) (S := fun w' => w'.cell? ⟨gb331, 0, none⟩ = some (.slice A0_0 l0_0.length c0_0) ∧ w'.cell? ⟨gb332, 0, none⟩ = some (.int .i64 a1_0) ∧ w'.cell? ⟨gb332, 1, none⟩ = some (.int .i64 a1_1) ∧ w'.cell? ⟨gb332, 2, none⟩ = some (.int .i64 a1_2) ∧ w'.cell? ⟨gb332, 3, none⟩ = some (.int .i64 a1_3) ∧ w'.cell? ⟨gb332, 4, none⟩ = some (.int .i64 a1_4) ∧ w'.cell? ⟨gb332, 5, none⟩ = some (.int .i64 a1_5) ∧ w'.cell? ⟨gb332, 6, none⟩ = some (.int .i64 a1_6) ∧ w'.cell? ⟨gb332, 7, none⟩ = some (.slice A1_7 l1_7.length c1_7) ∧ w'.cell? ⟨gb332, 8, none⟩ = some (.slice A1_8 l1_8.length c1_8)) (ds := []) (bs 0 6) (by kernel_rfl) rfl rfl ⟨bc BK331.out 0, bc BK332.out 0, bc BK332.out 1, bc BK332.out 2, bc BK332.out 3, bc BK332.out 4, bc BK332.out 5, bc BK332.out 6, bc BK332.out 7, bc BK332.out 8⟩ (fun hHeld => ?_)
    generalize w101.drew = w102 at HO_6 HO_9 HO_372007 HO_372008 BK331 BK332 BK371 HB hHeld ⊢
    refine take_ (i := 0) (N := some 75) (v := ?_) (a' := ?_) (bs 1 6) rfl rfl (by kernel_rfl) (fun _ _ _ h => h) (Or.inl ⟨by rfl, ?_⟩) hHeld ?_ ?_
    rotate_left
    ·rintro w' ⟨s0, s1, s2, s3, s4, s5, s6, s7, s8, s9⟩
     go_simp
     with_reducible rfl
    rotate_left
    ·simp only [pA, pS, pZ, pK, i64_w, i32_w]
     rfl
    refine take_ (i := 2) (N := some 77) (v := ?_) (a' := ?_) (bs 5 6) rfl rfl (by kernel_rfl) (fun _ _ _ h => h) (Or.inl ⟨by rfl, ?_⟩) hHeld ?_ ?_
    rotate_left
    ·rintro w' ⟨s0, s1, s2, s3, s4, s5, s6, s7, s8, s9⟩
     go_simp
     with_reducible rfl
    rotate_left
    ·simp only [pA, pS, pZ, pK, i64_w, i32_w]
     rfl
    refine one_ (i := 1) (N := some 76) (bs 7 6) rfl rfl (by kernel_rfl) (by decide) (fun K hK => ?_)
    refine goes_ Try.func35 (by kernel_rfl) rfl #[.agg #[.slice A0_0 l0_0.length c0_0]] (by rfl) rfl rfl (by (try simp only [List.map_toArray, List.map_cons, List.map_nil]); first | done | rfl | (simp only [List.length_drop, List.length_take]; rfl)) ?_
    with_reducible refine (laws_toStore.calls kj34 _ _ l0_0 t402 _ ?side1 ?side2 A94.out).mono ?_
    (case side1 => exact CB HR0_0.out HB.out)
    (case side2 => exact HC0_0.out)
    rintro e w103 ⟨v403, rfl, ho0, hb⟩
    refine ⟨_, rfl, ?_⟩
    replace HO_372007 := AM_ (Kd.R_below (RT HO_372007.out) hb)
    replace HO_372008 := AM_ (Kd.R_below (RT HO_372008.out) hb)
    have HO404 := AM_ (Kd.S_lower (Kd.S_new' (Kd.S_new' ho0 (Kd.R_lt (RT HO_6.out))) (Kd.R_lt (RT HO_9.out))) (below_size (BT HB.out)))
    replace HO_6 := AM_ (Kd.R_below (RT HO_6.out) hb)
    replace HO_9 := AM_ (Kd.R_below (RT HO_9.out) hb)
    replace BK331 := AM_ (BB BK331.out hb)
    replace BK332 := AM_ (BB BK332.out hb)
    replace BK371 := AM_ (BB BK371.out hb)
    replace HB := AM_ (below_step (BT HB.out) hb)
    (try clear hb)
    (try clear hb2)
    (try clear hk)
    (try clear hi)
    (try clear ho0)
    refine hK.out _ _ ⟨bc BK331.out 0, bc BK332.out 0, bc BK332.out 1, bc BK332.out 2, bc BK332.out 3, bc BK332.out 4, bc BK332.out 5, bc BK332.out 6, bc BK332.out 7, bc BK332.out 8⟩ (fun hHeld => ?_)
    clear hK K
    refine norm_ (a' := ?_) ?_ ?_
    rotate_left
    ·show Act.put _ (some 76) _ = _
     simp only [pA, pS, pZ, pK, i64_w, i32_w]
     rfl
    refine one_ (i := 3) (N := some 78) (bs 15 6) rfl rfl (by kernel_rfl) (by decide) (fun K hK => ?_)
    refine goes_ Try.func36 (by kernel_rfl) rfl #[.agg #[.int .i64 a1_0, .int .i64 a1_1, .int .i64 a1_2, .int .i64 a1_3, .int .i64 a1_4, .int .i64 a1_5, .int .i64 a1_6, .slice A1_7 l1_7.length c1_7, .slice A1_8 l1_8.length c1_8]] (by rfl) rfl rfl (by (try simp only [List.map_toArray, List.map_cons, List.map_nil]); first | done | rfl | (simp only [List.length_drop, List.length_take]; rfl)) ?_
    with_reducible refine (laws_toTransaction.calls kj34 a1_0 a1_1 a1_2 a1_3 a1_4 a1_5 a1_6 _ _ l1_7 _ _ l1_8 t405 t406 t407 t408 t409 t410 t411 t412 t415 _ ?side1 ?side2 ?side3 ?side4 A95.out).mono ?_
    (case side1 => exact CB HR1_7.out HB.out)
    (case side2 => exact HC1_7.out)
    (case side3 => exact CB HR1_8.out HB.out)
    (case side4 => exact HC1_8.out)
    rintro e w104 ⟨v413, v416, rfl, ho0, ho1, hb⟩
    refine ⟨_, rfl, ?_⟩
    replace HO_6 := AM_ (Kd.R_below (RT HO_6.out) hb)
    replace HO_9 := AM_ (Kd.R_below (RT HO_9.out) hb)
    replace HO404 := AM_ (Kd.S_below (ST HO404.out) hb)
    have HO414 := AM_ (Kd.R_lower (Kd.R_new' ho0 (Kd.R_lt (RT HO_372007.out))) (below_size (BT HB.out)))
    replace HO_372007 := AM_ (Kd.R_elder' (RT HO_372007.out) (Kd.R_base ho0) hb)
    have HO417 := AM_ (Kd.R_lower (Kd.R_new' ho1 (Kd.R_lt (RT HO_372008.out))) (below_size (BT HB.out)))
    replace HO_372008 := AM_ (Kd.R_elder' (RT HO_372008.out) (Kd.R_base ho1) hb)
    replace BK331 := AM_ (BB BK331.out hb)
    replace BK332 := AM_ (BB BK332.out hb)
    replace BK371 := AM_ (BB BK371.out hb)
    replace HB := AM_ (below_step (BT HB.out) hb)
    (try clear hb)
    (try clear hb2)
    (try clear hk)
    (try clear hi)
    (try clear ho0)
    (try clear ho1)
    obtain ⟨Ao105, co105, eo105⟩ := Kd.S_slice HO404.out
    (first | subst eo105 | (injection eo105 with f1_ f2_ f3_; have f4_ := f1_.symm; have f5_ := f3_.symm; clear f1_ f2_ f3_; subst f4_; subst f5_))
    obtain ⟨Ao106, co106, eo106⟩ := Kd.R_slice HO414.out
    (first | subst eo106 | (injection eo106 with f1_ f2_ f3_; have f4_ := f1_.symm; have f5_ := f3_.symm; clear f1_ f2_ f3_; subst f4_; subst f5_))
    obtain ⟨Ao107, co107, eo107⟩ := Kd.R_slice HO417.out
    (first | subst eo107 | (injection eo107 with f1_ f2_ f3_; have f4_ := f1_.symm; have f5_ := f3_.symm; clear f1_ f2_ f3_; subst f4_; subst f5_))
    refine hK.out _ _ ⟨bc BK331.out 0, bc BK332.out 0, bc BK332.out 1, bc BK332.out 2, bc BK332.out 3, bc BK332.out 4, bc BK332.out 5, bc BK332.out 6, bc BK332.out 7, bc BK332.out 8⟩ (fun hHeld => ?_)
    clear hK K
    refine norm_ (a' := ?_) ?_ ?_
    rotate_left
    ·show Act.put _ (some 78) _ = _
     simp only [pA, pS, pZ, pK, i64_w, i32_w]
     rfl
    refine one_ (i := 4) (N := some 79) (bs 31 6) rfl rfl (by kernel_rfl) (by decide) (fun K hK => ?_)
    refine goes_ Try.func60 (by kernel_rfl) rfl #[.agg #[.slice Ao105 t402.length co105], .agg #[.int .i64 t405, .int .i64 t406, .int .i64 t407, .int .i64 t408, .int .i64 t409, .int .i64 t410, .int .i64 t411, .slice Ao106 t412.length co106, .slice Ao107 t415.length co107]] (by rfl) rfl rfl (by (try simp only [List.map_toArray, List.map_cons, List.map_nil]); first | done | rfl | (simp only [List.length_drop, List.length_take]; rfl)) ?_
    with_reducible refine (impl_InstalledVersions.calls kj34 _ _ t402 t405 t406 t407 t408 t409 t410 t411 _ _ t412 _ _ t415 t418 _ ?side1 ?side2 ?side3 ?side4 ?side5 ?side6 A96.out).mono ?_
    (case side1 => exact Kd.C_below (Kd.S_reads' HO404.out).2.2 (BL (Below.refl _ _) rfl rfl rfl rfl))
    (case side2 => exact (Kd.S_reads' HO404.out).2.1)
    (case side3 => exact Kd.C_below (Kd.R_reads' HO414.out).2.2 (BL (Below.refl _ _) rfl rfl rfl rfl))
    (case side4 => exact (Kd.R_reads' HO414.out).2.1)
    (case side5 => exact Kd.C_below (Kd.R_reads' HO417.out).2.2 (BL (Below.refl _ _) rfl rfl rfl rfl))
    (case side6 => exact (Kd.R_reads' HO417.out).2.1)
    rintro e w108 ⟨v419, rfl, ho0, hb⟩
    refine ⟨_, rfl, ?_⟩
    replace HO_372007 := AM_ (Kd.R_below (RT HO_372007.out) hb)
    replace HO_372008 := AM_ (Kd.R_below (RT HO_372008.out) hb)
    replace HO404 := AM_ (Kd.S_elder' (ST HO404.out) (Kd.R_base ho0) hb)
    replace HO414 := AM_ (Kd.R_below (RT HO414.out) hb)
    replace HO417 := AM_ (Kd.R_below (RT HO417.out) hb)
    have HO420 := AM_ (Kd.R_lower (Kd.R_new' (Kd.R_new' ho0 (Kd.R_lt (RT HO_6.out))) (Kd.R_lt (RT HO_9.out))) (below_size (BT HB.out)))
    replace HO_6 := AM_ (Kd.R_elder' (RT HO_6.out) (Kd.R_base ho0) hb)
    replace HO_9 := AM_ (Kd.R_elder' (RT HO_9.out) (Kd.R_base ho0) hb)
    replace BK331 := AM_ (BB BK331.out hb)
    replace BK332 := AM_ (BB BK332.out hb)
    replace BK371 := AM_ (BB BK371.out hb)
    replace HB := AM_ (below_step (BT HB.out) hb)
    (try clear hb)
    (try clear hb2)
    (try clear hk)
    (try clear hi)
    (try clear ho0)
    refine hK.out _ _ ⟨bc BK331.out 0, bc BK332.out 0, bc BK332.out 1, bc BK332.out 2, bc BK332.out 3, bc BK332.out 4, bc BK332.out 5, bc BK332.out 6, bc BK332.out 7, bc BK332.out 8⟩ (fun hHeld => ?_)
    clear hK K
    refine norm_ (a' := ?_) ?_ ?_
    rotate_left
    ·show Act.put _ (some 79) _ = _
     simp only [pA, pS, pZ, pK, i64_w, i32_w]
     rfl
    refine pure_ (i := 5) (N := some 13) (v := ?_) (a' := ?_) (bs 63 6) rfl rfl (by kernel_rfl) (fun _ _ _ h => h) (Or.inl ⟨by rfl, ?_⟩) ?_ ?_
    rotate_left
    ·intro w'
     go_simp
     with_reducible rfl
    rotate_left
    ·simp only [pA, pS, pZ, pK, i64_w, i32_w]
     rfl
    refine done_ (by kernel_rfl) ?_
    obtain ⟨Ao109, co109, eo109⟩ := Kd.R_slice HO420.out
    subst eo109
    try go_wp2_with (first | ((with_reducible refine gate_callee (f := 61) rfl ?_); refine goesL_ (some 82) rfl rfl Try.func61 (by kernel_rfl) rfl #[.slice Ao109 t418.length co109, .slice Ao259 t351.length co259] rfl (by (try simp only [List.map_toArray, List.map_cons, List.map_nil]); first | done | rfl | (simp only [List.length_drop, List.length_take]; rfl)) ?_; (with_reducible refine (laws_eqVersionS.calls kj34 _ _ t418 _ _ t351 true _ ?side1 ?side2 ?side3 ?side4 A97.out).mono ?_); (case side1 => exact Kd.C_below (Kd.R_reads' HO420.out).2.2 (BL (Below.refl _ _) rfl rfl rfl rfl)); (case side2 => exact (Kd.R_reads' HO420.out).2.1); (case side3 => exact Kd.C_below (Kd.R_reads' HO_6.out).2.2 (BL (Below.refl _ _) rfl rfl rfl rfl)); (case side4 => exact (Kd.R_reads' HO_6.out).2.1); rintro e w110 ⟨rfl, hb⟩; refine ⟨_, rfl, ?_⟩; replace HO_6 := AM_ (Kd.R_below (RT HO_6.out) hb); replace HO_9 := AM_ (Kd.R_below (RT HO_9.out) hb); replace HO_372007 := AM_ (Kd.R_below (RT HO_372007.out) hb); replace HO_372008 := AM_ (Kd.R_below (RT HO_372008.out) hb); replace HO404 := AM_ (Kd.S_below (ST HO404.out) hb); replace HO414 := AM_ (Kd.R_below (RT HO414.out) hb); replace HO417 := AM_ (Kd.R_below (RT HO417.out) hb); replace HO420 := AM_ (Kd.R_below (RT HO420.out) hb); replace BK331 := AM_ (BB BK331.out hb); replace BK332 := AM_ (BB BK332.out hb); replace BK371 := AM_ (BB BK371.out hb); replace HB := AM_ (below_step (BT HB.out) hb); (try clear hb); (try clear hb2); (try clear hk); (try clear hi)) | ((with_reducible refine gate_callee (f := 65) rfl ?_); refine goesL_ (some 86) rfl rfl Try.func65 (by kernel_rfl) rfl #[.slice Ao258 t400.length co258, .int .i64 1] rfl (by (try simp only [List.map_toArray, List.map_cons, List.map_nil]); first | done | (rw [show t400.length = t372.length from (Kd.R_reads' HO_9.out).1.symm] <;> rfl) | rfl | (simp only [List.length_drop, List.length_take]; rfl)) ?_; (with_reducible refine (laws_heldVersionS.calls kj34 _ _ t400 1 t422 _ ?side1 ?side2 A99.out).mono ?_); (case side1 => exact Kd.C_below (Kd.R_reads' HO_9.out).2.2 (BL (Below.refl _ _) rfl rfl rfl rfl)); (case side2 => rw [show t400.length = t372.length from (Kd.R_reads' HO_9.out).1.symm]; exact (Kd.R_reads' HO_9.out).2.1); rintro e w' ⟨rfl, ⟨nd, rfl⟩⟩; refine ⟨_, rfl, ?_⟩))
    go_ret
    exact QT (BT HB.out)
   rw [if_neg c100] at H
   have c100b0 : decide (t422 < 0) = false := decide_eq_false c100
   clear c100
   by_cases c111 : t422 = t399
   rotate_left
   ·rw [if_neg c111] at H
    have c111b0 : (t422 == t399) = false := beq_eq_false_iff_ne.mpr c111
    have c111b1 : (t422 != t399) = true := bne_iff_ne.mpr c111
    obtain rfl := Option.some.inj H
    try go_wp2_with (first | ((with_reducible refine gate_callee (f := 64) rfl ?_); refine goesL_ (some 66) rfl rfl Try.func64 (by kernel_rfl) rfl #[.slice Ao258 t372.length co258, .int .i64 1] rfl (by (try simp only [List.map_toArray, List.map_cons, List.map_nil]); first | done | rfl | (simp only [List.length_drop, List.length_take]; rfl)) ?_; (with_reducible refine (laws_markVersionS.calls kj34 (fun k_ => some k_ = (.slice Ao258 t372.length co258 : Value).ownBlock) (.slice Ao258 t372.length co258) t372 1 t399 t400 w _ ?side1 ?side2 A89.out).mono ?_); (case side1 => repeat (first | (with_reducible first | exact HB.out | apply below_alloc | apply pw_below_drewN | apply below_drew1 | refine below_set ?_ GE331.out | refine below_set ?_ GE332.out | refine below_set ?_ GE371.out) | exact HB.out)); (case side2 => exact Kd.R_tight rfl HO_9.out); rintro e w122 ⟨rfl, hy0, hb, hkp⟩; refine ⟨_, rfl, ?_⟩; replace HO_6 := AM_ (Kd.R_mono (ok' := fun k_ => some k_ ≠ (.slice Ao258 t372.length co258 : Value).ownBlock) (Kd.R_keptB (HO_6.out) hkp (fun k_ hk_ hs_ => (hk_) hs_)) (fun k_ hk_ => hk_.1)); replace HO_372007 := AM_ (Kd.R_mono (ok' := fun k_ => True) (Kd.R_keptB ((Kd.R_apart' HO_372007.out (Kd.R_typed HO_9.out) (by decide))) hkp (fun k_ hk_ hs_ => (hk_.2) hs_)) (fun k_ hk_ => trivial)); replace HO_372008 := AM_ (Kd.R_mono (ok' := fun k_ => True) (Kd.R_keptB ((Kd.R_apart' HO_372008.out (Kd.R_typed HO_9.out) (by decide))) hkp (fun k_ hk_ hs_ => (hk_.2) hs_)) (fun k_ hk_ => trivial)); replace BK331 := AM_ (blk_kept (by (with_reducible repeat (first | refine blk_drewN ?_ _ | refine blk_drew ?_ | refine blk_alloc ?_ _)); exact BK331.out) hkp (fun hs_ => (fun e_ => (Kd.R_ne HO_9.out BK331.out (by decide)) e_) hs_)); replace BK332 := AM_ (blk_kept (by (with_reducible repeat (first | refine blk_drewN ?_ _ | refine blk_drew ?_ | refine blk_alloc ?_ _)); exact BK332.out) hkp (fun hs_ => (fun e_ => (Kd.R_ne HO_9.out BK332.out (by decide)) e_) hs_)); replace BK371 := AM_ (blk_kept (by (with_reducible repeat (first | refine blk_drewN ?_ _ | refine blk_drew ?_ | refine blk_alloc ?_ _)); exact BK371.out) hkp (fun hs_ => (fun e_ => (Kd.R_ne HO_9.out BK371.out (by decide)) e_) hs_)); replace HO_9 := AM_ (Kd.R_reok rfl hy0 (fun k_ e_ => HO_9.out.1 k_ e_)); replace HB := AM_ (hb); (try clear hb); (try clear hkp); (try clear hy0)) | ((with_reducible refine gate_callee (f := 65) rfl ?_); refine goesL_ (some 69) rfl rfl Try.func65 (by kernel_rfl) rfl #[.slice Ao258 t400.length co258, .int .i64 1] rfl (by (try simp only [List.map_toArray, List.map_cons, List.map_nil]); first | done | (rw [show t400.length = t372.length from (Kd.R_reads' HO_9.out).1.symm] <;> rfl) | rfl | (simp only [List.length_drop, List.length_take]; rfl)) ?_; (with_reducible refine (laws_heldVersionS.calls kj34 _ _ t400 1 t401 _ ?side1 ?side2 A90.out).mono ?_); (case side1 => exact Kd.C_below (Kd.R_reads' HO_9.out).2.2 (BL (Below.refl _ _) rfl rfl rfl rfl)); (case side2 => rw [show t400.length = t372.length from (Kd.R_reads' HO_9.out).1.symm]; exact (Kd.R_reads' HO_9.out).2.1); rintro e w' ⟨rfl, ⟨nd, rfl⟩⟩; refine ⟨_, rfl, ?_⟩))
    (try (rw [drewN_self w122]; generalize hq_ : World.drewN w122 _ = w122; have n0_ : Aside0 (Kd.R k165 165 w122 w.heap.size (fun _ => True) (.slice Ao254 t396.length co254) t396) := ⟨by rw [← hq_]; exact (RT HO_372007.out)⟩; have n1_ : Aside0 (Kd.R k133 133 w122 w.heap.size (fun _ => True) (.slice Ao255 t397.length co255) t397) := ⟨by rw [← hq_]; exact (RT HO_372008.out)⟩; have n2_ : Aside0 (Kd.R k76 76 w122 w.heap.size (fun k_ => some k_ ≠ (.slice Ao258 t372.length co258 : Value).ownBlock) (.slice Ao259 t351.length co259) t351) := ⟨by rw [← hq_]; exact (RT HO_6.out)⟩; have n3_ : Aside0 (Kd.R k76 76 w122 w.heap.size (fun k_ => some k_ ≠ (.slice Ao259 t351.length co259 : Value).ownBlock) (.slice Ao258 t372.length co258) t400) := ⟨by rw [← hq_]; exact (RT HO_9.out)⟩; have n4_ : Aside0 (w122.heap[gb331]? = some (.cells #[.slice A0_0 l0_0.length c0_0] 39 (0, 0))) := ⟨by rw [← hq_]; exact (by (with_reducible repeat (first | refine blk_drewN ?_ _ | refine blk_drew ?_ | refine blk_alloc ?_ _)); exact BK331.out)⟩; have n5_ : Aside0 (w122.heap[gb332]? = some (.cells #[.int .i64 a1_0, .int .i64 a1_1, .int .i64 a1_2, .int .i64 a1_3, .int .i64 a1_4, .int .i64 a1_5, .int .i64 a1_6, .slice A1_7 l1_7.length c1_7, .slice A1_8 l1_8.length c1_8] 60 (0, 0))) := ⟨by rw [← hq_]; exact (by (with_reducible repeat (first | refine blk_drewN ?_ _ | refine blk_drew ?_ | refine blk_alloc ?_ _)); exact BK332.out)⟩; have n6_ : Aside0 (w122.heap[gb371]? = some (.cells #[.int .i64 t358, .int .i64 t359, .int .i64 t360, .int .i64 t361, .int .i64 t362, .int .i64 t363, .int .i64 t364, .slice Ao254 t396.length co254, .slice Ao255 t397.length co255] 68 (0, 0))) := ⟨by rw [← hq_]; exact (by (with_reducible repeat (first | refine blk_drewN ?_ _ | refine blk_drew ?_ | refine blk_alloc ?_ _)); exact BK371.out)⟩; have n7_ : Aside0 (Below w.heap.size w w122) := ⟨by rw [← hq_]; exact (BT HB.out)⟩; clear HO_372007 HO_372008 HO_6 HO_9 BK331 BK332 BK371 HB hq_; have HO_372007 := n0_; have HO_372008 := n1_; have HO_6 := n2_; have HO_9 := n3_; have BK331 := n4_; have BK332 := n5_; have BK371 := n6_; have HB := n7_; clear n0_ n1_ n2_ n3_ n4_ n5_ n6_ n7_))
    replace HO_6 := AM_ (Kd.R_drew HO_6.out)
    replace HO_9 := AM_ (Kd.R_drew HO_9.out)
    replace HO_372007 := AM_ (Kd.R_drew HO_372007.out)
    replace HO_372008 := AM_ (Kd.R_drew HO_372008.out)
    replace BK331 := AM_ (blk_drew BK331.out)
    replace BK332 := AM_ (blk_drew BK332.out)
    replace BK371 := AM_ (blk_drew BK371.out)
    replace HB := AM_ (below_drew1 HB.out)
    refine start_ (n := 6) (S := fun w' => w'.cell? ⟨gb331, 0, none⟩ = some (.slice A0_0 l0_0.length c0_0) ∧ w'.cell? ⟨gb332, 0, none⟩ = some (.int .i64 a1_0) ∧ w'.cell? ⟨gb332, 1, none⟩ = some (.int .i64 a1_1) ∧ w'.cell? ⟨gb332, 2, none⟩ = some (.int .i64 a1_2) ∧ w'.cell? ⟨gb332, 3, none⟩ = some (.int .i64 a1_3) ∧ w'.cell? ⟨gb332, 4, none⟩ = some (.int .i64 a1_4) ∧ w'.cell? ⟨gb332, 5, none⟩ = some (.int .i64 a1_5) ∧ w'.cell? ⟨gb332, 6, none⟩ = some (.int .i64 a1_6) ∧ w'.cell? ⟨gb332, 7, none⟩ = some (.slice A1_7 l1_7.length c1_7) ∧ w'.cell? ⟨gb332, 8, none⟩ = some (.slice A1_8 l1_8.length c1_8)) (ds := []) (bs 0 6) (by kernel_rfl) rfl rfl ⟨bc BK331.out 0, bc BK332.out 0, bc BK332.out 1, bc BK332.out 2, bc BK332.out 3, bc BK332.out 4, bc BK332.out 5, bc BK332.out 6, bc BK332.out 7, bc BK332.out 8⟩ (fun hHeld => ?_)
    generalize w122.drew = w123 at HO_6 HO_9 HO_372007 HO_372008 BK331 BK332 BK371 HB hHeld ⊢
    refine take_ (i := 0) (N := some 75) (v := ?_) (a' := ?_) (bs 1 6) rfl rfl (by kernel_rfl) (fun _ _ _ h => h) (Or.inl ⟨by rfl, ?_⟩) hHeld ?_ ?_
    rotate_left
    ·rintro w' ⟨s0, s1, s2, s3, s4, s5, s6, s7, s8, s9⟩
     go_simp
     with_reducible rfl
    rotate_left
    ·simp only [pA, pS, pZ, pK, i64_w, i32_w]
     rfl
    refine take_ (i := 2) (N := some 77) (v := ?_) (a' := ?_) (bs 5 6) rfl rfl (by kernel_rfl) (fun _ _ _ h => h) (Or.inl ⟨by rfl, ?_⟩) hHeld ?_ ?_
    rotate_left
    ·rintro w' ⟨s0, s1, s2, s3, s4, s5, s6, s7, s8, s9⟩
     go_simp
     with_reducible rfl
    rotate_left
    ·simp only [pA, pS, pZ, pK, i64_w, i32_w]
     rfl
    refine one_ (i := 1) (N := some 76) (bs 7 6) rfl rfl (by kernel_rfl) (by decide) (fun K hK => ?_)
    refine goes_ Try.func35 (by kernel_rfl) rfl #[.agg #[.slice A0_0 l0_0.length c0_0]] (by rfl) rfl rfl (by (try simp only [List.map_toArray, List.map_cons, List.map_nil]); first | done | rfl | (simp only [List.length_drop, List.length_take]; rfl)) ?_
    with_reducible refine (laws_toStore.calls kj34 _ _ l0_0 t402 _ ?side1 ?side2 A94.out).mono ?_
    (case side1 => exact CB HR0_0.out HB.out)
    (case side2 => exact HC0_0.out)
    rintro e w124 ⟨v403, rfl, ho0, hb⟩
    refine ⟨_, rfl, ?_⟩
    replace HO_372007 := AM_ (Kd.R_below (RT HO_372007.out) hb)
    replace HO_372008 := AM_ (Kd.R_below (RT HO_372008.out) hb)
    have HO404 := AM_ (Kd.S_lower (Kd.S_new' (Kd.S_new' ho0 (Kd.R_lt (RT HO_6.out))) (Kd.R_lt (RT HO_9.out))) (below_size (BT HB.out)))
    replace HO_6 := AM_ (Kd.R_below (RT HO_6.out) hb)
    replace HO_9 := AM_ (Kd.R_below (RT HO_9.out) hb)
    replace BK331 := AM_ (BB BK331.out hb)
    replace BK332 := AM_ (BB BK332.out hb)
    replace BK371 := AM_ (BB BK371.out hb)
    replace HB := AM_ (below_step (BT HB.out) hb)
    (try clear hb)
    (try clear hb2)
    (try clear hk)
    (try clear hi)
    (try clear ho0)
    refine hK.out _ _ ⟨bc BK331.out 0, bc BK332.out 0, bc BK332.out 1, bc BK332.out 2, bc BK332.out 3, bc BK332.out 4, bc BK332.out 5, bc BK332.out 6, bc BK332.out 7, bc BK332.out 8⟩ (fun hHeld => ?_)
    clear hK K
    refine norm_ (a' := ?_) ?_ ?_
    rotate_left
    ·show Act.put _ (some 76) _ = _
     simp only [pA, pS, pZ, pK, i64_w, i32_w]
     rfl
    refine one_ (i := 3) (N := some 78) (bs 15 6) rfl rfl (by kernel_rfl) (by decide) (fun K hK => ?_)
    refine goes_ Try.func36 (by kernel_rfl) rfl #[.agg #[.int .i64 a1_0, .int .i64 a1_1, .int .i64 a1_2, .int .i64 a1_3, .int .i64 a1_4, .int .i64 a1_5, .int .i64 a1_6, .slice A1_7 l1_7.length c1_7, .slice A1_8 l1_8.length c1_8]] (by rfl) rfl rfl (by (try simp only [List.map_toArray, List.map_cons, List.map_nil]); first | done | rfl | (simp only [List.length_drop, List.length_take]; rfl)) ?_
    with_reducible refine (laws_toTransaction.calls kj34 a1_0 a1_1 a1_2 a1_3 a1_4 a1_5 a1_6 _ _ l1_7 _ _ l1_8 t405 t406 t407 t408 t409 t410 t411 t412 t415 _ ?side1 ?side2 ?side3 ?side4 A95.out).mono ?_
    (case side1 => exact CB HR1_7.out HB.out)
    (case side2 => exact HC1_7.out)
    (case side3 => exact CB HR1_8.out HB.out)
    (case side4 => exact HC1_8.out)
    rintro e w125 ⟨v413, v416, rfl, ho0, ho1, hb⟩
    refine ⟨_, rfl, ?_⟩
    replace HO_6 := AM_ (Kd.R_below (RT HO_6.out) hb)
    replace HO_9 := AM_ (Kd.R_below (RT HO_9.out) hb)
    replace HO404 := AM_ (Kd.S_below (ST HO404.out) hb)
    have HO414 := AM_ (Kd.R_lower (Kd.R_new' ho0 (Kd.R_lt (RT HO_372007.out))) (below_size (BT HB.out)))
    replace HO_372007 := AM_ (Kd.R_elder' (RT HO_372007.out) (Kd.R_base ho0) hb)
    have HO417 := AM_ (Kd.R_lower (Kd.R_new' ho1 (Kd.R_lt (RT HO_372008.out))) (below_size (BT HB.out)))
    replace HO_372008 := AM_ (Kd.R_elder' (RT HO_372008.out) (Kd.R_base ho1) hb)
    replace BK331 := AM_ (BB BK331.out hb)
    replace BK332 := AM_ (BB BK332.out hb)
    replace BK371 := AM_ (BB BK371.out hb)
    replace HB := AM_ (below_step (BT HB.out) hb)
    (try clear hb)
    (try clear hb2)
    (try clear hk)
    (try clear hi)
    (try clear ho0)
    (try clear ho1)
    obtain ⟨Ao126, co126, eo126⟩ := Kd.S_slice HO404.out
    (first | subst eo126 | (injection eo126 with f1_ f2_ f3_; have f4_ := f1_.symm; have f5_ := f3_.symm; clear f1_ f2_ f3_; subst f4_; subst f5_))
    obtain ⟨Ao127, co127, eo127⟩ := Kd.R_slice HO414.out
    (first | subst eo127 | (injection eo127 with f1_ f2_ f3_; have f4_ := f1_.symm; have f5_ := f3_.symm; clear f1_ f2_ f3_; subst f4_; subst f5_))
    obtain ⟨Ao128, co128, eo128⟩ := Kd.R_slice HO417.out
    (first | subst eo128 | (injection eo128 with f1_ f2_ f3_; have f4_ := f1_.symm; have f5_ := f3_.symm; clear f1_ f2_ f3_; subst f4_; subst f5_))
    refine hK.out _ _ ⟨bc BK331.out 0, bc BK332.out 0, bc BK332.out 1, bc BK332.out 2, bc BK332.out 3, bc BK332.out 4, bc BK332.out 5, bc BK332.out 6, bc BK332.out 7, bc BK332.out 8⟩ (fun hHeld => ?_)
    clear hK K
    refine norm_ (a' := ?_) ?_ ?_
    rotate_left
    ·show Act.put _ (some 78) _ = _
     simp only [pA, pS, pZ, pK, i64_w, i32_w]
     rfl
    refine one_ (i := 4) (N := some 79) (bs 31 6) rfl rfl (by kernel_rfl) (by decide) (fun K hK => ?_)
    refine goes_ Try.func60 (by kernel_rfl) rfl #[.agg #[.slice Ao126 t402.length co126], .agg #[.int .i64 t405, .int .i64 t406, .int .i64 t407, .int .i64 t408, .int .i64 t409, .int .i64 t410, .int .i64 t411, .slice Ao127 t412.length co127, .slice Ao128 t415.length co128]] (by rfl) rfl rfl (by (try simp only [List.map_toArray, List.map_cons, List.map_nil]); first | done | rfl | (simp only [List.length_drop, List.length_take]; rfl)) ?_
    with_reducible refine (impl_InstalledVersions.calls kj34 _ _ t402 t405 t406 t407 t408 t409 t410 t411 _ _ t412 _ _ t415 t418 _ ?side1 ?side2 ?side3 ?side4 ?side5 ?side6 A96.out).mono ?_
    (case side1 => exact Kd.C_below (Kd.S_reads' HO404.out).2.2 (BL (Below.refl _ _) rfl rfl rfl rfl))
    (case side2 => exact (Kd.S_reads' HO404.out).2.1)
    (case side3 => exact Kd.C_below (Kd.R_reads' HO414.out).2.2 (BL (Below.refl _ _) rfl rfl rfl rfl))
    (case side4 => exact (Kd.R_reads' HO414.out).2.1)
    (case side5 => exact Kd.C_below (Kd.R_reads' HO417.out).2.2 (BL (Below.refl _ _) rfl rfl rfl rfl))
    (case side6 => exact (Kd.R_reads' HO417.out).2.1)
    rintro e w129 ⟨v419, rfl, ho0, hb⟩
    refine ⟨_, rfl, ?_⟩
    replace HO_372007 := AM_ (Kd.R_below (RT HO_372007.out) hb)
    replace HO_372008 := AM_ (Kd.R_below (RT HO_372008.out) hb)
    replace HO404 := AM_ (Kd.S_elder' (ST HO404.out) (Kd.R_base ho0) hb)
    replace HO414 := AM_ (Kd.R_below (RT HO414.out) hb)
    replace HO417 := AM_ (Kd.R_below (RT HO417.out) hb)
    have HO420 := AM_ (Kd.R_lower (Kd.R_new' (Kd.R_new' ho0 (Kd.R_lt (RT HO_6.out))) (Kd.R_lt (RT HO_9.out))) (below_size (BT HB.out)))
    replace HO_6 := AM_ (Kd.R_elder' (RT HO_6.out) (Kd.R_base ho0) hb)
    replace HO_9 := AM_ (Kd.R_elder' (RT HO_9.out) (Kd.R_base ho0) hb)
    replace BK331 := AM_ (BB BK331.out hb)
    replace BK332 := AM_ (BB BK332.out hb)
    replace BK371 := AM_ (BB BK371.out hb)
    replace HB := AM_ (below_step (BT HB.out) hb)
    (try clear hb)
    (try clear hb2)
    (try clear hk)
    (try clear hi)
    (try clear ho0)
    refine hK.out _ _ ⟨bc BK331.out 0, bc BK332.out 0, bc BK332.out 1, bc BK332.out 2, bc BK332.out 3, bc BK332.out 4, bc BK332.out 5, bc BK332.out 6, bc BK332.out 7, bc BK332.out 8⟩ (fun hHeld => ?_)
    clear hK K
    refine norm_ (a' := ?_) ?_ ?_
    rotate_left
    ·show Act.put _ (some 79) _ = _
     simp only [pA, pS, pZ, pK, i64_w, i32_w]
     rfl
    refine pure_ (i := 5) (N := some 13) (v := ?_) (a' := ?_) (bs 63 6) rfl rfl (by kernel_rfl) (fun _ _ _ h => h) (Or.inl ⟨by rfl, ?_⟩) ?_ ?_
    rotate_left
    ·intro w'
     go_simp
     with_reducible rfl
    rotate_left
    ·simp only [pA, pS, pZ, pK, i64_w, i32_w]
     rfl
    refine done_ (by kernel_rfl) ?_
    obtain ⟨Ao130, co130, eo130⟩ := Kd.R_slice HO420.out
    subst eo130
    try go_wp2_with (first | ((with_reducible refine gate_callee (f := 61) rfl ?_); refine goesL_ (some 82) rfl rfl Try.func61 (by kernel_rfl) rfl #[.slice Ao130 t418.length co130, .slice Ao259 t351.length co259] rfl (by (try simp only [List.map_toArray, List.map_cons, List.map_nil]); first | done | rfl | (simp only [List.length_drop, List.length_take]; rfl)) ?_; (with_reducible refine (laws_eqVersionS.calls kj34 _ _ t418 _ _ t351 true _ ?side1 ?side2 ?side3 ?side4 A97.out).mono ?_); (case side1 => exact Kd.C_below (Kd.R_reads' HO420.out).2.2 (BL (Below.refl _ _) rfl rfl rfl rfl)); (case side2 => exact (Kd.R_reads' HO420.out).2.1); (case side3 => exact Kd.C_below (Kd.R_reads' HO_6.out).2.2 (BL (Below.refl _ _) rfl rfl rfl rfl)); (case side4 => exact (Kd.R_reads' HO_6.out).2.1); rintro e w131 ⟨rfl, hb⟩; refine ⟨_, rfl, ?_⟩; replace HO_6 := AM_ (Kd.R_below (RT HO_6.out) hb); replace HO_9 := AM_ (Kd.R_below (RT HO_9.out) hb); replace HO_372007 := AM_ (Kd.R_below (RT HO_372007.out) hb); replace HO_372008 := AM_ (Kd.R_below (RT HO_372008.out) hb); replace HO404 := AM_ (Kd.S_below (ST HO404.out) hb); replace HO414 := AM_ (Kd.R_below (RT HO414.out) hb); replace HO417 := AM_ (Kd.R_below (RT HO417.out) hb); replace HO420 := AM_ (Kd.R_below (RT HO420.out) hb); replace BK331 := AM_ (BB BK331.out hb); replace BK332 := AM_ (BB BK332.out hb); replace BK371 := AM_ (BB BK371.out hb); replace HB := AM_ (below_step (BT HB.out) hb); (try clear hb); (try clear hb2); (try clear hk); (try clear hi)) | ((with_reducible refine gate_callee (f := 65) rfl ?_); refine goesL_ (some 86) rfl rfl Try.func65 (by kernel_rfl) rfl #[.slice Ao258 t400.length co258, .int .i64 1] rfl (by (try simp only [List.map_toArray, List.map_cons, List.map_nil]); first | done | (rw [show t400.length = t372.length from (Kd.R_reads' HO_9.out).1.symm] <;> rfl) | rfl | (simp only [List.length_drop, List.length_take]; rfl)) ?_; (with_reducible refine (laws_heldVersionS.calls kj34 _ _ t400 1 t422 _ ?side1 ?side2 A99.out).mono ?_); (case side1 => exact Kd.C_below (Kd.R_reads' HO_9.out).2.2 (BL (Below.refl _ _) rfl rfl rfl rfl)); (case side2 => rw [show t400.length = t372.length from (Kd.R_reads' HO_9.out).1.symm]; exact (Kd.R_reads' HO_9.out).2.1); rintro e w' ⟨rfl, ⟨nd, rfl⟩⟩; refine ⟨_, rfl, ?_⟩))
    go_ret
    exact QT (BT HB.out)
   rw [if_pos c111] at H
   have c111b0 : (t422 == t399) = true := beq_iff_eq.mpr c111
   have c111b1 : (t422 != t399) = false := bne_eq_false_iff_eq.mpr c111
   clear c111
   obtain rfl := Option.some.inj H
   try go_wp2_with (first | ((with_reducible refine gate_callee (f := 64) rfl ?_); refine goesL_ (some 66) rfl rfl Try.func64 (by kernel_rfl) rfl #[.slice Ao258 t372.length co258, .int .i64 1] rfl (by (try simp only [List.map_toArray, List.map_cons, List.map_nil]); first | done | rfl | (simp only [List.length_drop, List.length_take]; rfl)) ?_; (with_reducible refine (laws_markVersionS.calls kj34 (fun k_ => some k_ = (.slice Ao258 t372.length co258 : Value).ownBlock) (.slice Ao258 t372.length co258) t372 1 t399 t400 w _ ?side1 ?side2 A89.out).mono ?_); (case side1 => repeat (first | (with_reducible first | exact HB.out | apply below_alloc | apply pw_below_drewN | apply below_drew1 | refine below_set ?_ GE331.out | refine below_set ?_ GE332.out | refine below_set ?_ GE371.out) | exact HB.out)); (case side2 => exact Kd.R_tight rfl HO_9.out); rintro e w112 ⟨rfl, hy0, hb, hkp⟩; refine ⟨_, rfl, ?_⟩; replace HO_6 := AM_ (Kd.R_mono (ok' := fun k_ => some k_ ≠ (.slice Ao258 t372.length co258 : Value).ownBlock) (Kd.R_keptB (HO_6.out) hkp (fun k_ hk_ hs_ => (hk_) hs_)) (fun k_ hk_ => hk_.1)); replace HO_372007 := AM_ (Kd.R_mono (ok' := fun k_ => True) (Kd.R_keptB ((Kd.R_apart' HO_372007.out (Kd.R_typed HO_9.out) (by decide))) hkp (fun k_ hk_ hs_ => (hk_.2) hs_)) (fun k_ hk_ => trivial)); replace HO_372008 := AM_ (Kd.R_mono (ok' := fun k_ => True) (Kd.R_keptB ((Kd.R_apart' HO_372008.out (Kd.R_typed HO_9.out) (by decide))) hkp (fun k_ hk_ hs_ => (hk_.2) hs_)) (fun k_ hk_ => trivial)); replace BK331 := AM_ (blk_kept (by (with_reducible repeat (first | refine blk_drewN ?_ _ | refine blk_drew ?_ | refine blk_alloc ?_ _)); exact BK331.out) hkp (fun hs_ => (fun e_ => (Kd.R_ne HO_9.out BK331.out (by decide)) e_) hs_)); replace BK332 := AM_ (blk_kept (by (with_reducible repeat (first | refine blk_drewN ?_ _ | refine blk_drew ?_ | refine blk_alloc ?_ _)); exact BK332.out) hkp (fun hs_ => (fun e_ => (Kd.R_ne HO_9.out BK332.out (by decide)) e_) hs_)); replace BK371 := AM_ (blk_kept (by (with_reducible repeat (first | refine blk_drewN ?_ _ | refine blk_drew ?_ | refine blk_alloc ?_ _)); exact BK371.out) hkp (fun hs_ => (fun e_ => (Kd.R_ne HO_9.out BK371.out (by decide)) e_) hs_)); replace HO_9 := AM_ (Kd.R_reok rfl hy0 (fun k_ e_ => HO_9.out.1 k_ e_)); replace HB := AM_ (hb); (try clear hb); (try clear hkp); (try clear hy0)) | ((with_reducible refine gate_callee (f := 65) rfl ?_); refine goesL_ (some 69) rfl rfl Try.func65 (by kernel_rfl) rfl #[.slice Ao258 t400.length co258, .int .i64 1] rfl (by (try simp only [List.map_toArray, List.map_cons, List.map_nil]); first | done | (rw [show t400.length = t372.length from (Kd.R_reads' HO_9.out).1.symm] <;> rfl) | rfl | (simp only [List.length_drop, List.length_take]; rfl)) ?_; (with_reducible refine (laws_heldVersionS.calls kj34 _ _ t400 1 t401 _ ?side1 ?side2 A90.out).mono ?_); (case side1 => exact Kd.C_below (Kd.R_reads' HO_9.out).2.2 (BL (Below.refl _ _) rfl rfl rfl rfl)); (case side2 => rw [show t400.length = t372.length from (Kd.R_reads' HO_9.out).1.symm]; exact (Kd.R_reads' HO_9.out).2.1); rintro e w' ⟨rfl, ⟨nd, rfl⟩⟩; refine ⟨_, rfl, ?_⟩))
   (try (rw [drewN_self w112]; generalize hq_ : World.drewN w112 _ = w112; have n0_ : Aside0 (Kd.R k165 165 w112 w.heap.size (fun _ => True) (.slice Ao254 t396.length co254) t396) := ⟨by rw [← hq_]; exact (RT HO_372007.out)⟩; have n1_ : Aside0 (Kd.R k133 133 w112 w.heap.size (fun _ => True) (.slice Ao255 t397.length co255) t397) := ⟨by rw [← hq_]; exact (RT HO_372008.out)⟩; have n2_ : Aside0 (Kd.R k76 76 w112 w.heap.size (fun k_ => some k_ ≠ (.slice Ao258 t372.length co258 : Value).ownBlock) (.slice Ao259 t351.length co259) t351) := ⟨by rw [← hq_]; exact (RT HO_6.out)⟩; have n3_ : Aside0 (Kd.R k76 76 w112 w.heap.size (fun k_ => some k_ ≠ (.slice Ao259 t351.length co259 : Value).ownBlock) (.slice Ao258 t372.length co258) t400) := ⟨by rw [← hq_]; exact (RT HO_9.out)⟩; have n4_ : Aside0 (w112.heap[gb331]? = some (.cells #[.slice A0_0 l0_0.length c0_0] 39 (0, 0))) := ⟨by rw [← hq_]; exact (by (with_reducible repeat (first | refine blk_drewN ?_ _ | refine blk_drew ?_ | refine blk_alloc ?_ _)); exact BK331.out)⟩; have n5_ : Aside0 (w112.heap[gb332]? = some (.cells #[.int .i64 a1_0, .int .i64 a1_1, .int .i64 a1_2, .int .i64 a1_3, .int .i64 a1_4, .int .i64 a1_5, .int .i64 a1_6, .slice A1_7 l1_7.length c1_7, .slice A1_8 l1_8.length c1_8] 60 (0, 0))) := ⟨by rw [← hq_]; exact (by (with_reducible repeat (first | refine blk_drewN ?_ _ | refine blk_drew ?_ | refine blk_alloc ?_ _)); exact BK332.out)⟩; have n6_ : Aside0 (w112.heap[gb371]? = some (.cells #[.int .i64 t358, .int .i64 t359, .int .i64 t360, .int .i64 t361, .int .i64 t362, .int .i64 t363, .int .i64 t364, .slice Ao254 t396.length co254, .slice Ao255 t397.length co255] 68 (0, 0))) := ⟨by rw [← hq_]; exact (by (with_reducible repeat (first | refine blk_drewN ?_ _ | refine blk_drew ?_ | refine blk_alloc ?_ _)); exact BK371.out)⟩; have n7_ : Aside0 (Below w.heap.size w w112) := ⟨by rw [← hq_]; exact (BT HB.out)⟩; clear HO_372007 HO_372008 HO_6 HO_9 BK331 BK332 BK371 HB hq_; have HO_372007 := n0_; have HO_372008 := n1_; have HO_6 := n2_; have HO_9 := n3_; have BK331 := n4_; have BK332 := n5_; have BK371 := n6_; have HB := n7_; clear n0_ n1_ n2_ n3_ n4_ n5_ n6_ n7_))
   replace HO_6 := AM_ (Kd.R_drew HO_6.out)
   replace HO_9 := AM_ (Kd.R_drew HO_9.out)
   replace HO_372007 := AM_ (Kd.R_drew HO_372007.out)
   replace HO_372008 := AM_ (Kd.R_drew HO_372008.out)
   replace BK331 := AM_ (blk_drew BK331.out)
   replace BK332 := AM_ (blk_drew BK332.out)
   replace BK371 := AM_ (blk_drew BK371.out)
   replace HB := AM_ (below_drew1 HB.out)
   refine start_ (n := 6) (S := fun w' => w'.cell? ⟨gb331, 0, none⟩ = some (.slice A0_0 l0_0.length c0_0) ∧ w'.cell? ⟨gb332, 0, none⟩ = some (.int .i64 a1_0) ∧ w'.cell? ⟨gb332, 1, none⟩ = some (.int .i64 a1_1) ∧ w'.cell? ⟨gb332, 2, none⟩ = some (.int .i64 a1_2) ∧ w'.cell? ⟨gb332, 3, none⟩ = some (.int .i64 a1_3) ∧ w'.cell? ⟨gb332, 4, none⟩ = some (.int .i64 a1_4) ∧ w'.cell? ⟨gb332, 5, none⟩ = some (.int .i64 a1_5) ∧ w'.cell? ⟨gb332, 6, none⟩ = some (.int .i64 a1_6) ∧ w'.cell? ⟨gb332, 7, none⟩ = some (.slice A1_7 l1_7.length c1_7) ∧ w'.cell? ⟨gb332, 8, none⟩ = some (.slice A1_8 l1_8.length c1_8)) (ds := []) (bs 0 6) (by kernel_rfl) rfl rfl ⟨bc BK331.out 0, bc BK332.out 0, bc BK332.out 1, bc BK332.out 2, bc BK332.out 3, bc BK332.out 4, bc BK332.out 5, bc BK332.out 6, bc BK332.out 7, bc BK332.out 8⟩ (fun hHeld => ?_)
   generalize w112.drew = w113 at HO_6 HO_9 HO_372007 HO_372008 BK331 BK332 BK371 HB hHeld ⊢
   refine take_ (i := 0) (N := some 75) (v := ?_) (a' := ?_) (bs 1 6) rfl rfl (by kernel_rfl) (fun _ _ _ h => h) (Or.inl ⟨by rfl, ?_⟩) hHeld ?_ ?_
   rotate_left
   ·rintro w' ⟨s0, s1, s2, s3, s4, s5, s6, s7, s8, s9⟩
    go_simp
    with_reducible rfl
   rotate_left
   ·simp only [pA, pS, pZ, pK, i64_w, i32_w]
    rfl
   refine take_ (i := 2) (N := some 77) (v := ?_) (a' := ?_) (bs 5 6) rfl rfl (by kernel_rfl) (fun _ _ _ h => h) (Or.inl ⟨by rfl, ?_⟩) hHeld ?_ ?_
   rotate_left
   ·rintro w' ⟨s0, s1, s2, s3, s4, s5, s6, s7, s8, s9⟩
    go_simp
    with_reducible rfl
   rotate_left
   ·simp only [pA, pS, pZ, pK, i64_w, i32_w]
    rfl
   refine one_ (i := 1) (N := some 76) (bs 7 6) rfl rfl (by kernel_rfl) (by decide) (fun K hK => ?_)
   refine goes_ Try.func35 (by kernel_rfl) rfl #[.agg #[.slice A0_0 l0_0.length c0_0]] (by rfl) rfl rfl (by (try simp only [List.map_toArray, List.map_cons, List.map_nil]); first | done | rfl | (simp only [List.length_drop, List.length_take]; rfl)) ?_
   with_reducible refine (laws_toStore.calls kj34 _ _ l0_0 t402 _ ?side1 ?side2 A94.out).mono ?_
   (case side1 => exact CB HR0_0.out HB.out)
   (case side2 => exact HC0_0.out)
   rintro e w114 ⟨v403, rfl, ho0, hb⟩
   refine ⟨_, rfl, ?_⟩
   replace HO_372007 := AM_ (Kd.R_below (RT HO_372007.out) hb)
   replace HO_372008 := AM_ (Kd.R_below (RT HO_372008.out) hb)
   have HO404 := AM_ (Kd.S_lower (Kd.S_new' (Kd.S_new' ho0 (Kd.R_lt (RT HO_6.out))) (Kd.R_lt (RT HO_9.out))) (below_size (BT HB.out)))
   replace HO_6 := AM_ (Kd.R_below (RT HO_6.out) hb)
   replace HO_9 := AM_ (Kd.R_below (RT HO_9.out) hb)
   replace BK331 := AM_ (BB BK331.out hb)
   replace BK332 := AM_ (BB BK332.out hb)
   replace BK371 := AM_ (BB BK371.out hb)
   replace HB := AM_ (below_step (BT HB.out) hb)
   (try clear hb)
   (try clear hb2)
   (try clear hk)
   (try clear hi)
   (try clear ho0)
   refine hK.out _ _ ⟨bc BK331.out 0, bc BK332.out 0, bc BK332.out 1, bc BK332.out 2, bc BK332.out 3, bc BK332.out 4, bc BK332.out 5, bc BK332.out 6, bc BK332.out 7, bc BK332.out 8⟩ (fun hHeld => ?_)
   clear hK K
   refine norm_ (a' := ?_) ?_ ?_
   rotate_left
   ·show Act.put _ (some 76) _ = _
    simp only [pA, pS, pZ, pK, i64_w, i32_w]
    rfl
   refine one_ (i := 3) (N := some 78) (bs 15 6) rfl rfl (by kernel_rfl) (by decide) (fun K hK => ?_)
   refine goes_ Try.func36 (by kernel_rfl) rfl #[.agg #[.int .i64 a1_0, .int .i64 a1_1, .int .i64 a1_2, .int .i64 a1_3, .int .i64 a1_4, .int .i64 a1_5, .int .i64 a1_6, .slice A1_7 l1_7.length c1_7, .slice A1_8 l1_8.length c1_8]] (by rfl) rfl rfl (by (try simp only [List.map_toArray, List.map_cons, List.map_nil]); first | done | rfl | (simp only [List.length_drop, List.length_take]; rfl)) ?_
   with_reducible refine (laws_toTransaction.calls kj34 a1_0 a1_1 a1_2 a1_3 a1_4 a1_5 a1_6 _ _ l1_7 _ _ l1_8 t405 t406 t407 t408 t409 t410 t411 t412 t415 _ ?side1 ?side2 ?side3 ?side4 A95.out).mono ?_
   (case side1 => exact CB HR1_7.out HB.out)
   (case side2 => exact HC1_7.out)
   (case side3 => exact CB HR1_8.out HB.out)
   (case side4 => exact HC1_8.out)
   rintro e w115 ⟨v413, v416, rfl, ho0, ho1, hb⟩
   refine ⟨_, rfl, ?_⟩
   replace HO_6 := AM_ (Kd.R_below (RT HO_6.out) hb)
   replace HO_9 := AM_ (Kd.R_below (RT HO_9.out) hb)
   replace HO404 := AM_ (Kd.S_below (ST HO404.out) hb)
   have HO414 := AM_ (Kd.R_lower (Kd.R_new' ho0 (Kd.R_lt (RT HO_372007.out))) (below_size (BT HB.out)))
   replace HO_372007 := AM_ (Kd.R_elder' (RT HO_372007.out) (Kd.R_base ho0) hb)
   have HO417 := AM_ (Kd.R_lower (Kd.R_new' ho1 (Kd.R_lt (RT HO_372008.out))) (below_size (BT HB.out)))
   replace HO_372008 := AM_ (Kd.R_elder' (RT HO_372008.out) (Kd.R_base ho1) hb)
   replace BK331 := AM_ (BB BK331.out hb)
   replace BK332 := AM_ (BB BK332.out hb)
   replace BK371 := AM_ (BB BK371.out hb)
   replace HB := AM_ (below_step (BT HB.out) hb)
   (try clear hb)
   (try clear hb2)
   (try clear hk)
   (try clear hi)
   (try clear ho0)
   (try clear ho1)
   obtain ⟨Ao116, co116, eo116⟩ := Kd.S_slice HO404.out
   (first | subst eo116 | (injection eo116 with f1_ f2_ f3_; have f4_ := f1_.symm; have f5_ := f3_.symm; clear f1_ f2_ f3_; subst f4_; subst f5_))
   obtain ⟨Ao117, co117, eo117⟩ := Kd.R_slice HO414.out
   (first | subst eo117 | (injection eo117 with f1_ f2_ f3_; have f4_ := f1_.symm; have f5_ := f3_.symm; clear f1_ f2_ f3_; subst f4_; subst f5_))
   obtain ⟨Ao118, co118, eo118⟩ := Kd.R_slice HO417.out
   (first | subst eo118 | (injection eo118 with f1_ f2_ f3_; have f4_ := f1_.symm; have f5_ := f3_.symm; clear f1_ f2_ f3_; subst f4_; subst f5_))
   refine hK.out _ _ ⟨bc BK331.out 0, bc BK332.out 0, bc BK332.out 1, bc BK332.out 2, bc BK332.out 3, bc BK332.out 4, bc BK332.out 5, bc BK332.out 6, bc BK332.out 7, bc BK332.out 8⟩ (fun hHeld => ?_)
   clear hK K
   refine norm_ (a' := ?_) ?_ ?_
   rotate_left
   ·show Act.put _ (some 78) _ = _
    simp only [pA, pS, pZ, pK, i64_w, i32_w]
    rfl
   refine one_ (i := 4) (N := some 79) (bs 31 6) rfl rfl (by kernel_rfl) (by decide) (fun K hK => ?_)
   refine goes_ Try.func60 (by kernel_rfl) rfl #[.agg #[.slice Ao116 t402.length co116], .agg #[.int .i64 t405, .int .i64 t406, .int .i64 t407, .int .i64 t408, .int .i64 t409, .int .i64 t410, .int .i64 t411, .slice Ao117 t412.length co117, .slice Ao118 t415.length co118]] (by rfl) rfl rfl (by (try simp only [List.map_toArray, List.map_cons, List.map_nil]); first | done | rfl | (simp only [List.length_drop, List.length_take]; rfl)) ?_
   with_reducible refine (impl_InstalledVersions.calls kj34 _ _ t402 t405 t406 t407 t408 t409 t410 t411 _ _ t412 _ _ t415 t418 _ ?side1 ?side2 ?side3 ?side4 ?side5 ?side6 A96.out).mono ?_
   (case side1 => exact Kd.C_below (Kd.S_reads' HO404.out).2.2 (BL (Below.refl _ _) rfl rfl rfl rfl))
   (case side2 => exact (Kd.S_reads' HO404.out).2.1)
   (case side3 => exact Kd.C_below (Kd.R_reads' HO414.out).2.2 (BL (Below.refl _ _) rfl rfl rfl rfl))
   (case side4 => exact (Kd.R_reads' HO414.out).2.1)
   (case side5 => exact Kd.C_below (Kd.R_reads' HO417.out).2.2 (BL (Below.refl _ _) rfl rfl rfl rfl))
   (case side6 => exact (Kd.R_reads' HO417.out).2.1)
   rintro e w119 ⟨v419, rfl, ho0, hb⟩
   refine ⟨_, rfl, ?_⟩
   replace HO_372007 := AM_ (Kd.R_below (RT HO_372007.out) hb)
   replace HO_372008 := AM_ (Kd.R_below (RT HO_372008.out) hb)
   replace HO404 := AM_ (Kd.S_elder' (ST HO404.out) (Kd.R_base ho0) hb)
   replace HO414 := AM_ (Kd.R_below (RT HO414.out) hb)
   replace HO417 := AM_ (Kd.R_below (RT HO417.out) hb)
   have HO420 := AM_ (Kd.R_lower (Kd.R_new' (Kd.R_new' ho0 (Kd.R_lt (RT HO_6.out))) (Kd.R_lt (RT HO_9.out))) (below_size (BT HB.out)))
   replace HO_6 := AM_ (Kd.R_elder' (RT HO_6.out) (Kd.R_base ho0) hb)
   replace HO_9 := AM_ (Kd.R_elder' (RT HO_9.out) (Kd.R_base ho0) hb)
   replace BK331 := AM_ (BB BK331.out hb)
   replace BK332 := AM_ (BB BK332.out hb)
   replace BK371 := AM_ (BB BK371.out hb)
   replace HB := AM_ (below_step (BT HB.out) hb)
   (try clear hb)
   (try clear hb2)
   (try clear hk)
   (try clear hi)
   (try clear ho0)
   refine hK.out _ _ ⟨bc BK331.out 0, bc BK332.out 0, bc BK332.out 1, bc BK332.out 2, bc BK332.out 3, bc BK332.out 4, bc BK332.out 5, bc BK332.out 6, bc BK332.out 7, bc BK332.out 8⟩ (fun hHeld => ?_)
   clear hK K
   refine norm_ (a' := ?_) ?_ ?_
   rotate_left
   ·show Act.put _ (some 79) _ = _
    simp only [pA, pS, pZ, pK, i64_w, i32_w]
    rfl
   refine pure_ (i := 5) (N := some 13) (v := ?_) (a' := ?_) (bs 63 6) rfl rfl (by kernel_rfl) (fun _ _ _ h => h) (Or.inl ⟨by rfl, ?_⟩) ?_ ?_
   rotate_left
   ·intro w'
    go_simp
    with_reducible rfl
   rotate_left
   ·simp only [pA, pS, pZ, pK, i64_w, i32_w]
    rfl
   refine done_ (by kernel_rfl) ?_
   obtain ⟨Ao120, co120, eo120⟩ := Kd.R_slice HO420.out
   subst eo120
   try go_wp2_with (first | ((with_reducible refine gate_callee (f := 61) rfl ?_); refine goesL_ (some 82) rfl rfl Try.func61 (by kernel_rfl) rfl #[.slice Ao120 t418.length co120, .slice Ao259 t351.length co259] rfl (by (try simp only [List.map_toArray, List.map_cons, List.map_nil]); first | done | rfl | (simp only [List.length_drop, List.length_take]; rfl)) ?_; (with_reducible refine (laws_eqVersionS.calls kj34 _ _ t418 _ _ t351 true _ ?side1 ?side2 ?side3 ?side4 A97.out).mono ?_); (case side1 => exact Kd.C_below (Kd.R_reads' HO420.out).2.2 (BL (Below.refl _ _) rfl rfl rfl rfl)); (case side2 => exact (Kd.R_reads' HO420.out).2.1); (case side3 => exact Kd.C_below (Kd.R_reads' HO_6.out).2.2 (BL (Below.refl _ _) rfl rfl rfl rfl)); (case side4 => exact (Kd.R_reads' HO_6.out).2.1); rintro e w121 ⟨rfl, hb⟩; refine ⟨_, rfl, ?_⟩; replace HO_6 := AM_ (Kd.R_below (RT HO_6.out) hb); replace HO_9 := AM_ (Kd.R_below (RT HO_9.out) hb); replace HO_372007 := AM_ (Kd.R_below (RT HO_372007.out) hb); replace HO_372008 := AM_ (Kd.R_below (RT HO_372008.out) hb); replace HO404 := AM_ (Kd.S_below (ST HO404.out) hb); replace HO414 := AM_ (Kd.R_below (RT HO414.out) hb); replace HO417 := AM_ (Kd.R_below (RT HO417.out) hb); replace HO420 := AM_ (Kd.R_below (RT HO420.out) hb); replace BK331 := AM_ (BB BK331.out hb); replace BK332 := AM_ (BB BK332.out hb); replace BK371 := AM_ (BB BK371.out hb); replace HB := AM_ (below_step (BT HB.out) hb); (try clear hb); (try clear hb2); (try clear hk); (try clear hi)) | ((with_reducible refine gate_callee (f := 65) rfl ?_); refine goesL_ (some 86) rfl rfl Try.func65 (by kernel_rfl) rfl #[.slice Ao258 t400.length co258, .int .i64 1] rfl (by (try simp only [List.map_toArray, List.map_cons, List.map_nil]); first | done | (rw [show t400.length = t372.length from (Kd.R_reads' HO_9.out).1.symm] <;> rfl) | rfl | (simp only [List.length_drop, List.length_take]; rfl)) ?_; (with_reducible refine (laws_heldVersionS.calls kj34 _ _ t400 1 t422 _ ?side1 ?side2 A99.out).mono ?_); (case side1 => exact Kd.C_below (Kd.R_reads' HO_9.out).2.2 (BL (Below.refl _ _) rfl rfl rfl rfl)); (case side2 => rw [show t400.length = t372.length from (Kd.R_reads' HO_9.out).1.symm]; exact (Kd.R_reads' HO_9.out).2.1); rintro e w' ⟨rfl, ⟨nd, rfl⟩⟩; refine ⟨_, rfl, ?_⟩))
   go_ret
   exact QT (BT HB.out)

end Go.Proofs.Ytakpkmlbklahhaa.PFnExactInstalledVersions
