-- Printed by a program of mine (wip/myprint.py), which runs the printer of the kit with contracts of mine beside it.
import Derived.Test.YtakpkmlbklahhaaPFnExactWriteCodex0
import Derived.Test.YtakpkmlbklahhaaPFnExactWriteCodex1
import Derived.Test.YtakpkmlbklahhaaPFnExactWriteCodex2
import Derived.Test.YtakpkmlbklahhaaPFnExactWriteCodex3
import Derived.Test.YtakpkmlbklahhaaPFnExactWriteCodex4
import Derived.Test.YtakpkmlbklahhaaPFnExactWriteCodex13
import Derived.Test.YtakpkmlbklahhaaPFnExactWriteCodex19
import Derived.Test.YtakpkmlbklahhaaPFnExactWriteCodex20
namespace Go.Proofs.Ytakpkmlbklahhaa.PFnExactWriteCode
open Go.RowKit Go.Proofs.YtakpkmlbklahhaaW.PrintWords Go.Proofs.YtakpkmlbklahhaaW.PrintLast Go.Proofs.YtakpkmlbklahhaaW.PrintMore
attribute [local go_sem] max2_int min2_int max_two min_two max_three min_three max_four min_four   -- for this text's walks alone
set_option linter.unusedVariables false
set_option linter.unusedSimpArgs false

/-! ### laws_FnExactWriteCode: function 10 -/
def laws_FnExactWriteCode.f (k : Nat) (l0_0 : List (List (S207))) (l1 : List (S160)) (a2_0 : Int) (a2_1 : Int) (a2_2 : Int) (a2_3 : Int) (a2_4 : Int) (a2_5 : Int) (a2_6 : Int) (l2_7 : List (S189)) (l2_8 : List (S191)) (a3 : Int) : Option (Bool) := (laws_szStore.f k l0_0 1048576).bind fun t351 => (if t351 < 0 then (some true) else ((laws_szLockS.f l1 t351).bind fun t352 => (if t352 < 0 then (some true) else ((laws_szTransaction.f a2_0 a2_1 a2_2 a2_3 a2_4 a2_5 a2_6 l2_7 l2_8 t352).bind fun t353 => (if t353 < 0 then (some true) else ((laws_toStore.f k l0_0).bind fun t354 => ((laws_toLockS.f k l1).bind fun t357 => ((laws_toTransaction.f k a2_0 a2_1 a2_2 a2_3 a2_4 a2_5 a2_6 l2_7 l2_8).bind fun bt360 => ((spec_WriteCode.f k t354 t357 bt360.1 bt360.2.1 bt360.2.2.1 bt360.2.2.2.1 bt360.2.2.2.2.1 bt360.2.2.2.2.2.1 bt360.2.2.2.2.2.2.1 bt360.2.2.2.2.2.2.2.1 bt360.2.2.2.2.2.2.2.2 a3).bind fun t373 => ((laws_toStore.f k l0_0).bind fun t374 => ((laws_toLockS.f k l1).bind fun t378 => ((laws_toTransaction.f k a2_0 a2_1 a2_2 a2_3 a2_4 a2_5 a2_6 l2_7 l2_8).bind fun bt381 => ((impl_WriteCode.f k t374 t378 bt381.1 bt381.2.1 bt381.2.2.1 bt381.2.2.2.1 bt381.2.2.2.2.1 bt381.2.2.2.2.2.1 bt381.2.2.2.2.2.2.1 bt381.2.2.2.2.2.2.2.1 bt381.2.2.2.2.2.2.2.2 a3).bind fun t395 => (if t395 = t373 then ((laws_toStore.f k l0_0).bind fun t396 => ((laws_eqStore.f k t374 t396).bind fun t399 => (if t399 = true then ((laws_toLockS.f k l1).bind fun t400 => ((laws_eqLockS.f k t378 t400).bind fun t403 => (if t403 = true then ((laws_toTransaction.f k a2_0 a2_1 a2_2 a2_3 a2_4 a2_5 a2_6 l2_7 l2_8).bind fun bt404 => ((laws_eqTransaction.f k bt381.1 bt381.2.1 bt381.2.2.1 bt381.2.2.2.1 bt381.2.2.2.2.1 bt381.2.2.2.2.2.1 bt381.2.2.2.2.2.2.1 bt381.2.2.2.2.2.2.2.1 bt381.2.2.2.2.2.2.2.2 bt404.1 bt404.2.1 bt404.2.2.1 bt404.2.2.2.1 bt404.2.2.2.2.1 bt404.2.2.2.2.2.1 bt404.2.2.2.2.2.2.1 bt404.2.2.2.2.2.2.2.1 bt404.2.2.2.2.2.2.2.2).bind fun t417 => (if t417 = true then (some true) else (some false)))) else (some false)))) else (some false)))) else (some false)))))))))))))))
theorem laws_FnExactWriteCode.mono : ∀ a0 a1 a2 a3 a4 a5 a6 a7 a8 a9 a10 a11 k, LeO (laws_FnExactWriteCode.f k a0 a1 a2 a3 a4 a5 a6 a7 a8 a9 a10 a11) (laws_FnExactWriteCode.f (k + 1) a0 a1 a2 a3 a4 a5 a6 a7 a8 a9 a10 a11) := by
 intro a0 a1 a2 a3 a4 a5 a6 a7 a8 a9 a10 a11 k
 unfold laws_FnExactWriteCode.f
 repeat' first
   | (with_reducible exact impl_WriteCode.mono _ _ _ _ _ _ _ _ _ _ _ _ _)
   | (with_reducible exact laws_eqLockS.mono _ _ _)
   | (with_reducible exact laws_eqStore.mono _ _ _)
   | (with_reducible exact laws_eqTransaction.mono _ _ _ _ _ _ _ _ _ _ _ _ _ _ _ _ _ _ _)
   | (with_reducible exact laws_szStore.mono _ _ _)
   | (with_reducible exact laws_toLockS.mono _ _)
   | (with_reducible exact laws_toStore.mono _ _)
   | (with_reducible exact laws_toTransaction.mono _ _ _ _ _ _ _ _ _ _)
   | (with_reducible exact spec_WriteCode.mono _ _ _ _ _ _ _ _ _ _ _ _ _)
   | (with_reducible exact LeO.refl _)
   | (with_reducible exact LeO.none _)
   | (with_reducible refine LeO.ite ?_ ?_)
   | (with_reducible refine LeO.bind ?_ (fun _ => ?_))
   | exact impl_WriteCode.mono _ _ _ _ _ _ _ _ _ _ _ _ _
   | exact laws_eqLockS.mono _ _ _
   | exact laws_eqStore.mono _ _ _
   | exact laws_eqTransaction.mono _ _ _ _ _ _ _ _ _ _ _ _ _ _ _ _ _ _ _
   | exact laws_szStore.mono _ _ _
   | exact laws_toLockS.mono _ _
   | exact laws_toStore.mono _ _
   | exact laws_toTransaction.mono _ _ _ _ _ _ _ _ _ _
   | exact spec_WriteCode.mono _ _ _ _ _ _ _ _ _ _ _ _ _
   | exact LeO.none _
   | refine LeO.ite ?_ ?_
   | refine LeO.bind ?_ (fun _ => ?_)
def laws_FnExactWriteCode.T11 : Bool × List (List Nat × List Nat) := (true, [([], []), ([0], [0]), ([], []), ([2, 1], [2]), ([], []), ([4, 3], [4]), ([], []), ([1, 3, 5, 6, 5], [1, 3, 5, 6]), ([7, 7, 0, 1, 2, 3, 4, 5, 6, 7], [7])])
def laws_FnExactWriteCode.B11 : List Nat := [0, 1, 0, 7, 0, 31, 0, 127, 255]
theorem laws_FnExactWriteCode.tab11 : rtab .any (opsOf Try.f10 11) = laws_FnExactWriteCode.T11 := by kernel_rfl
theorem laws_FnExactWriteCode.bits11 : waitsOk laws_FnExactWriteCode.T11.2 laws_FnExactWriteCode.B11 = true := by kernel_rfl
set_option maxHeartbeats 8000000 in
set_option maxRecDepth 100000 in
theorem laws_FnExactWriteCode.calls (k : Nat) (A0_0 : Option Addr) (c0_0 : Nat) (l0_0 : List (List (S207))) (A1 : Option Addr) (c1 : Nat) (l1 : List (S160)) (a2_0 : Int) (a2_1 : Int) (a2_2 : Int) (a2_3 : Int) (a2_4 : Int) (a2_5 : Int) (a2_6 : Int) (A2_7 : Option Addr) (c2_7 : Nat) (l2_7 : List (S189)) (A2_8 : Option Addr) (c2_8 : Nat) (l2_8 : List (S191)) (a3 : Int) (r : Bool) (w : World) (hr0_0 : Kd.C (Kd.slice 207 k207) w A0_0 l0_0.length l0_0) (hc0_0 : l0_0.length ≤ c0_0) (hr1 : Kd.C k160 w A1 l1.length l1) (hc1 : l1.length ≤ c1) (hr2_7 : Kd.C k189 w A2_7 l2_7.length l2_7) (hc2_7 : l2_7.length ≤ c2_7) (hr2_8 : Kd.C k191 w A2_8 l2_8.length l2_8) (hc2_8 : l2_8.length ≤ c2_8) (h : laws_FnExactWriteCode.f k l0_0 l1 a2_0 a2_1 a2_2 a2_3 a2_4 a2_5 a2_6 l2_7 l2_8 a3 = some r) :
  Calls Try.prog 10 #[.agg #[.slice A0_0 l0_0.length c0_0], .slice A1 l1.length c1, .agg #[.int .i64 a2_0, .int .i64 a2_1, .int .i64 a2_2, .int .i64 a2_3, .int .i64 a2_4, .int .i64 a2_5, .int .i64 a2_6, .slice A2_7 l2_7.length c2_7, .slice A2_8 l2_8.length c2_8], .int .i64 a3] w fun e w' => e = .returned (.bool r) ∧ Below w.heap.size w w' := by
 have hu39 := Try.underlying39
 have hu60 := Try.underlying60
 have hu49 := Try.underlying49
 have hu68 := Try.underlying68
 have HR0_0 := AM_ hr0_0
 have HC0_0 := AM_ hc0_0
 clear hr0_0 hc0_0
 have HR1 := AM_ hr1
 have HC1 := AM_ hc1
 clear hr1 hc1
 have HR2_7 := AM_ hr2_7
 have HC2_7 := AM_ hc2_7
 clear hr2_7 hc2_7
 have HR2_8 := AM_ hr2_8
 have HC2_8 := AM_ hc2_8
 clear hr2_8 hc2_8
 have HB := AM_ (Below.refl w.heap.size w)
 have H : ((laws_szStore.f k l0_0 1048576).bind fun t351 => (if t351 < 0 then (some true) else ((laws_szLockS.f l1 t351).bind fun t352 => (if t352 < 0 then (some true) else ((laws_szTransaction.f a2_0 a2_1 a2_2 a2_3 a2_4 a2_5 a2_6 l2_7 l2_8 t352).bind fun t353 => (if t353 < 0 then (some true) else ((laws_toStore.f k l0_0).bind fun t354 => ((laws_toLockS.f k l1).bind fun t357 => ((laws_toTransaction.f k a2_0 a2_1 a2_2 a2_3 a2_4 a2_5 a2_6 l2_7 l2_8).bind fun bt360 => ((spec_WriteCode.f k t354 t357 bt360.1 bt360.2.1 bt360.2.2.1 bt360.2.2.2.1 bt360.2.2.2.2.1 bt360.2.2.2.2.2.1 bt360.2.2.2.2.2.2.1 bt360.2.2.2.2.2.2.2.1 bt360.2.2.2.2.2.2.2.2 a3).bind fun t373 => ((laws_toStore.f k l0_0).bind fun t374 => ((laws_toLockS.f k l1).bind fun t378 => ((laws_toTransaction.f k a2_0 a2_1 a2_2 a2_3 a2_4 a2_5 a2_6 l2_7 l2_8).bind fun bt381 => ((impl_WriteCode.f k t374 t378 bt381.1 bt381.2.1 bt381.2.2.1 bt381.2.2.2.1 bt381.2.2.2.2.1 bt381.2.2.2.2.2.1 bt381.2.2.2.2.2.2.1 bt381.2.2.2.2.2.2.2.1 bt381.2.2.2.2.2.2.2.2 a3).bind fun t395 => (if t395 = t373 then ((laws_toStore.f k l0_0).bind fun t396 => ((laws_eqStore.f k t374 t396).bind fun t399 => (if t399 = true then ((laws_toLockS.f k l1).bind fun t400 => ((laws_eqLockS.f k t378 t400).bind fun t403 => (if t403 = true then ((laws_toTransaction.f k a2_0 a2_1 a2_2 a2_3 a2_4 a2_5 a2_6 l2_7 l2_8).bind fun bt404 => ((laws_eqTransaction.f k bt381.1 bt381.2.1 bt381.2.2.1 bt381.2.2.2.1 bt381.2.2.2.2.1 bt381.2.2.2.2.2.1 bt381.2.2.2.2.2.2.1 bt381.2.2.2.2.2.2.2.1 bt381.2.2.2.2.2.2.2.2 bt404.1 bt404.2.1 bt404.2.2.1 bt404.2.2.2.1 bt404.2.2.2.2.1 bt404.2.2.2.2.2.1 bt404.2.2.2.2.2.2.1 bt404.2.2.2.2.2.2.2.1 bt404.2.2.2.2.2.2.2.2).bind fun t417 => (if t417 = true then (some true) else (some false)))) else (some false)))) else (some false)))) else (some false)))))))))))))))) = some r := h
 clear h
 replace H := Option.bind_eq_some_iff.mp H
 obtain ⟨t351, A50, H⟩ := H
 replace H : (if t351 < 0 then (some true) else ((laws_szLockS.f l1 t351).bind fun t352 => (if t352 < 0 then (some true) else ((laws_szTransaction.f a2_0 a2_1 a2_2 a2_3 a2_4 a2_5 a2_6 l2_7 l2_8 t352).bind fun t353 => (if t353 < 0 then (some true) else ((laws_toStore.f k l0_0).bind fun t354 => ((laws_toLockS.f k l1).bind fun t357 => ((laws_toTransaction.f k a2_0 a2_1 a2_2 a2_3 a2_4 a2_5 a2_6 l2_7 l2_8).bind fun bt360 => ((spec_WriteCode.f k t354 t357 bt360.1 bt360.2.1 bt360.2.2.1 bt360.2.2.2.1 bt360.2.2.2.2.1 bt360.2.2.2.2.2.1 bt360.2.2.2.2.2.2.1 bt360.2.2.2.2.2.2.2.1 bt360.2.2.2.2.2.2.2.2 a3).bind fun t373 => ((laws_toStore.f k l0_0).bind fun t374 => ((laws_toLockS.f k l1).bind fun t378 => ((laws_toTransaction.f k a2_0 a2_1 a2_2 a2_3 a2_4 a2_5 a2_6 l2_7 l2_8).bind fun bt381 => ((impl_WriteCode.f k t374 t378 bt381.1 bt381.2.1 bt381.2.2.1 bt381.2.2.2.1 bt381.2.2.2.2.1 bt381.2.2.2.2.2.1 bt381.2.2.2.2.2.2.1 bt381.2.2.2.2.2.2.2.1 bt381.2.2.2.2.2.2.2.2 a3).bind fun t395 => (if t395 = t373 then ((laws_toStore.f k l0_0).bind fun t396 => ((laws_eqStore.f k t374 t396).bind fun t399 => (if t399 = true then ((laws_toLockS.f k l1).bind fun t400 => ((laws_eqLockS.f k t378 t400).bind fun t403 => (if t403 = true then ((laws_toTransaction.f k a2_0 a2_1 a2_2 a2_3 a2_4 a2_5 a2_6 l2_7 l2_8).bind fun bt404 => ((laws_eqTransaction.f k bt381.1 bt381.2.1 bt381.2.2.1 bt381.2.2.2.1 bt381.2.2.2.2.1 bt381.2.2.2.2.2.1 bt381.2.2.2.2.2.2.1 bt381.2.2.2.2.2.2.2.1 bt381.2.2.2.2.2.2.2.2 bt404.1 bt404.2.1 bt404.2.2.1 bt404.2.2.2.1 bt404.2.2.2.2.1 bt404.2.2.2.2.2.1 bt404.2.2.2.2.2.2.1 bt404.2.2.2.2.2.2.2.1 bt404.2.2.2.2.2.2.2.2).bind fun t417 => (if t417 = true then (some true) else (some false)))) else (some false)))) else (some false)))) else (some false))))))))))))))) = some r := H
 have A5 := AM_ A50
 clear A50
 by_cases c6 : t351 < 0
 ·rw [if_pos c6] at H
  have c6b0 : decide (t351 < 0) = true := decide_eq_true c6
  clear c6
  obtain rfl := Option.some.inj H
  go_enter Try.func10, Try.ntmps10
  go_wp2_with (first | ((with_reducible refine gate_dst (N := 4) rfl ?_); refine box_event ?hg (N := 4) ?hd (cs := #[.slice A0_0 l0_0.length c0_0]) (t := 39) ?hr ?_; (case hd => rfl); (case hg => rfl); (case hr => first | (go_simp; done) | (go_simp; rfl)); intro gb349 hg w7 hbox hb; have BK349 := AM_ (hbox); have GW349 := AM_ ((GS HB.out hg)); have GE349 := AM_ ((GS HB.out hg)); replace HB := AM_ (below_step (BT HB.out) hb); clear hb hbox hg) | ((with_reducible refine gate_dst (N := 6) rfl ?_); refine box_event ?hg (N := 6) ?hd (cs := #[.int .i64 a2_0, .int .i64 a2_1, .int .i64 a2_2, .int .i64 a2_3, .int .i64 a2_4, .int .i64 a2_5, .int .i64 a2_6, .slice A2_7 l2_7.length c2_7, .slice A2_8 l2_8.length c2_8]) (t := 60) ?hr ?_; (case hd => rfl); (case hg => rfl); (case hr => first | (go_simp; done) | (go_simp; rfl)); intro gb350 hg w8 hbox hb; have BK350 := AM_ (hbox); have GW350 := AM_ ((GS HB.out hg)); have GE350 := AM_ ((GS HB.out hg)); replace HB := AM_ (below_step (BT HB.out) hb); have NB349_350 := AM_ ((NL BK349.out hg)); have NB350_349 := AM_ ((NG BK349.out hg)); replace BK349 := AM_ (BB BK349.out hb); clear hb hbox hg; have hnb9 := NB349_350.out; have hnc9 := NB350_349.out; obtain ⟨hcz10_0, hfz10_0⟩ := bk1 BK349.out) | ((with_reducible refine gate_callee (f := 32) rfl ?_); refine goesL_ (some 17) rfl rfl Try.func32 (by kernel_rfl) rfl #[.agg #[.slice A0_0 l0_0.length c0_0], .int .i64 1048576] rfl (by (try simp only [List.map_toArray, List.map_cons, List.map_nil]); first | done | rfl | (simp only [List.length_drop, List.length_take]; rfl)) ?_; (with_reducible refine (laws_szStore.calls k _ _ l0_0 1048576 t351 _ ?side1 ?side2 A5.out).mono ?_); (case side1 => exact CB HR0_0.out HB.out); (case side2 => exact HC0_0.out); rintro e w11 ⟨rfl, hb⟩; refine ⟨_, rfl, ?_⟩; replace BK349 := AM_ (BB BK349.out hb); replace BK350 := AM_ (BB BK350.out hb); replace HB := AM_ (below_step (BT HB.out) hb); (try clear hb); (try clear hb2); (try clear hk); (try clear hi)))
  go_ret
  exact QT (BT HB.out)
 rw [if_neg c6] at H
 have c6b0 : decide (t351 < 0) = false := decide_eq_false c6
 clear c6
 replace H := Option.bind_eq_some_iff.mp H
 obtain ⟨t352, A120, H⟩ := H
 replace H : (if t352 < 0 then (some true) else ((laws_szTransaction.f a2_0 a2_1 a2_2 a2_3 a2_4 a2_5 a2_6 l2_7 l2_8 t352).bind fun t353 => (if t353 < 0 then (some true) else ((laws_toStore.f k l0_0).bind fun t354 => ((laws_toLockS.f k l1).bind fun t357 => ((laws_toTransaction.f k a2_0 a2_1 a2_2 a2_3 a2_4 a2_5 a2_6 l2_7 l2_8).bind fun bt360 => ((spec_WriteCode.f k t354 t357 bt360.1 bt360.2.1 bt360.2.2.1 bt360.2.2.2.1 bt360.2.2.2.2.1 bt360.2.2.2.2.2.1 bt360.2.2.2.2.2.2.1 bt360.2.2.2.2.2.2.2.1 bt360.2.2.2.2.2.2.2.2 a3).bind fun t373 => ((laws_toStore.f k l0_0).bind fun t374 => ((laws_toLockS.f k l1).bind fun t378 => ((laws_toTransaction.f k a2_0 a2_1 a2_2 a2_3 a2_4 a2_5 a2_6 l2_7 l2_8).bind fun bt381 => ((impl_WriteCode.f k t374 t378 bt381.1 bt381.2.1 bt381.2.2.1 bt381.2.2.2.1 bt381.2.2.2.2.1 bt381.2.2.2.2.2.1 bt381.2.2.2.2.2.2.1 bt381.2.2.2.2.2.2.2.1 bt381.2.2.2.2.2.2.2.2 a3).bind fun t395 => (if t395 = t373 then ((laws_toStore.f k l0_0).bind fun t396 => ((laws_eqStore.f k t374 t396).bind fun t399 => (if t399 = true then ((laws_toLockS.f k l1).bind fun t400 => ((laws_eqLockS.f k t378 t400).bind fun t403 => (if t403 = true then ((laws_toTransaction.f k a2_0 a2_1 a2_2 a2_3 a2_4 a2_5 a2_6 l2_7 l2_8).bind fun bt404 => ((laws_eqTransaction.f k bt381.1 bt381.2.1 bt381.2.2.1 bt381.2.2.2.1 bt381.2.2.2.2.1 bt381.2.2.2.2.2.1 bt381.2.2.2.2.2.2.1 bt381.2.2.2.2.2.2.2.1 bt381.2.2.2.2.2.2.2.2 bt404.1 bt404.2.1 bt404.2.2.1 bt404.2.2.2.1 bt404.2.2.2.2.1 bt404.2.2.2.2.2.1 bt404.2.2.2.2.2.2.1 bt404.2.2.2.2.2.2.2.1 bt404.2.2.2.2.2.2.2.2).bind fun t417 => (if t417 = true then (some true) else (some false)))) else (some false)))) else (some false)))) else (some false))))))))))))) = some r := H
 have A12 := AM_ A120
 clear A120
 by_cases c13 : t352 < 0
 ·rw [if_pos c13] at H
  have c13b0 : decide (t352 < 0) = true := decide_eq_true c13
  clear c13
  obtain rfl := Option.some.inj H
  go_enter Try.func10, Try.ntmps10
  go_wp2_with (first | ((with_reducible refine gate_dst (N := 4) rfl ?_); refine box_event ?hg (N := 4) ?hd (cs := #[.slice A0_0 l0_0.length c0_0]) (t := 39) ?hr ?_; (case hd => rfl); (case hg => rfl); (case hr => first | (go_simp; done) | (go_simp; rfl)); intro gb349 hg w14 hbox hb; have BK349 := AM_ (hbox); have GW349 := AM_ ((GS HB.out hg)); have GE349 := AM_ ((GS HB.out hg)); replace HB := AM_ (below_step (BT HB.out) hb); clear hb hbox hg) | ((with_reducible refine gate_dst (N := 6) rfl ?_); refine box_event ?hg (N := 6) ?hd (cs := #[.int .i64 a2_0, .int .i64 a2_1, .int .i64 a2_2, .int .i64 a2_3, .int .i64 a2_4, .int .i64 a2_5, .int .i64 a2_6, .slice A2_7 l2_7.length c2_7, .slice A2_8 l2_8.length c2_8]) (t := 60) ?hr ?_; (case hd => rfl); (case hg => rfl); (case hr => first | (go_simp; done) | (go_simp; rfl)); intro gb350 hg w15 hbox hb; have BK350 := AM_ (hbox); have GW350 := AM_ ((GS HB.out hg)); have GE350 := AM_ ((GS HB.out hg)); replace HB := AM_ (below_step (BT HB.out) hb); have NB349_350 := AM_ ((NL BK349.out hg)); have NB350_349 := AM_ ((NG BK349.out hg)); replace BK349 := AM_ (BB BK349.out hb); clear hb hbox hg; have hnb16 := NB349_350.out; have hnc16 := NB350_349.out; obtain ⟨hcz17_0, hfz17_0⟩ := bk1 BK349.out) | ((with_reducible refine gate_callee (f := 32) rfl ?_); refine goesL_ (some 17) rfl rfl Try.func32 (by kernel_rfl) rfl #[.agg #[.slice A0_0 l0_0.length c0_0], .int .i64 1048576] rfl (by (try simp only [List.map_toArray, List.map_cons, List.map_nil]); first | done | rfl | (simp only [List.length_drop, List.length_take]; rfl)) ?_; (with_reducible refine (laws_szStore.calls k _ _ l0_0 1048576 t351 _ ?side1 ?side2 A5.out).mono ?_); (case side1 => exact CB HR0_0.out HB.out); (case side2 => exact HC0_0.out); rintro e w18 ⟨rfl, hb⟩; refine ⟨_, rfl, ?_⟩; replace BK349 := AM_ (BB BK349.out hb); replace BK350 := AM_ (BB BK350.out hb); replace HB := AM_ (below_step (BT HB.out) hb); (try clear hb); (try clear hb2); (try clear hk); (try clear hi)) | ((with_reducible refine gate_callee (f := 56) rfl ?_); refine goesL_ (some 22) rfl rfl Try.func56 (by kernel_rfl) rfl #[.slice A1 l1.length c1, .int .i64 t351] rfl (by (try simp only [List.map_toArray, List.map_cons, List.map_nil]); first | done | rfl | (simp only [List.length_drop, List.length_take]; rfl)) ?_; (with_reducible refine (laws_szLockS.calls _ _ l1 t351 t352 _ ?side1 ?side2 A12.out).mono ?_); (case side1 => exact CB HR1.out HB.out); (case side2 => exact HC1.out); rintro e w' ⟨rfl, ⟨nd, rfl⟩⟩; refine ⟨_, rfl, ?_⟩))
  go_ret
  exact QT (BT HB.out)
 rw [if_neg c13] at H
 have c13b0 : decide (t352 < 0) = false := decide_eq_false c13
 clear c13
 replace H := Option.bind_eq_some_iff.mp H
 obtain ⟨t353, A190, H⟩ := H
 replace H : (if t353 < 0 then (some true) else ((laws_toStore.f k l0_0).bind fun t354 => ((laws_toLockS.f k l1).bind fun t357 => ((laws_toTransaction.f k a2_0 a2_1 a2_2 a2_3 a2_4 a2_5 a2_6 l2_7 l2_8).bind fun bt360 => ((spec_WriteCode.f k t354 t357 bt360.1 bt360.2.1 bt360.2.2.1 bt360.2.2.2.1 bt360.2.2.2.2.1 bt360.2.2.2.2.2.1 bt360.2.2.2.2.2.2.1 bt360.2.2.2.2.2.2.2.1 bt360.2.2.2.2.2.2.2.2 a3).bind fun t373 => ((laws_toStore.f k l0_0).bind fun t374 => ((laws_toLockS.f k l1).bind fun t378 => ((laws_toTransaction.f k a2_0 a2_1 a2_2 a2_3 a2_4 a2_5 a2_6 l2_7 l2_8).bind fun bt381 => ((impl_WriteCode.f k t374 t378 bt381.1 bt381.2.1 bt381.2.2.1 bt381.2.2.2.1 bt381.2.2.2.2.1 bt381.2.2.2.2.2.1 bt381.2.2.2.2.2.2.1 bt381.2.2.2.2.2.2.2.1 bt381.2.2.2.2.2.2.2.2 a3).bind fun t395 => (if t395 = t373 then ((laws_toStore.f k l0_0).bind fun t396 => ((laws_eqStore.f k t374 t396).bind fun t399 => (if t399 = true then ((laws_toLockS.f k l1).bind fun t400 => ((laws_eqLockS.f k t378 t400).bind fun t403 => (if t403 = true then ((laws_toTransaction.f k a2_0 a2_1 a2_2 a2_3 a2_4 a2_5 a2_6 l2_7 l2_8).bind fun bt404 => ((laws_eqTransaction.f k bt381.1 bt381.2.1 bt381.2.2.1 bt381.2.2.2.1 bt381.2.2.2.2.1 bt381.2.2.2.2.2.1 bt381.2.2.2.2.2.2.1 bt381.2.2.2.2.2.2.2.1 bt381.2.2.2.2.2.2.2.2 bt404.1 bt404.2.1 bt404.2.2.1 bt404.2.2.2.1 bt404.2.2.2.2.1 bt404.2.2.2.2.2.1 bt404.2.2.2.2.2.2.1 bt404.2.2.2.2.2.2.2.1 bt404.2.2.2.2.2.2.2.2).bind fun t417 => (if t417 = true then (some true) else (some false)))) else (some false)))) else (some false)))) else (some false))))))))))) = some r := H
 have A19 := AM_ A190
 clear A190
 by_cases c20 : t353 < 0
 ·rw [if_pos c20] at H
  have c20b0 : decide (t353 < 0) = true := decide_eq_true c20
  clear c20
  obtain rfl := Option.some.inj H
  go_enter Try.func10, Try.ntmps10
  go_wp2_with (first | ((with_reducible refine gate_dst (N := 4) rfl ?_); refine box_event ?hg (N := 4) ?hd (cs := #[.slice A0_0 l0_0.length c0_0]) (t := 39) ?hr ?_; (case hd => rfl); (case hg => rfl); (case hr => first | (go_simp; done) | (go_simp; rfl)); intro gb349 hg w21 hbox hb; have BK349 := AM_ (hbox); have GW349 := AM_ ((GS HB.out hg)); have GE349 := AM_ ((GS HB.out hg)); replace HB := AM_ (below_step (BT HB.out) hb); clear hb hbox hg) | ((with_reducible refine gate_dst (N := 6) rfl ?_); refine box_event ?hg (N := 6) ?hd (cs := #[.int .i64 a2_0, .int .i64 a2_1, .int .i64 a2_2, .int .i64 a2_3, .int .i64 a2_4, .int .i64 a2_5, .int .i64 a2_6, .slice A2_7 l2_7.length c2_7, .slice A2_8 l2_8.length c2_8]) (t := 60) ?hr ?_; (case hd => rfl); (case hg => rfl); (case hr => first | (go_simp; done) | (go_simp; rfl)); intro gb350 hg w22 hbox hb; have BK350 := AM_ (hbox); have GW350 := AM_ ((GS HB.out hg)); have GE350 := AM_ ((GS HB.out hg)); replace HB := AM_ (below_step (BT HB.out) hb); have NB349_350 := AM_ ((NL BK349.out hg)); have NB350_349 := AM_ ((NG BK349.out hg)); replace BK349 := AM_ (BB BK349.out hb); clear hb hbox hg; have hnb23 := NB349_350.out; have hnc23 := NB350_349.out; obtain ⟨hcz24_0, hfz24_0⟩ := bk1 BK349.out) | ((with_reducible refine gate_callee (f := 32) rfl ?_); refine goesL_ (some 17) rfl rfl Try.func32 (by kernel_rfl) rfl #[.agg #[.slice A0_0 l0_0.length c0_0], .int .i64 1048576] rfl (by (try simp only [List.map_toArray, List.map_cons, List.map_nil]); first | done | rfl | (simp only [List.length_drop, List.length_take]; rfl)) ?_; (with_reducible refine (laws_szStore.calls k _ _ l0_0 1048576 t351 _ ?side1 ?side2 A5.out).mono ?_); (case side1 => exact CB HR0_0.out HB.out); (case side2 => exact HC0_0.out); rintro e w25 ⟨rfl, hb⟩; refine ⟨_, rfl, ?_⟩; replace BK349 := AM_ (BB BK349.out hb); replace BK350 := AM_ (BB BK350.out hb); replace HB := AM_ (below_step (BT HB.out) hb); (try clear hb); (try clear hb2); (try clear hk); (try clear hi)) | ((with_reducible refine gate_callee (f := 56) rfl ?_); refine goesL_ (some 22) rfl rfl Try.func56 (by kernel_rfl) rfl #[.slice A1 l1.length c1, .int .i64 t351] rfl (by (try simp only [List.map_toArray, List.map_cons, List.map_nil]); first | done | rfl | (simp only [List.length_drop, List.length_take]; rfl)) ?_; (with_reducible refine (laws_szLockS.calls _ _ l1 t351 t352 _ ?side1 ?side2 A12.out).mono ?_); (case side1 => exact CB HR1.out HB.out); (case side2 => exact HC1.out); rintro e w' ⟨rfl, ⟨nd, rfl⟩⟩; refine ⟨_, rfl, ?_⟩; obtain ⟨hcz26_0, hcz26_1, hcz26_2, hcz26_3, hcz26_4, hcz26_5, hcz26_6, hcz26_7, hcz26_8, hfz26_0, hfz26_1, hfz26_2, hfz26_3, hfz26_4, hfz26_5, hfz26_6, hfz26_7, hfz26_8⟩ := bk9 BK350.out) | ((with_reducible refine gate_callee (f := 33) rfl ?_); refine goesL_ (some 27) rfl rfl Try.func33 (by kernel_rfl) rfl #[.agg #[.int .i64 a2_0, .int .i64 a2_1, .int .i64 a2_2, .int .i64 a2_3, .int .i64 a2_4, .int .i64 a2_5, .int .i64 a2_6, .slice A2_7 l2_7.length c2_7, .slice A2_8 l2_8.length c2_8], .int .i64 t352] rfl (by (try simp only [List.map_toArray, List.map_cons, List.map_nil]); first | done | rfl | (simp only [List.length_drop, List.length_take]; rfl)) ?_; (with_reducible refine (laws_szTransaction.calls a2_0 a2_1 a2_2 a2_3 a2_4 a2_5 a2_6 _ _ l2_7 _ _ l2_8 t352 t353 _ ?side1 ?side2 ?side3 ?side4 A19.out).mono ?_); (case side1 => repeat (first | exact (Kd.C_below HR2_7.out (BT HB.out)) | (with_reducible refine Kd.C_alloc ?_ _) | (with_reducible refine Kd.C_drewN ?_ _) | (with_reducible refine Kd.C_drew ?_))); (case side2 => exact HC2_7.out); (case side3 => repeat (first | exact (Kd.C_below HR2_8.out (BT HB.out)) | (with_reducible refine Kd.C_alloc ?_ _) | (with_reducible refine Kd.C_drewN ?_ _) | (with_reducible refine Kd.C_drew ?_))); (case side4 => exact HC2_8.out); rintro e w27 ⟨rfl, hb⟩; refine ⟨_, rfl, ?_⟩; replace BK349 := AM_ (BB BK349.out hb); replace BK350 := AM_ (BB BK350.out hb); replace HB := AM_ (below_step (BT HB.out) hb); (try clear hb); (try clear hb2); (try clear hk); (try clear hi)))
  go_ret
  exact QT (BT HB.out)
 rw [if_neg c20] at H
 have c20b0 : decide (t353 < 0) = false := decide_eq_false c20
 clear c20
 replace H := Option.bind_eq_some_iff.mp H
 obtain ⟨t354, A280, H⟩ := H
 replace H : ((laws_toLockS.f k l1).bind fun t357 => ((laws_toTransaction.f k a2_0 a2_1 a2_2 a2_3 a2_4 a2_5 a2_6 l2_7 l2_8).bind fun bt360 => ((spec_WriteCode.f k t354 t357 bt360.1 bt360.2.1 bt360.2.2.1 bt360.2.2.2.1 bt360.2.2.2.2.1 bt360.2.2.2.2.2.1 bt360.2.2.2.2.2.2.1 bt360.2.2.2.2.2.2.2.1 bt360.2.2.2.2.2.2.2.2 a3).bind fun t373 => ((laws_toStore.f k l0_0).bind fun t374 => ((laws_toLockS.f k l1).bind fun t378 => ((laws_toTransaction.f k a2_0 a2_1 a2_2 a2_3 a2_4 a2_5 a2_6 l2_7 l2_8).bind fun bt381 => ((impl_WriteCode.f k t374 t378 bt381.1 bt381.2.1 bt381.2.2.1 bt381.2.2.2.1 bt381.2.2.2.2.1 bt381.2.2.2.2.2.1 bt381.2.2.2.2.2.2.1 bt381.2.2.2.2.2.2.2.1 bt381.2.2.2.2.2.2.2.2 a3).bind fun t395 => (if t395 = t373 then ((laws_toStore.f k l0_0).bind fun t396 => ((laws_eqStore.f k t374 t396).bind fun t399 => (if t399 = true then ((laws_toLockS.f k l1).bind fun t400 => ((laws_eqLockS.f k t378 t400).bind fun t403 => (if t403 = true then ((laws_toTransaction.f k a2_0 a2_1 a2_2 a2_3 a2_4 a2_5 a2_6 l2_7 l2_8).bind fun bt404 => ((laws_eqTransaction.f k bt381.1 bt381.2.1 bt381.2.2.1 bt381.2.2.2.1 bt381.2.2.2.2.1 bt381.2.2.2.2.2.1 bt381.2.2.2.2.2.2.1 bt381.2.2.2.2.2.2.2.1 bt381.2.2.2.2.2.2.2.2 bt404.1 bt404.2.1 bt404.2.2.1 bt404.2.2.2.1 bt404.2.2.2.2.1 bt404.2.2.2.2.2.1 bt404.2.2.2.2.2.2.1 bt404.2.2.2.2.2.2.2.1 bt404.2.2.2.2.2.2.2.2).bind fun t417 => (if t417 = true then (some true) else (some false)))) else (some false)))) else (some false)))) else (some false))))))))) = some r := H
 have A28 := AM_ A280
 clear A280
 replace H := Option.bind_eq_some_iff.mp H
 obtain ⟨t357, A290, H⟩ := H
 replace H : ((laws_toTransaction.f k a2_0 a2_1 a2_2 a2_3 a2_4 a2_5 a2_6 l2_7 l2_8).bind fun bt360 => ((spec_WriteCode.f k t354 t357 bt360.1 bt360.2.1 bt360.2.2.1 bt360.2.2.2.1 bt360.2.2.2.2.1 bt360.2.2.2.2.2.1 bt360.2.2.2.2.2.2.1 bt360.2.2.2.2.2.2.2.1 bt360.2.2.2.2.2.2.2.2 a3).bind fun t373 => ((laws_toStore.f k l0_0).bind fun t374 => ((laws_toLockS.f k l1).bind fun t378 => ((laws_toTransaction.f k a2_0 a2_1 a2_2 a2_3 a2_4 a2_5 a2_6 l2_7 l2_8).bind fun bt381 => ((impl_WriteCode.f k t374 t378 bt381.1 bt381.2.1 bt381.2.2.1 bt381.2.2.2.1 bt381.2.2.2.2.1 bt381.2.2.2.2.2.1 bt381.2.2.2.2.2.2.1 bt381.2.2.2.2.2.2.2.1 bt381.2.2.2.2.2.2.2.2 a3).bind fun t395 => (if t395 = t373 then ((laws_toStore.f k l0_0).bind fun t396 => ((laws_eqStore.f k t374 t396).bind fun t399 => (if t399 = true then ((laws_toLockS.f k l1).bind fun t400 => ((laws_eqLockS.f k t378 t400).bind fun t403 => (if t403 = true then ((laws_toTransaction.f k a2_0 a2_1 a2_2 a2_3 a2_4 a2_5 a2_6 l2_7 l2_8).bind fun bt404 => ((laws_eqTransaction.f k bt381.1 bt381.2.1 bt381.2.2.1 bt381.2.2.2.1 bt381.2.2.2.2.1 bt381.2.2.2.2.2.1 bt381.2.2.2.2.2.2.1 bt381.2.2.2.2.2.2.2.1 bt381.2.2.2.2.2.2.2.2 bt404.1 bt404.2.1 bt404.2.2.1 bt404.2.2.2.1 bt404.2.2.2.2.1 bt404.2.2.2.2.2.1 bt404.2.2.2.2.2.2.1 bt404.2.2.2.2.2.2.2.1 bt404.2.2.2.2.2.2.2.2).bind fun t417 => (if t417 = true then (some true) else (some false)))) else (some false)))) else (some false)))) else (some false)))))))) = some r := H
 have A29 := AM_ A290
 clear A290
 replace H := Option.bind_eq_some_iff.mp H
 obtain ⟨⟨t360, t361, t362, t363, t364, t365, t366, t367, t370⟩, A300, H⟩ := H
 replace H : ((spec_WriteCode.f k t354 t357 t360 t361 t362 t363 t364 t365 t366 t367 t370 a3).bind fun t373 => ((laws_toStore.f k l0_0).bind fun t374 => ((laws_toLockS.f k l1).bind fun t378 => ((laws_toTransaction.f k a2_0 a2_1 a2_2 a2_3 a2_4 a2_5 a2_6 l2_7 l2_8).bind fun bt381 => ((impl_WriteCode.f k t374 t378 bt381.1 bt381.2.1 bt381.2.2.1 bt381.2.2.2.1 bt381.2.2.2.2.1 bt381.2.2.2.2.2.1 bt381.2.2.2.2.2.2.1 bt381.2.2.2.2.2.2.2.1 bt381.2.2.2.2.2.2.2.2 a3).bind fun t395 => (if t395 = t373 then ((laws_toStore.f k l0_0).bind fun t396 => ((laws_eqStore.f k t374 t396).bind fun t399 => (if t399 = true then ((laws_toLockS.f k l1).bind fun t400 => ((laws_eqLockS.f k t378 t400).bind fun t403 => (if t403 = true then ((laws_toTransaction.f k a2_0 a2_1 a2_2 a2_3 a2_4 a2_5 a2_6 l2_7 l2_8).bind fun bt404 => ((laws_eqTransaction.f k bt381.1 bt381.2.1 bt381.2.2.1 bt381.2.2.2.1 bt381.2.2.2.2.1 bt381.2.2.2.2.2.1 bt381.2.2.2.2.2.2.1 bt381.2.2.2.2.2.2.2.1 bt381.2.2.2.2.2.2.2.2 bt404.1 bt404.2.1 bt404.2.2.1 bt404.2.2.2.1 bt404.2.2.2.2.1 bt404.2.2.2.2.2.1 bt404.2.2.2.2.2.2.1 bt404.2.2.2.2.2.2.2.1 bt404.2.2.2.2.2.2.2.2).bind fun t417 => (if t417 = true then (some true) else (some false)))) else (some false)))) else (some false)))) else (some false))))))) = some r := H
 have A30 := AM_ A300
 clear A300
 replace H := Option.bind_eq_some_iff.mp H
 obtain ⟨t373, A310, H⟩ := H
 replace H : ((laws_toStore.f k l0_0).bind fun t374 => ((laws_toLockS.f k l1).bind fun t378 => ((laws_toTransaction.f k a2_0 a2_1 a2_2 a2_3 a2_4 a2_5 a2_6 l2_7 l2_8).bind fun bt381 => ((impl_WriteCode.f k t374 t378 bt381.1 bt381.2.1 bt381.2.2.1 bt381.2.2.2.1 bt381.2.2.2.2.1 bt381.2.2.2.2.2.1 bt381.2.2.2.2.2.2.1 bt381.2.2.2.2.2.2.2.1 bt381.2.2.2.2.2.2.2.2 a3).bind fun t395 => (if t395 = t373 then ((laws_toStore.f k l0_0).bind fun t396 => ((laws_eqStore.f k t374 t396).bind fun t399 => (if t399 = true then ((laws_toLockS.f k l1).bind fun t400 => ((laws_eqLockS.f k t378 t400).bind fun t403 => (if t403 = true then ((laws_toTransaction.f k a2_0 a2_1 a2_2 a2_3 a2_4 a2_5 a2_6 l2_7 l2_8).bind fun bt404 => ((laws_eqTransaction.f k bt381.1 bt381.2.1 bt381.2.2.1 bt381.2.2.2.1 bt381.2.2.2.2.1 bt381.2.2.2.2.2.1 bt381.2.2.2.2.2.2.1 bt381.2.2.2.2.2.2.2.1 bt381.2.2.2.2.2.2.2.2 bt404.1 bt404.2.1 bt404.2.2.1 bt404.2.2.2.1 bt404.2.2.2.2.1 bt404.2.2.2.2.2.1 bt404.2.2.2.2.2.2.1 bt404.2.2.2.2.2.2.2.1 bt404.2.2.2.2.2.2.2.2).bind fun t417 => (if t417 = true then (some true) else (some false)))) else (some false)))) else (some false)))) else (some false)))))) = some r := H
 have A31 := AM_ A310
 clear A310
 replace H := Option.bind_eq_some_iff.mp H
 obtain ⟨t374, A320, H⟩ := H
 replace H : ((laws_toLockS.f k l1).bind fun t378 => ((laws_toTransaction.f k a2_0 a2_1 a2_2 a2_3 a2_4 a2_5 a2_6 l2_7 l2_8).bind fun bt381 => ((impl_WriteCode.f k t374 t378 bt381.1 bt381.2.1 bt381.2.2.1 bt381.2.2.2.1 bt381.2.2.2.2.1 bt381.2.2.2.2.2.1 bt381.2.2.2.2.2.2.1 bt381.2.2.2.2.2.2.2.1 bt381.2.2.2.2.2.2.2.2 a3).bind fun t395 => (if t395 = t373 then ((laws_toStore.f k l0_0).bind fun t396 => ((laws_eqStore.f k t374 t396).bind fun t399 => (if t399 = true then ((laws_toLockS.f k l1).bind fun t400 => ((laws_eqLockS.f k t378 t400).bind fun t403 => (if t403 = true then ((laws_toTransaction.f k a2_0 a2_1 a2_2 a2_3 a2_4 a2_5 a2_6 l2_7 l2_8).bind fun bt404 => ((laws_eqTransaction.f k bt381.1 bt381.2.1 bt381.2.2.1 bt381.2.2.2.1 bt381.2.2.2.2.1 bt381.2.2.2.2.2.1 bt381.2.2.2.2.2.2.1 bt381.2.2.2.2.2.2.2.1 bt381.2.2.2.2.2.2.2.2 bt404.1 bt404.2.1 bt404.2.2.1 bt404.2.2.2.1 bt404.2.2.2.2.1 bt404.2.2.2.2.2.1 bt404.2.2.2.2.2.2.1 bt404.2.2.2.2.2.2.2.1 bt404.2.2.2.2.2.2.2.2).bind fun t417 => (if t417 = true then (some true) else (some false)))) else (some false)))) else (some false)))) else (some false))))) = some r := H
 have A32 := AM_ A320
 clear A320
 replace H := Option.bind_eq_some_iff.mp H
 obtain ⟨t378, A330, H⟩ := H
 replace H : ((laws_toTransaction.f k a2_0 a2_1 a2_2 a2_3 a2_4 a2_5 a2_6 l2_7 l2_8).bind fun bt381 => ((impl_WriteCode.f k t374 t378 bt381.1 bt381.2.1 bt381.2.2.1 bt381.2.2.2.1 bt381.2.2.2.2.1 bt381.2.2.2.2.2.1 bt381.2.2.2.2.2.2.1 bt381.2.2.2.2.2.2.2.1 bt381.2.2.2.2.2.2.2.2 a3).bind fun t395 => (if t395 = t373 then ((laws_toStore.f k l0_0).bind fun t396 => ((laws_eqStore.f k t374 t396).bind fun t399 => (if t399 = true then ((laws_toLockS.f k l1).bind fun t400 => ((laws_eqLockS.f k t378 t400).bind fun t403 => (if t403 = true then ((laws_toTransaction.f k a2_0 a2_1 a2_2 a2_3 a2_4 a2_5 a2_6 l2_7 l2_8).bind fun bt404 => ((laws_eqTransaction.f k bt381.1 bt381.2.1 bt381.2.2.1 bt381.2.2.2.1 bt381.2.2.2.2.1 bt381.2.2.2.2.2.1 bt381.2.2.2.2.2.2.1 bt381.2.2.2.2.2.2.2.1 bt381.2.2.2.2.2.2.2.2 bt404.1 bt404.2.1 bt404.2.2.1 bt404.2.2.2.1 bt404.2.2.2.2.1 bt404.2.2.2.2.2.1 bt404.2.2.2.2.2.2.1 bt404.2.2.2.2.2.2.2.1 bt404.2.2.2.2.2.2.2.2).bind fun t417 => (if t417 = true then (some true) else (some false)))) else (some false)))) else (some false)))) else (some false)))) = some r := H
 have A33 := AM_ A330
 clear A330
 replace H := Option.bind_eq_some_iff.mp H
 obtain ⟨⟨t381, t382, t383, t384, t385, t386, t387, t388, t391⟩, A340, H⟩ := H
 replace H : ((impl_WriteCode.f k t374 t378 t381 t382 t383 t384 t385 t386 t387 t388 t391 a3).bind fun t395 => (if t395 = t373 then ((laws_toStore.f k l0_0).bind fun t396 => ((laws_eqStore.f k t374 t396).bind fun t399 => (if t399 = true then ((laws_toLockS.f k l1).bind fun t400 => ((laws_eqLockS.f k t378 t400).bind fun t403 => (if t403 = true then ((laws_toTransaction.f k a2_0 a2_1 a2_2 a2_3 a2_4 a2_5 a2_6 l2_7 l2_8).bind fun bt404 => ((laws_eqTransaction.f k t381 t382 t383 t384 t385 t386 t387 t388 t391 bt404.1 bt404.2.1 bt404.2.2.1 bt404.2.2.2.1 bt404.2.2.2.2.1 bt404.2.2.2.2.2.1 bt404.2.2.2.2.2.2.1 bt404.2.2.2.2.2.2.2.1 bt404.2.2.2.2.2.2.2.2).bind fun t417 => (if t417 = true then (some true) else (some false)))) else (some false)))) else (some false)))) else (some false))) = some r := H
 have A34 := AM_ A340
 clear A340
 replace H := Option.bind_eq_some_iff.mp H
 obtain ⟨t395, A350, H⟩ := H
 replace H : (if t395 = t373 then ((laws_toStore.f k l0_0).bind fun t396 => ((laws_eqStore.f k t374 t396).bind fun t399 => (if t399 = true then ((laws_toLockS.f k l1).bind fun t400 => ((laws_eqLockS.f k t378 t400).bind fun t403 => (if t403 = true then ((laws_toTransaction.f k a2_0 a2_1 a2_2 a2_3 a2_4 a2_5 a2_6 l2_7 l2_8).bind fun bt404 => ((laws_eqTransaction.f k t381 t382 t383 t384 t385 t386 t387 t388 t391 bt404.1 bt404.2.1 bt404.2.2.1 bt404.2.2.2.1 bt404.2.2.2.2.1 bt404.2.2.2.2.2.1 bt404.2.2.2.2.2.2.1 bt404.2.2.2.2.2.2.2.1 bt404.2.2.2.2.2.2.2.2).bind fun t417 => (if t417 = true then (some true) else (some false)))) else (some false)))) else (some false)))) else (some false)) = some r := H
 have A35 := AM_ A350
 clear A350
 go_enter Try.func10, Try.ntmps10
 try go_wp2_with (first | ((with_reducible refine gate_dst (N := 4) rfl ?_); refine box_event ?hg (N := 4) ?hd (cs := #[.slice A0_0 l0_0.length c0_0]) (t := 39) ?hr ?_; (case hd => rfl); (case hg => rfl); (case hr => first | (go_simp; done) | (go_simp; rfl)); intro gb349 hg w225 hbox hb; have BK349 := AM_ (hbox); have GW349 := AM_ ((GS HB.out hg)); have GE349 := AM_ ((GS HB.out hg)); replace HB := AM_ (below_step (BT HB.out) hb); clear hb hbox hg) | ((with_reducible refine gate_dst (N := 6) rfl ?_); refine box_event ?hg (N := 6) ?hd (cs := #[.int .i64 a2_0, .int .i64 a2_1, .int .i64 a2_2, .int .i64 a2_3, .int .i64 a2_4, .int .i64 a2_5, .int .i64 a2_6, .slice A2_7 l2_7.length c2_7, .slice A2_8 l2_8.length c2_8]) (t := 60) ?hr ?_; (case hd => rfl); (case hg => rfl); (case hr => first | (go_simp; done) | (go_simp; rfl)); intro gb350 hg w226 hbox hb; have BK350 := AM_ (hbox); have GW350 := AM_ ((GS HB.out hg)); have GE350 := AM_ ((GS HB.out hg)); replace HB := AM_ (below_step (BT HB.out) hb); have NB349_350 := AM_ ((NL BK349.out hg)); have NB350_349 := AM_ ((NG BK349.out hg)); replace BK349 := AM_ (BB BK349.out hb); clear hb hbox hg; have hnb227 := NB349_350.out; have hnc227 := NB350_349.out; obtain ⟨hcz228_0, hfz228_0⟩ := bk1 BK349.out) | ((with_reducible refine gate_callee (f := 32) rfl ?_); refine goesL_ (some 17) rfl rfl Try.func32 (by kernel_rfl) rfl #[.agg #[.slice A0_0 l0_0.length c0_0], .int .i64 1048576] rfl (by (try simp only [List.map_toArray, List.map_cons, List.map_nil]); first | done | rfl | (simp only [List.length_drop, List.length_take]; rfl)) ?_; (with_reducible refine (laws_szStore.calls k _ _ l0_0 1048576 t351 _ ?side1 ?side2 A5.out).mono ?_); (case side1 => exact CB HR0_0.out HB.out); (case side2 => exact HC0_0.out); rintro e w229 ⟨rfl, hb⟩; refine ⟨_, rfl, ?_⟩; replace BK349 := AM_ (BB BK349.out hb); replace BK350 := AM_ (BB BK350.out hb); replace HB := AM_ (below_step (BT HB.out) hb); (try clear hb); (try clear hb2); (try clear hk); (try clear hi)) | ((with_reducible refine gate_callee (f := 56) rfl ?_); refine goesL_ (some 22) rfl rfl Try.func56 (by kernel_rfl) rfl #[.slice A1 l1.length c1, .int .i64 t351] rfl (by (try simp only [List.map_toArray, List.map_cons, List.map_nil]); first | done | rfl | (simp only [List.length_drop, List.length_take]; rfl)) ?_; (with_reducible refine (laws_szLockS.calls _ _ l1 t351 t352 _ ?side1 ?side2 A12.out).mono ?_); (case side1 => exact CB HR1.out HB.out); (case side2 => exact HC1.out); rintro e w' ⟨rfl, ⟨nd, rfl⟩⟩; refine ⟨_, rfl, ?_⟩; (try (rw [drewN_self w229]; generalize hq_ : World.drewN w229 _ = w229; have n0_ : Aside0 (w229.heap[gb349]? = some (.cells #[.slice A0_0 l0_0.length c0_0] 39 (0, 0))) := ⟨by rw [← hq_]; exact (by (with_reducible repeat (first | refine blk_drewN ?_ _ | refine blk_drew ?_ | refine blk_alloc ?_ _)); exact BK349.out)⟩; have n1_ : Aside0 (w229.heap[gb350]? = some (.cells #[.int .i64 a2_0, .int .i64 a2_1, .int .i64 a2_2, .int .i64 a2_3, .int .i64 a2_4, .int .i64 a2_5, .int .i64 a2_6, .slice A2_7 l2_7.length c2_7, .slice A2_8 l2_8.length c2_8] 60 (0, 0))) := ⟨by rw [← hq_]; exact (by (with_reducible repeat (first | refine blk_drewN ?_ _ | refine blk_drew ?_ | refine blk_alloc ?_ _)); exact BK350.out)⟩; have n2_ : Aside0 (Below w.heap.size w w229) := ⟨by rw [← hq_]; exact (BT HB.out)⟩; clear BK349 BK350 HB hq_; have BK349 := n0_; have BK350 := n1_; have HB := n2_; clear n0_ n1_ n2_)); obtain ⟨hcz230_0, hcz230_1, hcz230_2, hcz230_3, hcz230_4, hcz230_5, hcz230_6, hcz230_7, hcz230_8, hfz230_0, hfz230_1, hfz230_2, hfz230_3, hfz230_4, hfz230_5, hfz230_6, hfz230_7, hfz230_8⟩ := bk9 BK350.out) | ((with_reducible refine gate_callee (f := 33) rfl ?_); refine goesL_ (some 27) rfl rfl Try.func33 (by kernel_rfl) rfl #[.agg #[.int .i64 a2_0, .int .i64 a2_1, .int .i64 a2_2, .int .i64 a2_3, .int .i64 a2_4, .int .i64 a2_5, .int .i64 a2_6, .slice A2_7 l2_7.length c2_7, .slice A2_8 l2_8.length c2_8], .int .i64 t352] rfl (by (try simp only [List.map_toArray, List.map_cons, List.map_nil]); first | done | rfl | (simp only [List.length_drop, List.length_take]; rfl)) ?_; (with_reducible refine (laws_szTransaction.calls a2_0 a2_1 a2_2 a2_3 a2_4 a2_5 a2_6 _ _ l2_7 _ _ l2_8 t352 t353 _ ?side1 ?side2 ?side3 ?side4 A19.out).mono ?_); (case side1 => exact CB HR2_7.out HB.out); (case side2 => exact HC2_7.out); (case side3 => exact CB HR2_8.out HB.out); (case side4 => exact HC2_8.out); rintro e w231 ⟨rfl, hb⟩; refine ⟨_, rfl, ?_⟩; replace BK349 := AM_ (BB BK349.out hb); replace BK350 := AM_ (BB BK350.out hb); replace HB := AM_ (below_step (BT HB.out) hb); (try clear hb); (try clear hb2); (try clear hk); (try clear hi)))
 replace BK349 := AM_ (blk_drew BK349.out)
 replace BK350 := AM_ (blk_drew BK350.out)
 replace HB := AM_ (below_drew1 HB.out)
 refine start_ (n := 9) (S := fun w' => w'.cell? ⟨gb349, 0, none⟩ = some (.slice A0_0 l0_0.length c0_0) ∧ w'.cell? ⟨gb350, 0, none⟩ = some (.int .i64 a2_0) ∧ w'.cell? ⟨gb350, 1, none⟩ = some (.int .i64 a2_1) ∧ w'.cell? ⟨gb350, 2, none⟩ = some (.int .i64 a2_2) ∧ w'.cell? ⟨gb350, 3, none⟩ = some (.int .i64 a2_3) ∧ w'.cell? ⟨gb350, 4, none⟩ = some (.int .i64 a2_4) ∧ w'.cell? ⟨gb350, 5, none⟩ = some (.int .i64 a2_5) ∧ w'.cell? ⟨gb350, 6, none⟩ = some (.int .i64 a2_6) ∧ w'.cell? ⟨gb350, 7, none⟩ = some (.slice A2_7 l2_7.length c2_7) ∧ w'.cell? ⟨gb350, 8, none⟩ = some (.slice A2_8 l2_8.length c2_8)) (ds := []) (bs 0 9) (by kernel_rfl) rfl rfl ⟨bc BK349.out 0, bc BK350.out 0, bc BK350.out 1, bc BK350.out 2, bc BK350.out 3, bc BK350.out 4, bc BK350.out 5, bc BK350.out 6, bc BK350.out 7, bc BK350.out 8⟩ (fun hHeld => ?_); refine with_tabW laws_FnExactWriteCode.tab11 laws_FnExactWriteCode.bits11 (fun HT_ HW_ => ?_)
 generalize w231.drew = w232 at BK349 BK350 HB hHeld ⊢
 refine pu (i := 2) (N := some 32) (v := ?_) (a' := ?_) (bs 4 9) rfl rfl HT_ ?_ ?_ ?_
 rotate_left
 ·intro w'
  go_simp
  with_reducible rfl
 rotate_left
 ·simp only [pA, pS, pZ, pK, i64_w, i32_w]
  rfl
 refine pu (i := 6) (N := some 36) (v := ?_) (a' := ?_) (bs 68 9) rfl rfl HT_ ?_ ?_ ?_
 rotate_left
 ·intro w'
  go_simp
  with_reducible rfl
 rotate_left
 ·simp only [pA, pS, pZ, pK, i64_w, i32_w]
  rfl
 refine tk (i := 0) (N := some 30) (v := ?_) (a' := ?_) (bs 69 9) rfl rfl HT_ HW_ ?_ hHeld ?_ ?_
 rotate_left
 ·rintro w' ⟨s0, s1, s2, s3, s4, s5, s6, s7, s8, s9⟩
  go_simp
  with_reducible rfl
 rotate_left
 ·simp only [pA, pS, pZ, pK, i64_w, i32_w]
  rfl
 refine tk (i := 4) (N := some 34) (v := ?_) (a' := ?_) (bs 85 9) rfl rfl HT_ HW_ ?_ hHeld ?_ ?_
 rotate_left
 ·rintro w' ⟨s0, s1, s2, s3, s4, s5, s6, s7, s8, s9⟩
  go_simp
  with_reducible rfl
 rotate_left
 ·simp only [pA, pS, pZ, pK, i64_w, i32_w]
  rfl
 refine one_ (i := 1) (N := some 31) (bs 87 9) rfl rfl (one_of HT_.out (by kernel_rfl)) (by decide) (fun K hK => ?_)
 refine goes_ Try.func35 (by kernel_rfl) rfl #[.agg #[.slice A0_0 l0_0.length c0_0]] (by rfl) rfl rfl (by (try simp only [List.map_toArray, List.map_cons, List.map_nil]); first | done | rfl | (simp only [List.length_drop, List.length_take]; rfl)) ?_
 with_reducible refine (laws_toStore.calls k _ _ l0_0 t354 _ ?side1 ?side2 A28.out).mono ?_
 (case side1 => exact CB HR0_0.out HB.out)
 (case side2 => exact HC0_0.out)
 rintro e w233 ⟨v355, rfl, ho0, hb⟩
 refine ⟨_, rfl, ?_⟩
 have HO356 := AM_ (Kd.S_lower ho0 (below_size (BT HB.out)))
 replace BK349 := AM_ (BB BK349.out hb)
 replace BK350 := AM_ (BB BK350.out hb)
 replace HB := AM_ (below_step (BT HB.out) hb)
 (try clear hb)
 (try clear hb2)
 (try clear hk)
 (try clear hi)
 (try clear ho0)
 refine hK.out _ _ ⟨bc BK349.out 0, bc BK350.out 0, bc BK350.out 1, bc BK350.out 2, bc BK350.out 3, bc BK350.out 4, bc BK350.out 5, bc BK350.out 6, bc BK350.out 7, bc BK350.out 8⟩ (fun hHeld => ?_)
 clear hK K
 refine norm_ (a' := ?_) ?_ ?_
 rotate_left
 ·show Act.put _ (some 31) _ = _
  simp only [pA, pS, pZ, pK, i64_w, i32_w]
  rfl
 refine one_ (i := 3) (N := some 33) (bs 95 9) rfl rfl (one_of HT_.out (by kernel_rfl)) (by decide) (fun K hK => ?_)
 refine goes_ Try.func57 (by kernel_rfl) rfl #[.slice A1 l1.length c1] (by rfl) rfl rfl (by (try simp only [List.map_toArray, List.map_cons, List.map_nil]); first | done | rfl | (simp only [List.length_drop, List.length_take]; rfl)) ?_
 with_reducible refine (laws_toLockS.calls k _ _ l1 t357 _ ?side1 ?side2 A29.out).mono ?_
 (case side1 => exact CB HR1.out HB.out)
 (case side2 => exact HC1.out)
 rintro e w234 ⟨v358, rfl, ho0, hb⟩
 refine ⟨_, rfl, ?_⟩
 replace HO356 := AM_ (Kd.S_below (ST HO356.out) hb)
 have HO359 := AM_ (Kd.R_lower ho0 (below_size (BT HB.out)))
 replace BK349 := AM_ (BB BK349.out hb)
 replace BK350 := AM_ (BB BK350.out hb)
 replace HB := AM_ (below_step (BT HB.out) hb)
 (try clear hb)
 (try clear hb2)
 (try clear hk)
 (try clear hi)
 (try clear ho0)
 refine hK.out _ _ ⟨bc BK349.out 0, bc BK350.out 0, bc BK350.out 1, bc BK350.out 2, bc BK350.out 3, bc BK350.out 4, bc BK350.out 5, bc BK350.out 6, bc BK350.out 7, bc BK350.out 8⟩ (fun hHeld => ?_)
 clear hK K
 refine norm_ (a' := ?_) ?_ ?_
 rotate_left
 ·show Act.put _ (some 33) _ = _
  simp only [pA, pS, pZ, pK, i64_w, i32_w]
  rfl
 refine one_ (i := 5) (N := some 35) (bs 127 9) rfl rfl (one_of HT_.out (by kernel_rfl)) (by decide) (fun K hK => ?_)
 refine goes_ Try.func36 (by kernel_rfl) rfl #[.agg #[.int .i64 a2_0, .int .i64 a2_1, .int .i64 a2_2, .int .i64 a2_3, .int .i64 a2_4, .int .i64 a2_5, .int .i64 a2_6, .slice A2_7 l2_7.length c2_7, .slice A2_8 l2_8.length c2_8]] (by rfl) rfl rfl (by (try simp only [List.map_toArray, List.map_cons, List.map_nil]); first | done | rfl | (simp only [List.length_drop, List.length_take]; rfl)) ?_
 with_reducible refine (laws_toTransaction.calls k a2_0 a2_1 a2_2 a2_3 a2_4 a2_5 a2_6 _ _ l2_7 _ _ l2_8 t360 t361 t362 t363 t364 t365 t366 t367 t370 _ ?side1 ?side2 ?side3 ?side4 A30.out).mono ?_
 (case side1 => exact CB HR2_7.out HB.out)
 (case side2 => exact HC2_7.out)
 (case side3 => exact CB HR2_8.out HB.out)
 (case side4 => exact HC2_8.out)
 rintro e w235 ⟨v368, v371, rfl, ho0, ho1, hb⟩
 refine ⟨_, rfl, ?_⟩
 replace HO356 := AM_ (Kd.S_below (ST HO356.out) hb)
 replace HO359 := AM_ (Kd.R_below (RT HO359.out) hb)
 have HO369 := AM_ (Kd.R_lower ho0 (below_size (BT HB.out)))
 have HO372 := AM_ (Kd.R_lower ho1 (below_size (BT HB.out)))
 replace BK349 := AM_ (BB BK349.out hb)
 replace BK350 := AM_ (BB BK350.out hb)
 replace HB := AM_ (below_step (BT HB.out) hb)
 (try clear hb)
 (try clear hb2)
 (try clear hk)
 (try clear hi)
 (try clear ho0)
 (try clear ho1)
 obtain ⟨Ao236, co236, eo236⟩ := Kd.S_slice HO356.out
 (first | subst eo236 | (injection eo236 with f1_ f2_ f3_; have f4_ := f1_.symm; have f5_ := f3_.symm; clear f1_ f2_ f3_; subst f4_; subst f5_))
 obtain ⟨Ao237, co237, eo237⟩ := Kd.R_slice HO359.out
 (first | subst eo237 | (injection eo237 with f1_ f2_ f3_; have f4_ := f1_.symm; have f5_ := f3_.symm; clear f1_ f2_ f3_; subst f4_; subst f5_))
 obtain ⟨Ao238, co238, eo238⟩ := Kd.R_slice HO369.out
 (first | subst eo238 | (injection eo238 with f1_ f2_ f3_; have f4_ := f1_.symm; have f5_ := f3_.symm; clear f1_ f2_ f3_; subst f4_; subst f5_))
 obtain ⟨Ao239, co239, eo239⟩ := Kd.R_slice HO372.out
 (first | subst eo239 | (injection eo239 with f1_ f2_ f3_; have f4_ := f1_.symm; have f5_ := f3_.symm; clear f1_ f2_ f3_; subst f4_; subst f5_))
 refine hK.out _ _ ⟨bc BK349.out 0, bc BK350.out 0, bc BK350.out 1, bc BK350.out 2, bc BK350.out 3, bc BK350.out 4, bc BK350.out 5, bc BK350.out 6, bc BK350.out 7, bc BK350.out 8⟩ (fun hHeld => ?_)
 clear hK K
 refine norm_ (a' := ?_) ?_ ?_
 rotate_left
 ·show Act.put _ (some 35) _ = _
  simp only [pA, pS, pZ, pK, i64_w, i32_w]
  rfl
 refine one_ (i := 7) (N := some 37) (bs 255 9) rfl rfl (one_of HT_.out (by kernel_rfl)) (by decide) (fun K hK => ?_)
 refine goes_ Try.func53 (by kernel_rfl) rfl #[.agg #[.slice Ao236 t354.length co236], .slice Ao237 t357.length co237, .agg #[.int .i64 t360, .int .i64 t361, .int .i64 t362, .int .i64 t363, .int .i64 t364, .int .i64 t365, .int .i64 t366, .slice Ao238 t367.length co238, .slice Ao239 t370.length co239], .int .i64 a3] (by rfl) rfl rfl (by (try simp only [List.map_toArray, List.map_cons, List.map_nil]); first | done | rfl | (simp only [List.length_drop, List.length_take]; rfl)) ?_
 with_reducible refine (spec_WriteCode.calls k _ _ t354 _ _ t357 t360 t361 t362 t363 t364 t365 t366 _ _ t367 _ _ t370 a3 t373 _ ?side1 ?side2 ?side3 ?side4 ?side5 ?side6 ?side7 ?side8 A31.out).mono ?_
 (case side1 => exact Kd.C_below (Kd.S_reads' HO356.out).2.2 (BL (Below.refl _ _) rfl rfl rfl rfl))
 (case side2 => exact (Kd.S_reads' HO356.out).2.1)
 (case side3 => exact Kd.C_below (Kd.R_reads' HO359.out).2.2 (BL (Below.refl _ _) rfl rfl rfl rfl))
 (case side4 => exact (Kd.R_reads' HO359.out).2.1)
 (case side5 => exact Kd.C_below (Kd.R_reads' HO369.out).2.2 (BL (Below.refl _ _) rfl rfl rfl rfl))
 (case side6 => exact (Kd.R_reads' HO369.out).2.1)
 (case side7 => exact Kd.C_below (Kd.R_reads' HO372.out).2.2 (BL (Below.refl _ _) rfl rfl rfl rfl))
 (case side8 => exact (Kd.R_reads' HO372.out).2.1)
 rintro e w240 ⟨rfl, hb⟩
 refine ⟨_, rfl, ?_⟩
 replace HO356 := AM_ (Kd.S_below (ST HO356.out) hb)
 replace HO359 := AM_ (Kd.R_below (RT HO359.out) hb)
 replace HO369 := AM_ (Kd.R_below (RT HO369.out) hb)
 replace HO372 := AM_ (Kd.R_below (RT HO372.out) hb)
 replace BK349 := AM_ (BB BK349.out hb)
 replace BK350 := AM_ (BB BK350.out hb)
 replace HB := AM_ (below_step (BT HB.out) hb)
 (try clear hb)
 (try clear hb2)
 (try clear hk)
 (try clear hi)
 refine hK.out _ _ ⟨bc BK349.out 0, bc BK350.out 0, bc BK350.out 1, bc BK350.out 2, bc BK350.out 3, bc BK350.out 4, bc BK350.out 5, bc BK350.out 6, bc BK350.out 7, bc BK350.out 8⟩ (fun hHeld => ?_)
 clear hK K
 refine norm_ (a' := ?_) ?_ ?_
 rotate_left
 ·show Act.put _ (some 37) _ = _
  simp only [pA, pS, pZ, pK, i64_w, i32_w]
  rfl
 refine pu (i := 8) (N := some 10) (v := ?_) (a' := ?_) (bs 511 9) rfl rfl HT_ ?_ ?_ ?_
 rotate_left
 ·intro w'
  go_simp
  with_reducible rfl
 rotate_left
 ·simp only [pA, pS, pZ, pK, i64_w, i32_w]
  rfl
 refine done_ (done_of HT_.out (by kernel_rfl)) ?_
 obtain ⟨hcz241_0, hfz241_0⟩ := bk1 BK349.out
 go_upto_region 16 with (first | ((with_reducible refine gate_callee (f := 35) rfl ?_); refine goesL_ (some 39) rfl rfl Try.func35 (by kernel_rfl) rfl #[.agg #[.slice A0_0 l0_0.length c0_0]] rfl (by (try simp only [List.map_toArray, List.map_cons, List.map_nil]); first | done | rfl | (simp only [List.length_drop, List.length_take]; rfl)) ?_; (with_reducible refine (laws_toStore.calls k _ _ l0_0 t374 _ ?side1 ?side2 A32.out).mono ?_); (case side1 => exact CB HR0_0.out HB.out); (case side2 => exact HC0_0.out); rintro e w242 ⟨v375, rfl, ho0, hb⟩; refine ⟨_, rfl, ?_⟩; replace HO359 := AM_ (Kd.R_below (RT HO359.out) hb); replace HO369 := AM_ (Kd.R_below (RT HO369.out) hb); replace HO372 := AM_ (Kd.R_below (RT HO372.out) hb); have HO376 := AM_ (Kd.S_lower (Kd.S_new' ho0 (Kd.S_lt (ST HO356.out))) (below_size (BT HB.out))); replace HO356 := AM_ (Kd.S_elder' (ST HO356.out) (Kd.S_base ho0) hb); replace BK349 := AM_ (BB BK349.out hb); replace BK350 := AM_ (BB BK350.out hb); replace HB := AM_ (below_step (BT HB.out) hb); (try clear hb); (try clear hb2); (try clear hk); (try clear hi); (try clear ho0)) | ((with_reducible refine gate_dst (N := 11) rfl ?_); refine box_event ?hg (N := 11) ?hd (cs := #[.slice none 0 0]) (t := 49) ?hr ?_; (case hd => rfl); (case hg => rfl); (case hr => first | (go_simp; done) | (go_simp; rfl)); intro gb377 hg w243 hbox hb; replace HO356 := AM_ (Kd.S_below (ST HO356.out) hb); replace HO359 := AM_ (Kd.R_below (RT HO359.out) hb); replace HO369 := AM_ (Kd.R_below (RT HO369.out) hb); replace HO372 := AM_ (Kd.R_below (RT HO372.out) hb); replace HO376 := AM_ (Kd.S_below (ST HO376.out) hb); have BK377 := AM_ (hbox); have GW377 := AM_ ((GS HB.out hg)); have GE377 := AM_ ((GS HB.out hg)); replace HB := AM_ (below_step (BT HB.out) hb); have NB349_377 := AM_ ((NL BK349.out hg)); have NB377_349 := AM_ ((NG BK349.out hg)); replace BK349 := AM_ (BB BK349.out hb); have NB350_377 := AM_ ((NL BK350.out hg)); have NB377_350 := AM_ ((NG BK350.out hg)); replace BK350 := AM_ (BB BK350.out hb); clear hb hbox hg; obtain ⟨Ao244, co244, eo244⟩ := Kd.S_slice HO376.out; subst eo244; have hnb245 := NB377_349.out; have hnc245 := NB349_377.out; have hnb246 := NB377_350.out; have hnc246 := NB350_377.out; obtain ⟨hcz247_0, hfz247_0⟩ := bk1 BK377.out) | ((with_reducible refine gate_callee (f := 57) rfl ?_); refine goesL_ (some 41) rfl rfl Try.func57 (by kernel_rfl) rfl #[.slice A1 l1.length c1] rfl (by (try simp only [List.map_toArray, List.map_cons, List.map_nil]); first | done | rfl | (simp only [List.length_drop, List.length_take]; rfl)) ?_; (with_reducible refine (laws_toLockS.calls k _ _ l1 t378 _ ?side1 ?side2 A33.out).mono ?_); (case side1 => exact Kd.C_below HR1.out (BT HB.out)); (case side2 => exact HC1.out); rintro e w248 ⟨v379, rfl, ho0, hb⟩; refine ⟨_, rfl, ?_⟩; replace HO356 := AM_ (Kd.S_below (SF HO356.out BK377.out) hb); replace HO369 := AM_ (Kd.R_below (RF HO369.out BK377.out) hb); replace HO372 := AM_ (Kd.R_below (RF HO372.out BK377.out) hb); replace HO376 := AM_ (Kd.S_below (SF HO376.out BK377.out) hb); have HO380 := AM_ (Kd.R_lower (Kd.R_new' ho0 (Kd.R_lt (RF HO359.out BK377.out))) (below_size (BT HB.out))); replace HO359 := AM_ (Kd.R_elder' (RF HO359.out BK377.out) (Kd.R_base ho0) hb); replace BK349 := AM_ (BF BK349.out NB349_377.out hb); replace BK350 := AM_ (BF BK350.out NB350_377.out hb); replace BK377 := AM_ (BP #[.slice Ao244 t374.length co244] BK377.out hb); replace HB := AM_ (below_step (BT HB.out) hb); (try clear hb); (try clear hb2); (try clear hk); (try clear hi); (try clear ho0); obtain ⟨hcz249_0, hcz249_1, hcz249_2, hcz249_3, hcz249_4, hcz249_5, hcz249_6, hcz249_7, hcz249_8, hfz249_0, hfz249_1, hfz249_2, hfz249_3, hfz249_4, hfz249_5, hfz249_6, hfz249_7, hfz249_8⟩ := bk9 BK350.out) | ((with_reducible refine gate_callee (f := 36) rfl ?_); refine goesL_ (some 43) rfl rfl Try.func36 (by kernel_rfl) rfl #[.agg #[.int .i64 a2_0, .int .i64 a2_1, .int .i64 a2_2, .int .i64 a2_3, .int .i64 a2_4, .int .i64 a2_5, .int .i64 a2_6, .slice A2_7 l2_7.length c2_7, .slice A2_8 l2_8.length c2_8]] rfl (by (try simp only [List.map_toArray, List.map_cons, List.map_nil]); first | done | rfl | (simp only [List.length_drop, List.length_take]; rfl)) ?_; (with_reducible refine (laws_toTransaction.calls k a2_0 a2_1 a2_2 a2_3 a2_4 a2_5 a2_6 _ _ l2_7 _ _ l2_8 t381 t382 t383 t384 t385 t386 t387 t388 t391 _ ?side1 ?side2 ?side3 ?side4 A34.out).mono ?_); (case side1 => exact CB HR2_7.out HB.out); (case side2 => exact HC2_7.out); (case side3 => exact CB HR2_8.out HB.out); (case side4 => exact HC2_8.out); rintro e w250 ⟨v389, v392, rfl, ho0, ho1, hb⟩; refine ⟨_, rfl, ?_⟩; replace HO356 := AM_ (Kd.S_below (ST HO356.out) hb); replace HO359 := AM_ (Kd.R_below (RT HO359.out) hb); replace HO376 := AM_ (Kd.S_below (ST HO376.out) hb); replace HO380 := AM_ (Kd.R_below (RT HO380.out) hb); have HO390 := AM_ (Kd.R_lower (Kd.R_new' ho0 (Kd.R_lt (RT HO369.out))) (below_size (BT HB.out))); replace HO369 := AM_ (Kd.R_elder' (RT HO369.out) (Kd.R_base ho0) hb); have HO393 := AM_ (Kd.R_lower (Kd.R_new' ho1 (Kd.R_lt (RT HO372.out))) (below_size (BT HB.out))); replace HO372 := AM_ (Kd.R_elder' (RT HO372.out) (Kd.R_base ho1) hb); replace BK349 := AM_ (BB BK349.out hb); replace BK350 := AM_ (BB BK350.out hb); replace BK377 := AM_ (BB BK377.out hb); replace HB := AM_ (below_step (BT HB.out) hb); (try clear hb); (try clear hb2); (try clear hk); (try clear hi); (try clear ho0); (try clear ho1)) | ((with_reducible refine gate_dst (N := 13) rfl ?_); refine box_event ?hg (N := 13) ?hd (cs := #[.int .i64 0, .int .i64 0, .int .i64 0, .int .i64 0, .int .i64 0, .int .i64 0, .int .i64 0, .slice none 0 0, .slice none 0 0]) (t := 68) ?hr ?_; (case hd => rfl); (case hg => rfl); (case hr => first | (go_simp; done) | (go_simp; rfl)); intro gb394 hg w251 hbox hb; replace HO356 := AM_ (Kd.S_below (ST HO356.out) hb); replace HO359 := AM_ (Kd.R_below (RT HO359.out) hb); replace HO369 := AM_ (Kd.R_below (RT HO369.out) hb); replace HO372 := AM_ (Kd.R_below (RT HO372.out) hb); replace HO376 := AM_ (Kd.S_below (ST HO376.out) hb); replace HO380 := AM_ (Kd.R_below (RT HO380.out) hb); replace HO390 := AM_ (Kd.R_below (RT HO390.out) hb); replace HO393 := AM_ (Kd.R_below (RT HO393.out) hb); have BK394 := AM_ (hbox); have GW394 := AM_ ((GS HB.out hg)); have GE394 := AM_ ((GS HB.out hg)); replace HB := AM_ (below_step (BT HB.out) hb); have NB349_394 := AM_ ((NL BK349.out hg)); have NB394_349 := AM_ ((NG BK349.out hg)); replace BK349 := AM_ (BB BK349.out hb); have NB350_394 := AM_ ((NL BK350.out hg)); have NB394_350 := AM_ ((NG BK350.out hg)); replace BK350 := AM_ (BB BK350.out hb); have NB377_394 := AM_ ((NL BK377.out hg)); have NB394_377 := AM_ ((NG BK377.out hg)); replace BK377 := AM_ (BB BK377.out hb); clear hb hbox hg; have hnb252 := NB394_349.out; have hnc252 := NB349_394.out; have hnb253 := NB394_350.out; have hnc253 := NB350_394.out; have hnb254 := NB394_377.out; have hnc254 := NB377_394.out; obtain ⟨hcz255_0, hcz255_1, hcz255_2, hcz255_3, hcz255_4, hcz255_5, hcz255_6, hcz255_7, hcz255_8, hfz255_0, hfz255_1, hfz255_2, hfz255_3, hfz255_4, hfz255_5, hfz255_6, hfz255_7, hfz255_8⟩ := bk9 BK394.out; obtain ⟨Ao256, co256, eo256⟩ := Kd.R_slice HO390.out; subst eo256; obtain ⟨Ao257, co257, eo257⟩ := Kd.R_slice HO393.out; subst eo257; obtain ⟨hcz258_0, hfz258_0⟩ := bk1 BK377.out; obtain ⟨Ao259, co259, eo259⟩ := Kd.R_slice HO380.out; subst eo259) | ((with_reducible refine gate_callee (f := 52) rfl ?_); refine goesL_ (some 48) rfl rfl Try.func52 (by kernel_rfl) rfl #[.agg #[.slice Ao244 t374.length co244], .slice Ao259 t378.length co259, .agg #[.int .i64 t381, .int .i64 t382, .int .i64 t383, .int .i64 t384, .int .i64 t385, .int .i64 t386, .int .i64 t387, .slice Ao256 t388.length co256, .slice Ao257 t391.length co257], .int .i64 a3] rfl (by (try simp only [List.map_toArray, List.map_cons, List.map_nil]); first | done | rfl | (simp only [List.length_drop, List.length_take]; rfl)) ?_; (with_reducible refine (impl_WriteCode.calls k _ _ t374 _ _ t378 t381 t382 t383 t384 t385 t386 t387 _ _ t388 _ _ t391 a3 t395 _ ?side1 ?side2 ?side3 ?side4 ?side5 ?side6 ?side7 ?side8 A35.out).mono ?_); (case side1 => exact CG HO376.out BK394.out); (case side2 => exact (Kd.S_reads' HO376.out).2.1); (case side3 => exact CF HO380.out BK394.out); (case side4 => exact (Kd.R_reads' HO380.out).2.1); (case side5 => exact CF HO390.out BK394.out); (case side6 => exact (Kd.R_reads' HO390.out).2.1); (case side7 => exact CF HO393.out BK394.out); (case side8 => exact (Kd.R_reads' HO393.out).2.1); rintro e w260 ⟨rfl, hb⟩; refine ⟨_, rfl, ?_⟩; replace HO356 := AM_ (Kd.S_below (SF HO356.out BK394.out) hb); replace HO359 := AM_ (Kd.R_below (RF HO359.out BK394.out) hb); replace HO369 := AM_ (Kd.R_below (RF HO369.out BK394.out) hb); replace HO372 := AM_ (Kd.R_below (RF HO372.out BK394.out) hb); replace HO376 := AM_ (Kd.S_below (SF HO376.out BK394.out) hb); replace HO380 := AM_ (Kd.R_below (RF HO380.out BK394.out) hb); replace HO390 := AM_ (Kd.R_below (RF HO390.out BK394.out) hb); replace HO393 := AM_ (Kd.R_below (RF HO393.out BK394.out) hb); replace BK349 := AM_ (BF BK349.out NB349_394.out hb); replace BK350 := AM_ (BF BK350.out NB350_394.out hb); replace BK377 := AM_ (BF BK377.out NB377_394.out hb); replace BK394 := AM_ (BP #[.int .i64 t381, .int .i64 t382, .int .i64 t383, .int .i64 t384, .int .i64 t385, .int .i64 t386, .int .i64 t387, .slice Ao256 t388.length co256, .slice Ao257 t391.length co257] BK394.out hb); replace HB := AM_ (below_step (BT HB.out) hb); (try clear hb); (try clear hb2); (try clear hk); (try clear hi)))
 by_cases c36 : t395 = t373
 rotate_left
 ·rw [if_neg c36] at H
  have c36b0 : (t395 == t373) = false := beq_eq_false_iff_ne.mpr c36
  have c36b1 : (t395 != t373) = true := bne_iff_ne.mpr c36
  obtain rfl := Option.some.inj H
  try go_wp2
  go_ret
  exact QT (BT HB.out)
 rw [if_pos c36] at H
 have c36b0 : (t395 == t373) = true := beq_iff_eq.mpr c36
 have c36b1 : (t395 != t373) = false := bne_eq_false_iff_eq.mpr c36
 clear c36
 replace H := Option.bind_eq_some_iff.mp H
 obtain ⟨t396, A370, H⟩ := H
 replace H : ((laws_eqStore.f k t374 t396).bind fun t399 => (if t399 = true then ((laws_toLockS.f k l1).bind fun t400 => ((laws_eqLockS.f k t378 t400).bind fun t403 => (if t403 = true then ((laws_toTransaction.f k a2_0 a2_1 a2_2 a2_3 a2_4 a2_5 a2_6 l2_7 l2_8).bind fun bt404 => ((laws_eqTransaction.f k t381 t382 t383 t384 t385 t386 t387 t388 t391 bt404.1 bt404.2.1 bt404.2.2.1 bt404.2.2.2.1 bt404.2.2.2.2.1 bt404.2.2.2.2.2.1 bt404.2.2.2.2.2.2.1 bt404.2.2.2.2.2.2.2.1 bt404.2.2.2.2.2.2.2.2).bind fun t417 => (if t417 = true then (some true) else (some false)))) else (some false)))) else (some false))) = some r := H
 have A37 := AM_ A370
 clear A370
 replace H := Option.bind_eq_some_iff.mp H
 obtain ⟨t399, A380, H⟩ := H
 replace H : (if t399 = true then ((laws_toLockS.f k l1).bind fun t400 => ((laws_eqLockS.f k t378 t400).bind fun t403 => (if t403 = true then ((laws_toTransaction.f k a2_0 a2_1 a2_2 a2_3 a2_4 a2_5 a2_6 l2_7 l2_8).bind fun bt404 => ((laws_eqTransaction.f k t381 t382 t383 t384 t385 t386 t387 t388 t391 bt404.1 bt404.2.1 bt404.2.2.1 bt404.2.2.2.1 bt404.2.2.2.2.1 bt404.2.2.2.2.2.1 bt404.2.2.2.2.2.2.1 bt404.2.2.2.2.2.2.2.1 bt404.2.2.2.2.2.2.2.2).bind fun t417 => (if t417 = true then (some true) else (some false)))) else (some false)))) else (some false)) = some r := H
 have A38 := AM_ A380
 clear A380
 by_cases c39 : t399 = true
 rotate_left
 ·replace c39 := Bool.eq_false_iff.mpr c39
  subst c39
  have H1 : (some false) = some r := by rw [if_neg (show ¬ (false = true) by decide)] at H; exact H
  clear H
  have H := H1
  clear H1
  obtain rfl := Option.some.inj H
  try go_wp2
  replace HO356 := AM_ (Kd.S_drew HO356.out)
  replace HO359 := AM_ (Kd.R_drew HO359.out)
  replace HO369 := AM_ (Kd.R_drew HO369.out)
  replace HO372 := AM_ (Kd.R_drew HO372.out)
  replace HO376 := AM_ (Kd.S_drew HO376.out)
  replace HO380 := AM_ (Kd.R_drew HO380.out)
  replace HO390 := AM_ (Kd.R_drew HO390.out)
  replace HO393 := AM_ (Kd.R_drew HO393.out)
  replace BK349 := AM_ (blk_drew BK349.out)
  replace BK350 := AM_ (blk_drew BK350.out)
  replace BK377 := AM_ (blk_drew BK377.out)
  replace BK394 := AM_ (blk_drew BK394.out)
  replace HB := AM_ (below_drew1 HB.out)
  refine start_ (n := 5) (S := fun w' => w'.cell? ⟨gb377, 0, none⟩ = some (.slice Ao244 t374.length co244) ∧ w'.cell? ⟨gb349, 0, none⟩ = some (.slice A0_0 l0_0.length c0_0)) (ds := []) (bs 0 5) (by kernel_rfl) rfl rfl ⟨bc BK377.out 0, bc BK349.out 0⟩ (fun hHeld => ?_)
  generalize w260.drew = w221 at HO356 HO359 HO369 HO372 HO376 HO380 HO390 HO393 BK349 BK350 BK377 BK394 HB hHeld ⊢
  refine take_ (i := 0) (N := some 52) (v := ?_) (a' := ?_) (bs 1 5) rfl rfl (by kernel_rfl) (fun _ _ _ h => h) (Or.inl ⟨by rfl, ?_⟩) hHeld ?_ ?_
  rotate_left
  ·rintro w' ⟨s0, s1⟩
   go_simp
   with_reducible rfl
  rotate_left
  ·simp only [pA, pS, pZ, pK, i64_w, i32_w]
   rfl
  refine take_ (i := 1) (N := some 53) (v := ?_) (a' := ?_) (bs 3 5) rfl rfl (by kernel_rfl) (fun _ _ _ h => h) (Or.inl ⟨by rfl, ?_⟩) hHeld ?_ ?_
  rotate_left
  ·rintro w' ⟨s0, s1⟩
   go_simp
   with_reducible rfl
  rotate_left
  ·simp only [pA, pS, pZ, pK, i64_w, i32_w]
   rfl
  refine one_ (i := 2) (N := some 54) (bs 7 5) rfl rfl (by kernel_rfl) (by decide) (fun K hK => ?_)
  refine goes_ Try.func35 (by kernel_rfl) rfl #[.agg #[.slice A0_0 l0_0.length c0_0]] (by rfl) rfl rfl (by (try simp only [List.map_toArray, List.map_cons, List.map_nil]); first | done | rfl | (simp only [List.length_drop, List.length_take]; rfl)) ?_
  with_reducible refine (laws_toStore.calls k _ _ l0_0 t396 _ ?side1 ?side2 A37.out).mono ?_
  (case side1 => exact CB HR0_0.out HB.out)
  (case side2 => exact HC0_0.out)
  rintro e w222 ⟨v397, rfl, ho0, hb⟩
  refine ⟨_, rfl, ?_⟩
  replace HO359 := AM_ (Kd.R_below (RT HO359.out) hb)
  replace HO369 := AM_ (Kd.R_below (RT HO369.out) hb)
  replace HO372 := AM_ (Kd.R_below (RT HO372.out) hb)
  replace HO380 := AM_ (Kd.R_below (RT HO380.out) hb)
  replace HO390 := AM_ (Kd.R_below (RT HO390.out) hb)
  replace HO393 := AM_ (Kd.R_below (RT HO393.out) hb)
  have HO398 := AM_ (Kd.S_lower (Kd.S_new' (Kd.S_new' ho0 (Kd.S_lt (ST HO356.out))) (Kd.S_lt (ST HO376.out))) (below_size (BT HB.out)))
  replace HO356 := AM_ (Kd.S_elder' (ST HO356.out) (Kd.S_base ho0) hb)
  replace HO376 := AM_ (Kd.S_elder' (ST HO376.out) (Kd.S_base ho0) hb)
  replace BK349 := AM_ (BB BK349.out hb)
  replace BK350 := AM_ (BB BK350.out hb)
  replace BK377 := AM_ (BB BK377.out hb)
  replace BK394 := AM_ (BB BK394.out hb)
  replace HB := AM_ (below_step (BT HB.out) hb)
  (try clear hb)
  (try clear hb2)
  (try clear hk)
  (try clear hi)
  (try clear ho0)
  obtain ⟨Ao223, co223, eo223⟩ := Kd.S_slice HO398.out
  (first | subst eo223 | (injection eo223 with f1_ f2_ f3_; have f4_ := f1_.symm; have f5_ := f3_.symm; clear f1_ f2_ f3_; subst f4_; subst f5_))
  refine hK.out _ _ ⟨bc BK377.out 0, bc BK349.out 0⟩ (fun hHeld => ?_)
  clear hK K
  refine norm_ (a' := ?_) ?_ ?_
  rotate_left
  ·show Act.put _ (some 54) _ = _
   simp only [pA, pS, pZ, pK, i64_w, i32_w]
   rfl
  refine one_ (i := 3) (N := some 55) (bs 15 5) rfl rfl (by kernel_rfl) (by decide) (fun K hK => ?_)
  refine goes_ Try.func38 (by kernel_rfl) rfl #[.agg #[.slice Ao244 t374.length co244], .agg #[.slice Ao223 t396.length co223]] (by rfl) rfl rfl (by (try simp only [List.map_toArray, List.map_cons, List.map_nil]); first | done | rfl | (simp only [List.length_drop, List.length_take]; rfl)) ?_
  with_reducible refine (laws_eqStore.calls k _ _ t374 _ _ t396 false _ ?side1 ?side2 ?side3 ?side4 A38.out).mono ?_
  (case side1 => exact Kd.C_below (Kd.S_reads' HO376.out).2.2 (BL (Below.refl _ _) rfl rfl rfl rfl))
  (case side2 => exact (Kd.S_reads' HO376.out).2.1)
  (case side3 => exact Kd.C_below (Kd.S_reads' HO398.out).2.2 (BL (Below.refl _ _) rfl rfl rfl rfl))
  (case side4 => exact (Kd.S_reads' HO398.out).2.1)
  rintro e w224 ⟨rfl, hb⟩
  refine ⟨_, rfl, ?_⟩
  replace HO356 := AM_ (Kd.S_below (ST HO356.out) hb)
  replace HO359 := AM_ (Kd.R_below (RT HO359.out) hb)
  replace HO369 := AM_ (Kd.R_below (RT HO369.out) hb)
  replace HO372 := AM_ (Kd.R_below (RT HO372.out) hb)
  replace HO376 := AM_ (Kd.S_below (ST HO376.out) hb)
  replace HO380 := AM_ (Kd.R_below (RT HO380.out) hb)
  replace HO390 := AM_ (Kd.R_below (RT HO390.out) hb)
  replace HO393 := AM_ (Kd.R_below (RT HO393.out) hb)
  replace HO398 := AM_ (Kd.S_below (ST HO398.out) hb)
  replace BK349 := AM_ (BB BK349.out hb)
  replace BK350 := AM_ (BB BK350.out hb)
  replace BK377 := AM_ (BB BK377.out hb)
  replace BK394 := AM_ (BB BK394.out hb)
  replace HB := AM_ (below_step (BT HB.out) hb)
  (try clear hb)
  (try clear hb2)
  (try clear hk)
  (try clear hi)
  refine hK.out _ _ ⟨bc BK377.out 0, bc BK349.out 0⟩ (fun hHeld => ?_)
  clear hK K
  refine norm_ (a' := ?_) ?_ ?_
  rotate_left
  ·show Act.put _ (some 55) _ = _
   simp only [pA, pS, pZ, pK, i64_w, i32_w]
   rfl
  refine pure_ (i := 4) (N := some 56) (v := ?_) (a' := ?_) (bs 31 5) rfl rfl (by kernel_rfl) (fun _ _ _ h => h) (Or.inl ⟨by rfl, ?_⟩) ?_ ?_
  rotate_left
  ·intro w'
   go_simp
   with_reducible rfl
  rotate_left
  ·simp only [pA, pS, pZ, pK, i64_w, i32_w]
   rfl
  refine done_ (by kernel_rfl) ?_
  try go_wp2
  go_ret
  exact QT (BT HB.out)
 subst c39
 have H1 : ((laws_toLockS.f k l1).bind fun t400 => ((laws_eqLockS.f k t378 t400).bind fun t403 => (if t403 = true then ((laws_toTransaction.f k a2_0 a2_1 a2_2 a2_3 a2_4 a2_5 a2_6 l2_7 l2_8).bind fun bt404 => ((laws_eqTransaction.f k t381 t382 t383 t384 t385 t386 t387 t388 t391 bt404.1 bt404.2.1 bt404.2.2.1 bt404.2.2.2.1 bt404.2.2.2.2.1 bt404.2.2.2.2.2.1 bt404.2.2.2.2.2.2.1 bt404.2.2.2.2.2.2.2.1 bt404.2.2.2.2.2.2.2.2).bind fun t417 => (if t417 = true then (some true) else (some false)))) else (some false)))) = some r := by rw [if_pos rfl] at H; exact H
 clear H
 have H := H1
 clear H1
 replace H := Option.bind_eq_some_iff.mp H
 obtain ⟨t400, A400, H⟩ := H
 replace H : ((laws_eqLockS.f k t378 t400).bind fun t403 => (if t403 = true then ((laws_toTransaction.f k a2_0 a2_1 a2_2 a2_3 a2_4 a2_5 a2_6 l2_7 l2_8).bind fun bt404 => ((laws_eqTransaction.f k t381 t382 t383 t384 t385 t386 t387 t388 t391 bt404.1 bt404.2.1 bt404.2.2.1 bt404.2.2.2.1 bt404.2.2.2.2.1 bt404.2.2.2.2.2.1 bt404.2.2.2.2.2.2.1 bt404.2.2.2.2.2.2.2.1 bt404.2.2.2.2.2.2.2.2).bind fun t417 => (if t417 = true then (some true) else (some false)))) else (some false))) = some r := H
 have A40 := AM_ A400
 clear A400
 replace H := Option.bind_eq_some_iff.mp H
 obtain ⟨t403, A410, H⟩ := H
 replace H : (if t403 = true then ((laws_toTransaction.f k a2_0 a2_1 a2_2 a2_3 a2_4 a2_5 a2_6 l2_7 l2_8).bind fun bt404 => ((laws_eqTransaction.f k t381 t382 t383 t384 t385 t386 t387 t388 t391 bt404.1 bt404.2.1 bt404.2.2.1 bt404.2.2.2.1 bt404.2.2.2.2.1 bt404.2.2.2.2.2.1 bt404.2.2.2.2.2.2.1 bt404.2.2.2.2.2.2.2.1 bt404.2.2.2.2.2.2.2.2).bind fun t417 => (if t417 = true then (some true) else (some false)))) else (some false)) = some r := H
 have A41 := AM_ A410
 clear A410
 by_cases c42 : t403 = true
 rotate_left
 ·replace c42 := Bool.eq_false_iff.mpr c42
  subst c42
  have H1 : (some false) = some r := by rw [if_neg (show ¬ (false = true) by decide)] at H; exact H
  clear H
  have H := H1
  clear H1
  obtain rfl := Option.some.inj H
  try go_wp2
  replace HO356 := AM_ (Kd.S_drew HO356.out)
  replace HO359 := AM_ (Kd.R_drew HO359.out)
  replace HO369 := AM_ (Kd.R_drew HO369.out)
  replace HO372 := AM_ (Kd.R_drew HO372.out)
  replace HO376 := AM_ (Kd.S_drew HO376.out)
  replace HO380 := AM_ (Kd.R_drew HO380.out)
  replace HO390 := AM_ (Kd.R_drew HO390.out)
  replace HO393 := AM_ (Kd.R_drew HO393.out)
  replace BK349 := AM_ (blk_drew BK349.out)
  replace BK350 := AM_ (blk_drew BK350.out)
  replace BK377 := AM_ (blk_drew BK377.out)
  replace BK394 := AM_ (blk_drew BK394.out)
  replace HB := AM_ (below_drew1 HB.out)
  refine start_ (n := 5) (S := fun w' => w'.cell? ⟨gb377, 0, none⟩ = some (.slice Ao244 t374.length co244) ∧ w'.cell? ⟨gb349, 0, none⟩ = some (.slice A0_0 l0_0.length c0_0)) (ds := []) (bs 0 5) (by kernel_rfl) rfl rfl ⟨bc BK377.out 0, bc BK349.out 0⟩ (fun hHeld => ?_)
  generalize w260.drew = w178 at HO356 HO359 HO369 HO372 HO376 HO380 HO390 HO393 BK349 BK350 BK377 BK394 HB hHeld ⊢
  refine take_ (i := 0) (N := some 52) (v := ?_) (a' := ?_) (bs 1 5) rfl rfl (by kernel_rfl) (fun _ _ _ h => h) (Or.inl ⟨by rfl, ?_⟩) hHeld ?_ ?_
  rotate_left
  ·rintro w' ⟨s0, s1⟩
   go_simp
   with_reducible rfl
  rotate_left
  ·simp only [pA, pS, pZ, pK, i64_w, i32_w]
   rfl
  refine take_ (i := 1) (N := some 53) (v := ?_) (a' := ?_) (bs 3 5) rfl rfl (by kernel_rfl) (fun _ _ _ h => h) (Or.inl ⟨by rfl, ?_⟩) hHeld ?_ ?_
  rotate_left
  ·rintro w' ⟨s0, s1⟩
   go_simp
   with_reducible rfl
  rotate_left
  ·simp only [pA, pS, pZ, pK, i64_w, i32_w]
   rfl
  refine one_ (i := 2) (N := some 54) (bs 7 5) rfl rfl (by kernel_rfl) (by decide) (fun K hK => ?_)
  refine goes_ Try.func35 (by kernel_rfl) rfl #[.agg #[.slice A0_0 l0_0.length c0_0]] (by rfl) rfl rfl (by (try simp only [List.map_toArray, List.map_cons, List.map_nil]); first | done | rfl | (simp only [List.length_drop, List.length_take]; rfl)) ?_
  with_reducible refine (laws_toStore.calls k _ _ l0_0 t396 _ ?side1 ?side2 A37.out).mono ?_
  (case side1 => exact CB HR0_0.out HB.out)
  (case side2 => exact HC0_0.out)
  rintro e w179 ⟨v397, rfl, ho0, hb⟩
  refine ⟨_, rfl, ?_⟩
  replace HO359 := AM_ (Kd.R_below (RT HO359.out) hb)
  replace HO369 := AM_ (Kd.R_below (RT HO369.out) hb)
  replace HO372 := AM_ (Kd.R_below (RT HO372.out) hb)
  replace HO380 := AM_ (Kd.R_below (RT HO380.out) hb)
  replace HO390 := AM_ (Kd.R_below (RT HO390.out) hb)
  replace HO393 := AM_ (Kd.R_below (RT HO393.out) hb)
  have HO398 := AM_ (Kd.S_lower (Kd.S_new' (Kd.S_new' ho0 (Kd.S_lt (ST HO356.out))) (Kd.S_lt (ST HO376.out))) (below_size (BT HB.out)))
  replace HO356 := AM_ (Kd.S_elder' (ST HO356.out) (Kd.S_base ho0) hb)
  replace HO376 := AM_ (Kd.S_elder' (ST HO376.out) (Kd.S_base ho0) hb)
  replace BK349 := AM_ (BB BK349.out hb)
  replace BK350 := AM_ (BB BK350.out hb)
  replace BK377 := AM_ (BB BK377.out hb)
  replace BK394 := AM_ (BB BK394.out hb)
  replace HB := AM_ (below_step (BT HB.out) hb)
  (try clear hb)
  (try clear hb2)
  (try clear hk)
  (try clear hi)
  (try clear ho0)
  obtain ⟨Ao180, co180, eo180⟩ := Kd.S_slice HO398.out
  (first | subst eo180 | (injection eo180 with f1_ f2_ f3_; have f4_ := f1_.symm; have f5_ := f3_.symm; clear f1_ f2_ f3_; subst f4_; subst f5_))
  refine hK.out _ _ ⟨bc BK377.out 0, bc BK349.out 0⟩ (fun hHeld => ?_)
  clear hK K
  refine norm_ (a' := ?_) ?_ ?_
  rotate_left
  ·show Act.put _ (some 54) _ = _
   simp only [pA, pS, pZ, pK, i64_w, i32_w]
   rfl
  refine one_ (i := 3) (N := some 55) (bs 15 5) rfl rfl (by kernel_rfl) (by decide) (fun K hK => ?_)
  refine goes_ Try.func38 (by kernel_rfl) rfl #[.agg #[.slice Ao244 t374.length co244], .agg #[.slice Ao180 t396.length co180]] (by rfl) rfl rfl (by (try simp only [List.map_toArray, List.map_cons, List.map_nil]); first | done | rfl | (simp only [List.length_drop, List.length_take]; rfl)) ?_
  with_reducible refine (laws_eqStore.calls k _ _ t374 _ _ t396 true _ ?side1 ?side2 ?side3 ?side4 A38.out).mono ?_
  (case side1 => exact Kd.C_below (Kd.S_reads' HO376.out).2.2 (BL (Below.refl _ _) rfl rfl rfl rfl))
  (case side2 => exact (Kd.S_reads' HO376.out).2.1)
  (case side3 => exact Kd.C_below (Kd.S_reads' HO398.out).2.2 (BL (Below.refl _ _) rfl rfl rfl rfl))
  (case side4 => exact (Kd.S_reads' HO398.out).2.1)
  rintro e w181 ⟨rfl, hb⟩
  refine ⟨_, rfl, ?_⟩
  replace HO356 := AM_ (Kd.S_below (ST HO356.out) hb)
  replace HO359 := AM_ (Kd.R_below (RT HO359.out) hb)
  replace HO369 := AM_ (Kd.R_below (RT HO369.out) hb)
  replace HO372 := AM_ (Kd.R_below (RT HO372.out) hb)
  replace HO376 := AM_ (Kd.S_below (ST HO376.out) hb)
  replace HO380 := AM_ (Kd.R_below (RT HO380.out) hb)
  replace HO390 := AM_ (Kd.R_below (RT HO390.out) hb)
  replace HO393 := AM_ (Kd.R_below (RT HO393.out) hb)
  replace HO398 := AM_ (Kd.S_below (ST HO398.out) hb)
  replace BK349 := AM_ (BB BK349.out hb)
  replace BK350 := AM_ (BB BK350.out hb)
  replace BK377 := AM_ (BB BK377.out hb)
  replace BK394 := AM_ (BB BK394.out hb)
  replace HB := AM_ (below_step (BT HB.out) hb)
  (try clear hb)
  (try clear hb2)
  (try clear hk)
  (try clear hi)
  refine hK.out _ _ ⟨bc BK377.out 0, bc BK349.out 0⟩ (fun hHeld => ?_)
  clear hK K
  refine norm_ (a' := ?_) ?_ ?_
  rotate_left
  ·show Act.put _ (some 55) _ = _
   simp only [pA, pS, pZ, pK, i64_w, i32_w]
   rfl
  refine pure_ (i := 4) (N := some 56) (v := ?_) (a' := ?_) (bs 31 5) rfl rfl (by kernel_rfl) (fun _ _ _ h => h) (Or.inl ⟨by rfl, ?_⟩) ?_ ?_
  rotate_left
  ·intro w'
   go_simp
   with_reducible rfl
  rotate_left
  ·simp only [pA, pS, pZ, pK, i64_w, i32_w]
   rfl
  refine done_ (by kernel_rfl) ?_
  try go_wp2_with (first | ((with_reducible refine gate_callee (f := 57) rfl ?_); refine goesL_ (some 59) rfl rfl Try.func57 (by kernel_rfl) rfl #[.slice A1 l1.length c1] rfl (by (try simp only [List.map_toArray, List.map_cons, List.map_nil]); first | done | rfl | (simp only [List.length_drop, List.length_take]; rfl)) ?_; (with_reducible refine (laws_toLockS.calls k _ _ l1 t400 _ ?side1 ?side2 A40.out).mono ?_); (case side1 => exact CB HR1.out HB.out); (case side2 => exact HC1.out); rintro e w182 ⟨v401, rfl, ho0, hb⟩; refine ⟨_, rfl, ?_⟩; replace HO356 := AM_ (Kd.S_below (ST HO356.out) hb); replace HO369 := AM_ (Kd.R_below (RT HO369.out) hb); replace HO372 := AM_ (Kd.R_below (RT HO372.out) hb); replace HO376 := AM_ (Kd.S_below (ST HO376.out) hb); replace HO390 := AM_ (Kd.R_below (RT HO390.out) hb); replace HO393 := AM_ (Kd.R_below (RT HO393.out) hb); replace HO398 := AM_ (Kd.S_below (ST HO398.out) hb); have HO402 := AM_ (Kd.R_lower (Kd.R_new' (Kd.R_new' ho0 (Kd.R_lt (RT HO359.out))) (Kd.R_lt (RT HO380.out))) (below_size (BT HB.out))); replace HO359 := AM_ (Kd.R_elder' (RT HO359.out) (Kd.R_base ho0) hb); replace HO380 := AM_ (Kd.R_elder' (RT HO380.out) (Kd.R_base ho0) hb); replace BK349 := AM_ (BB BK349.out hb); replace BK350 := AM_ (BB BK350.out hb); replace BK377 := AM_ (BB BK377.out hb); replace BK394 := AM_ (BB BK394.out hb); replace HB := AM_ (below_step (BT HB.out) hb); (try clear hb); (try clear hb2); (try clear hk); (try clear hi); (try clear ho0); obtain ⟨Ao183, co183, eo183⟩ := Kd.R_slice HO402.out; subst eo183) | ((with_reducible refine gate_callee (f := 58) rfl ?_); refine goesL_ (some 60) rfl rfl Try.func58 (by kernel_rfl) rfl #[.slice Ao259 t378.length co259, .slice Ao183 t400.length co183] rfl (by (try simp only [List.map_toArray, List.map_cons, List.map_nil]); first | done | rfl | (simp only [List.length_drop, List.length_take]; rfl)) ?_; (with_reducible refine (laws_eqLockS.calls k _ _ t378 _ _ t400 false _ ?side1 ?side2 ?side3 ?side4 A41.out).mono ?_); (case side1 => exact Kd.C_below (Kd.R_reads' HO380.out).2.2 (BL (Below.refl _ _) rfl rfl rfl rfl)); (case side2 => exact (Kd.R_reads' HO380.out).2.1); (case side3 => exact Kd.C_below (Kd.R_reads' HO402.out).2.2 (BL (Below.refl _ _) rfl rfl rfl rfl)); (case side4 => exact (Kd.R_reads' HO402.out).2.1); rintro e w184 ⟨rfl, hb⟩; refine ⟨_, rfl, ?_⟩; replace HO356 := AM_ (Kd.S_below (ST HO356.out) hb); replace HO359 := AM_ (Kd.R_below (RT HO359.out) hb); replace HO369 := AM_ (Kd.R_below (RT HO369.out) hb); replace HO372 := AM_ (Kd.R_below (RT HO372.out) hb); replace HO376 := AM_ (Kd.S_below (ST HO376.out) hb); replace HO380 := AM_ (Kd.R_below (RT HO380.out) hb); replace HO390 := AM_ (Kd.R_below (RT HO390.out) hb); replace HO393 := AM_ (Kd.R_below (RT HO393.out) hb); replace HO398 := AM_ (Kd.S_below (ST HO398.out) hb); replace HO402 := AM_ (Kd.R_below (RT HO402.out) hb); replace BK349 := AM_ (BB BK349.out hb); replace BK350 := AM_ (BB BK350.out hb); replace BK377 := AM_ (BB BK377.out hb); replace BK394 := AM_ (BB BK394.out hb); replace HB := AM_ (below_step (BT HB.out) hb); (try clear hb); (try clear hb2); (try clear hk); (try clear hi)))
  go_ret
  exact QT (BT HB.out)
 subst c42
 have H1 : ((laws_toTransaction.f k a2_0 a2_1 a2_2 a2_3 a2_4 a2_5 a2_6 l2_7 l2_8).bind fun bt404 => ((laws_eqTransaction.f k t381 t382 t383 t384 t385 t386 t387 t388 t391 bt404.1 bt404.2.1 bt404.2.2.1 bt404.2.2.2.1 bt404.2.2.2.2.1 bt404.2.2.2.2.2.1 bt404.2.2.2.2.2.2.1 bt404.2.2.2.2.2.2.2.1 bt404.2.2.2.2.2.2.2.2).bind fun t417 => (if t417 = true then (some true) else (some false)))) = some r := by rw [if_pos rfl] at H; exact H
 clear H
 have H := H1
 clear H1
 replace H := Option.bind_eq_some_iff.mp H
 obtain ⟨⟨t404, t405, t406, t407, t408, t409, t410, t411, t414⟩, A430, H⟩ := H
 replace H : ((laws_eqTransaction.f k t381 t382 t383 t384 t385 t386 t387 t388 t391 t404 t405 t406 t407 t408 t409 t410 t411 t414).bind fun t417 => (if t417 = true then (some true) else (some false))) = some r := H
 have A43 := AM_ A430
 clear A430
 replace H := Option.bind_eq_some_iff.mp H
 obtain ⟨t417, A440, H⟩ := H
 replace H : (if t417 = true then (some true) else (some false)) = some r := H
 have A44 := AM_ A440
 clear A440
 by_cases c45 : t417 = true
 ·subst c45
  have H1 : (some true) = some r := by rw [if_pos rfl] at H; exact H
  clear H
  have H := H1
  clear H1
  obtain rfl := Option.some.inj H
  try go_wp2
  replace HO356 := AM_ (Kd.S_drew HO356.out)
  replace HO359 := AM_ (Kd.R_drew HO359.out)
  replace HO369 := AM_ (Kd.R_drew HO369.out)
  replace HO372 := AM_ (Kd.R_drew HO372.out)
  replace HO376 := AM_ (Kd.S_drew HO376.out)
  replace HO380 := AM_ (Kd.R_drew HO380.out)
  replace HO390 := AM_ (Kd.R_drew HO390.out)
  replace HO393 := AM_ (Kd.R_drew HO393.out)
  replace BK349 := AM_ (blk_drew BK349.out)
  replace BK350 := AM_ (blk_drew BK350.out)
  replace BK377 := AM_ (blk_drew BK377.out)
  replace BK394 := AM_ (blk_drew BK394.out)
  replace HB := AM_ (below_drew1 HB.out)
  refine start_ (n := 5) (S := fun w' => w'.cell? ⟨gb377, 0, none⟩ = some (.slice Ao244 t374.length co244) ∧ w'.cell? ⟨gb349, 0, none⟩ = some (.slice A0_0 l0_0.length c0_0)) (ds := []) (bs 0 5) (by kernel_rfl) rfl rfl ⟨bc BK377.out 0, bc BK349.out 0⟩ (fun hHeld => ?_)
  generalize w260.drew = w82 at HO356 HO359 HO369 HO372 HO376 HO380 HO390 HO393 BK349 BK350 BK377 BK394 HB hHeld ⊢
  refine take_ (i := 0) (N := some 52) (v := ?_) (a' := ?_) (bs 1 5) rfl rfl (by kernel_rfl) (fun _ _ _ h => h) (Or.inl ⟨by rfl, ?_⟩) hHeld ?_ ?_
  rotate_left
  ·rintro w' ⟨s0, s1⟩
   go_simp
   with_reducible rfl
  rotate_left
  ·simp only [pA, pS, pZ, pK, i64_w, i32_w]
   rfl
  refine take_ (i := 1) (N := some 53) (v := ?_) (a' := ?_) (bs 3 5) rfl rfl (by kernel_rfl) (fun _ _ _ h => h) (Or.inl ⟨by rfl, ?_⟩) hHeld ?_ ?_
  rotate_left
  ·rintro w' ⟨s0, s1⟩
   go_simp
   with_reducible rfl
  rotate_left
  ·simp only [pA, pS, pZ, pK, i64_w, i32_w]
   rfl
  refine one_ (i := 2) (N := some 54) (bs 7 5) rfl rfl (by kernel_rfl) (by decide) (fun K hK => ?_)
  refine goes_ Try.func35 (by kernel_rfl) rfl #[.agg #[.slice A0_0 l0_0.length c0_0]] (by rfl) rfl rfl (by (try simp only [List.map_toArray, List.map_cons, List.map_nil]); first | done | rfl | (simp only [List.length_drop, List.length_take]; rfl)) ?_
  with_reducible refine (laws_toStore.calls k _ _ l0_0 t396 _ ?side1 ?side2 A37.out).mono ?_
  (case side1 => exact CB HR0_0.out HB.out)
  (case side2 => exact HC0_0.out)
  rintro e w83 ⟨v397, rfl, ho0, hb⟩
  refine ⟨_, rfl, ?_⟩
  replace HO359 := AM_ (Kd.R_below (RT HO359.out) hb)
  replace HO369 := AM_ (Kd.R_below (RT HO369.out) hb)
  replace HO372 := AM_ (Kd.R_below (RT HO372.out) hb)
  replace HO380 := AM_ (Kd.R_below (RT HO380.out) hb)
  replace HO390 := AM_ (Kd.R_below (RT HO390.out) hb)
  replace HO393 := AM_ (Kd.R_below (RT HO393.out) hb)
  have HO398 := AM_ (Kd.S_lower (Kd.S_new' (Kd.S_new' ho0 (Kd.S_lt (ST HO356.out))) (Kd.S_lt (ST HO376.out))) (below_size (BT HB.out)))
  replace HO356 := AM_ (Kd.S_elder' (ST HO356.out) (Kd.S_base ho0) hb)
  replace HO376 := AM_ (Kd.S_elder' (ST HO376.out) (Kd.S_base ho0) hb)
  replace BK349 := AM_ (BB BK349.out hb)
  replace BK350 := AM_ (BB BK350.out hb)
  replace BK377 := AM_ (BB BK377.out hb)
  replace BK394 := AM_ (BB BK394.out hb)
  replace HB := AM_ (below_step (BT HB.out) hb)
  (try clear hb)
  (try clear hb2)
  (try clear hk)
  (try clear hi)
  (try clear ho0)
  obtain ⟨Ao84, co84, eo84⟩ := Kd.S_slice HO398.out
  (first | subst eo84 | (injection eo84 with f1_ f2_ f3_; have f4_ := f1_.symm; have f5_ := f3_.symm; clear f1_ f2_ f3_; subst f4_; subst f5_))
  refine hK.out _ _ ⟨bc BK377.out 0, bc BK349.out 0⟩ (fun hHeld => ?_)
  clear hK K
  refine norm_ (a' := ?_) ?_ ?_
  rotate_left
  ·show Act.put _ (some 54) _ = _
   simp only [pA, pS, pZ, pK, i64_w, i32_w]
   rfl
  refine one_ (i := 3) (N := some 55) (bs 15 5) rfl rfl (by kernel_rfl) (by decide) (fun K hK => ?_)
  refine goes_ Try.func38 (by kernel_rfl) rfl #[.agg #[.slice Ao244 t374.length co244], .agg #[.slice Ao84 t396.length co84]] (by rfl) rfl rfl (by (try simp only [List.map_toArray, List.map_cons, List.map_nil]); first | done | rfl | (simp only [List.length_drop, List.length_take]; rfl)) ?_
  with_reducible refine (laws_eqStore.calls k _ _ t374 _ _ t396 true _ ?side1 ?side2 ?side3 ?side4 A38.out).mono ?_
  (case side1 => exact Kd.C_below (Kd.S_reads' HO376.out).2.2 (BL (Below.refl _ _) rfl rfl rfl rfl))
  (case side2 => exact (Kd.S_reads' HO376.out).2.1)
  (case side3 => exact Kd.C_below (Kd.S_reads' HO398.out).2.2 (BL (Below.refl _ _) rfl rfl rfl rfl))
  (case side4 => exact (Kd.S_reads' HO398.out).2.1)
  rintro e w85 ⟨rfl, hb⟩
  refine ⟨_, rfl, ?_⟩
  replace HO356 := AM_ (Kd.S_below (ST HO356.out) hb)
  replace HO359 := AM_ (Kd.R_below (RT HO359.out) hb)
  replace HO369 := AM_ (Kd.R_below (RT HO369.out) hb)
  replace HO372 := AM_ (Kd.R_below (RT HO372.out) hb)
  replace HO376 := AM_ (Kd.S_below (ST HO376.out) hb)
  replace HO380 := AM_ (Kd.R_below (RT HO380.out) hb)
  replace HO390 := AM_ (Kd.R_below (RT HO390.out) hb)
  replace HO393 := AM_ (Kd.R_below (RT HO393.out) hb)
  replace HO398 := AM_ (Kd.S_below (ST HO398.out) hb)
  replace BK349 := AM_ (BB BK349.out hb)
  replace BK350 := AM_ (BB BK350.out hb)
  replace BK377 := AM_ (BB BK377.out hb)
  replace BK394 := AM_ (BB BK394.out hb)
  replace HB := AM_ (below_step (BT HB.out) hb)
  (try clear hb)
  (try clear hb2)
  (try clear hk)
  (try clear hi)
  refine hK.out _ _ ⟨bc BK377.out 0, bc BK349.out 0⟩ (fun hHeld => ?_)
  clear hK K
  refine norm_ (a' := ?_) ?_ ?_
  rotate_left
  ·show Act.put _ (some 55) _ = _
   simp only [pA, pS, pZ, pK, i64_w, i32_w]
   rfl
  refine pure_ (i := 4) (N := some 56) (v := ?_) (a' := ?_) (bs 31 5) rfl rfl (by kernel_rfl) (fun _ _ _ h => h) (Or.inl ⟨by rfl, ?_⟩) ?_ ?_
  rotate_left
  ·intro w'
   go_simp
   with_reducible rfl
  rotate_left
  ·simp only [pA, pS, pZ, pK, i64_w, i32_w]
   rfl
  refine done_ (by kernel_rfl) ?_
  try go_wp2_with (first | ((with_reducible refine gate_callee (f := 57) rfl ?_); refine goesL_ (some 59) rfl rfl Try.func57 (by kernel_rfl) rfl #[.slice A1 l1.length c1] rfl (by (try simp only [List.map_toArray, List.map_cons, List.map_nil]); first | done | rfl | (simp only [List.length_drop, List.length_take]; rfl)) ?_; (with_reducible refine (laws_toLockS.calls k _ _ l1 t400 _ ?side1 ?side2 A40.out).mono ?_); (case side1 => exact CB HR1.out HB.out); (case side2 => exact HC1.out); rintro e w86 ⟨v401, rfl, ho0, hb⟩; refine ⟨_, rfl, ?_⟩; replace HO356 := AM_ (Kd.S_below (ST HO356.out) hb); replace HO369 := AM_ (Kd.R_below (RT HO369.out) hb); replace HO372 := AM_ (Kd.R_below (RT HO372.out) hb); replace HO376 := AM_ (Kd.S_below (ST HO376.out) hb); replace HO390 := AM_ (Kd.R_below (RT HO390.out) hb); replace HO393 := AM_ (Kd.R_below (RT HO393.out) hb); replace HO398 := AM_ (Kd.S_below (ST HO398.out) hb); have HO402 := AM_ (Kd.R_lower (Kd.R_new' (Kd.R_new' ho0 (Kd.R_lt (RT HO359.out))) (Kd.R_lt (RT HO380.out))) (below_size (BT HB.out))); replace HO359 := AM_ (Kd.R_elder' (RT HO359.out) (Kd.R_base ho0) hb); replace HO380 := AM_ (Kd.R_elder' (RT HO380.out) (Kd.R_base ho0) hb); replace BK349 := AM_ (BB BK349.out hb); replace BK350 := AM_ (BB BK350.out hb); replace BK377 := AM_ (BB BK377.out hb); replace BK394 := AM_ (BB BK394.out hb); replace HB := AM_ (below_step (BT HB.out) hb); (try clear hb); (try clear hb2); (try clear hk); (try clear hi); (try clear ho0); obtain ⟨Ao87, co87, eo87⟩ := Kd.R_slice HO402.out; subst eo87) | ((with_reducible refine gate_callee (f := 58) rfl ?_); refine goesL_ (some 60) rfl rfl Try.func58 (by kernel_rfl) rfl #[.slice Ao259 t378.length co259, .slice Ao87 t400.length co87] rfl (by (try simp only [List.map_toArray, List.map_cons, List.map_nil]); first | done | rfl | (simp only [List.length_drop, List.length_take]; rfl)) ?_; (with_reducible refine (laws_eqLockS.calls k _ _ t378 _ _ t400 true _ ?side1 ?side2 ?side3 ?side4 A41.out).mono ?_); (case side1 => exact Kd.C_below (Kd.R_reads' HO380.out).2.2 (BL (Below.refl _ _) rfl rfl rfl rfl)); (case side2 => exact (Kd.R_reads' HO380.out).2.1); (case side3 => exact Kd.C_below (Kd.R_reads' HO402.out).2.2 (BL (Below.refl _ _) rfl rfl rfl rfl)); (case side4 => exact (Kd.R_reads' HO402.out).2.1); rintro e w88 ⟨rfl, hb⟩; refine ⟨_, rfl, ?_⟩; replace HO356 := AM_ (Kd.S_below (ST HO356.out) hb); replace HO359 := AM_ (Kd.R_below (RT HO359.out) hb); replace HO369 := AM_ (Kd.R_below (RT HO369.out) hb); replace HO372 := AM_ (Kd.R_below (RT HO372.out) hb); replace HO376 := AM_ (Kd.S_below (ST HO376.out) hb); replace HO380 := AM_ (Kd.R_below (RT HO380.out) hb); replace HO390 := AM_ (Kd.R_below (RT HO390.out) hb); replace HO393 := AM_ (Kd.R_below (RT HO393.out) hb); replace HO398 := AM_ (Kd.S_below (ST HO398.out) hb); replace HO402 := AM_ (Kd.R_below (RT HO402.out) hb); replace BK349 := AM_ (BB BK349.out hb); replace BK350 := AM_ (BB BK350.out hb); replace BK377 := AM_ (BB BK377.out hb); replace BK394 := AM_ (BB BK394.out hb); replace HB := AM_ (below_step (BT HB.out) hb); (try clear hb); (try clear hb2); (try clear hk); (try clear hi)))
  replace HO356 := AM_ (Kd.S_drew HO356.out)
  replace HO359 := AM_ (Kd.R_drew HO359.out)
  replace HO369 := AM_ (Kd.R_drew HO369.out)
  replace HO372 := AM_ (Kd.R_drew HO372.out)
  replace HO376 := AM_ (Kd.S_drew HO376.out)
  replace HO380 := AM_ (Kd.R_drew HO380.out)
  replace HO390 := AM_ (Kd.R_drew HO390.out)
  replace HO393 := AM_ (Kd.R_drew HO393.out)
  replace HO398 := AM_ (Kd.S_drew HO398.out)
  replace HO402 := AM_ (Kd.R_drew HO402.out)
  replace BK349 := AM_ (blk_drew BK349.out)
  replace BK350 := AM_ (blk_drew BK350.out)
  replace BK377 := AM_ (blk_drew BK377.out)
  replace BK394 := AM_ (blk_drew BK394.out)
  replace HB := AM_ (below_drew1 HB.out)
  refine start_ (n := 5) (S := fun w' => w'.cell? ⟨gb394, 0, none⟩ = some (.int .i64 t381) ∧ w'.cell? ⟨gb394, 1, none⟩ = some (.int .i64 t382) ∧ w'.cell? ⟨gb394, 2, none⟩ = some (.int .i64 t383) ∧ w'.cell? ⟨gb394, 3, none⟩ = some (.int .i64 t384) ∧ w'.cell? ⟨gb394, 4, none⟩ = some (.int .i64 t385) ∧ w'.cell? ⟨gb394, 5, none⟩ = some (.int .i64 t386) ∧ w'.cell? ⟨gb394, 6, none⟩ = some (.int .i64 t387) ∧ w'.cell? ⟨gb394, 7, none⟩ = some (.slice Ao256 t388.length co256) ∧ w'.cell? ⟨gb394, 8, none⟩ = some (.slice Ao257 t391.length co257) ∧ w'.cell? ⟨gb350, 0, none⟩ = some (.int .i64 a2_0) ∧ w'.cell? ⟨gb350, 1, none⟩ = some (.int .i64 a2_1) ∧ w'.cell? ⟨gb350, 2, none⟩ = some (.int .i64 a2_2) ∧ w'.cell? ⟨gb350, 3, none⟩ = some (.int .i64 a2_3) ∧ w'.cell? ⟨gb350, 4, none⟩ = some (.int .i64 a2_4) ∧ w'.cell? ⟨gb350, 5, none⟩ = some (.int .i64 a2_5) ∧ w'.cell? ⟨gb350, 6, none⟩ = some (.int .i64 a2_6) ∧ w'.cell? ⟨gb350, 7, none⟩ = some (.slice A2_7 l2_7.length c2_7) ∧ w'.cell? ⟨gb350, 8, none⟩ = some (.slice A2_8 l2_8.length c2_8)) (ds := []) (bs 0 5) (by kernel_rfl) rfl rfl ⟨bc BK394.out 0, bc BK394.out 1, bc BK394.out 2, bc BK394.out 3, bc BK394.out 4, bc BK394.out 5, bc BK394.out 6, bc BK394.out 7, bc BK394.out 8, bc BK350.out 0, bc BK350.out 1, bc BK350.out 2, bc BK350.out 3, bc BK350.out 4, bc BK350.out 5, bc BK350.out 6, bc BK350.out 7, bc BK350.out 8⟩ (fun hHeld => ?_)
  generalize w88.drew = w89 at HO356 HO359 HO369 HO372 HO376 HO380 HO390 HO393 HO398 HO402 BK349 BK350 BK377 BK394 HB hHeld ⊢
  refine take_ (i := 0) (N := some 62) (v := ?_) (a' := ?_) (bs 1 5) rfl rfl (by kernel_rfl) (fun _ _ _ h => h) (Or.inl ⟨by rfl, ?_⟩) hHeld ?_ ?_
  rotate_left
  ·rintro w' ⟨s0, s1, s2, s3, s4, s5, s6, s7, s8, s9, s10, s11, s12, s13, s14, s15, s16, s17⟩
   go_simp
   with_reducible rfl
  rotate_left
  ·simp only [pA, pS, pZ, pK, i64_w, i32_w]
   rfl
  refine take_ (i := 1) (N := some 63) (v := ?_) (a' := ?_) (bs 3 5) rfl rfl (by kernel_rfl) (fun _ _ _ h => h) (Or.inl ⟨by rfl, ?_⟩) hHeld ?_ ?_
  rotate_left
  ·rintro w' ⟨s0, s1, s2, s3, s4, s5, s6, s7, s8, s9, s10, s11, s12, s13, s14, s15, s16, s17⟩
   go_simp
   with_reducible rfl
  rotate_left
  ·simp only [pA, pS, pZ, pK, i64_w, i32_w]
   rfl
  refine one_ (i := 2) (N := some 64) (bs 7 5) rfl rfl (by kernel_rfl) (by decide) (fun K hK => ?_)
  refine goes_ Try.func36 (by kernel_rfl) rfl #[.agg #[.int .i64 a2_0, .int .i64 a2_1, .int .i64 a2_2, .int .i64 a2_3, .int .i64 a2_4, .int .i64 a2_5, .int .i64 a2_6, .slice A2_7 l2_7.length c2_7, .slice A2_8 l2_8.length c2_8]] (by rfl) rfl rfl (by (try simp only [List.map_toArray, List.map_cons, List.map_nil]); first | done | rfl | (simp only [List.length_drop, List.length_take]; rfl)) ?_
  with_reducible refine (laws_toTransaction.calls k a2_0 a2_1 a2_2 a2_3 a2_4 a2_5 a2_6 _ _ l2_7 _ _ l2_8 t404 t405 t406 t407 t408 t409 t410 t411 t414 _ ?side1 ?side2 ?side3 ?side4 A43.out).mono ?_
  (case side1 => exact CB HR2_7.out HB.out)
  (case side2 => exact HC2_7.out)
  (case side3 => exact CB HR2_8.out HB.out)
  (case side4 => exact HC2_8.out)
  rintro e w90 ⟨v412, v415, rfl, ho0, ho1, hb⟩
  refine ⟨_, rfl, ?_⟩
  replace HO356 := AM_ (Kd.S_below (ST HO356.out) hb)
  replace HO359 := AM_ (Kd.R_below (RT HO359.out) hb)
  replace HO376 := AM_ (Kd.S_below (ST HO376.out) hb)
  replace HO380 := AM_ (Kd.R_below (RT HO380.out) hb)
  replace HO398 := AM_ (Kd.S_below (ST HO398.out) hb)
  replace HO402 := AM_ (Kd.R_below (RT HO402.out) hb)
  have HO413 := AM_ (Kd.R_lower (Kd.R_new' (Kd.R_new' ho0 (Kd.R_lt (RT HO369.out))) (Kd.R_lt (RT HO390.out))) (below_size (BT HB.out)))
  replace HO369 := AM_ (Kd.R_elder' (RT HO369.out) (Kd.R_base ho0) hb)
  replace HO390 := AM_ (Kd.R_elder' (RT HO390.out) (Kd.R_base ho0) hb)
  have HO416 := AM_ (Kd.R_lower (Kd.R_new' (Kd.R_new' ho1 (Kd.R_lt (RT HO372.out))) (Kd.R_lt (RT HO393.out))) (below_size (BT HB.out)))
  replace HO372 := AM_ (Kd.R_elder' (RT HO372.out) (Kd.R_base ho1) hb)
  replace HO393 := AM_ (Kd.R_elder' (RT HO393.out) (Kd.R_base ho1) hb)
  replace BK349 := AM_ (BB BK349.out hb)
  replace BK350 := AM_ (BB BK350.out hb)
  replace BK377 := AM_ (BB BK377.out hb)
  replace BK394 := AM_ (BB BK394.out hb)
  replace HB := AM_ (below_step (BT HB.out) hb)
  (try clear hb)
  (try clear hb2)
  (try clear hk)
  (try clear hi)
  (try clear ho0)
  (try clear ho1)
  obtain ⟨Ao91, co91, eo91⟩ := Kd.R_slice HO413.out
  (first | subst eo91 | (injection eo91 with f1_ f2_ f3_; have f4_ := f1_.symm; have f5_ := f3_.symm; clear f1_ f2_ f3_; subst f4_; subst f5_))
  obtain ⟨Ao92, co92, eo92⟩ := Kd.R_slice HO416.out
  (first | subst eo92 | (injection eo92 with f1_ f2_ f3_; have f4_ := f1_.symm; have f5_ := f3_.symm; clear f1_ f2_ f3_; subst f4_; subst f5_))
  refine hK.out _ _ ⟨bc BK394.out 0, bc BK394.out 1, bc BK394.out 2, bc BK394.out 3, bc BK394.out 4, bc BK394.out 5, bc BK394.out 6, bc BK394.out 7, bc BK394.out 8, bc BK350.out 0, bc BK350.out 1, bc BK350.out 2, bc BK350.out 3, bc BK350.out 4, bc BK350.out 5, bc BK350.out 6, bc BK350.out 7, bc BK350.out 8⟩ (fun hHeld => ?_)
  clear hK K
  refine norm_ (a' := ?_) ?_ ?_
  rotate_left
  ·show Act.put _ (some 64) _ = _
   simp only [pA, pS, pZ, pK, i64_w, i32_w]
   rfl
  refine one_ (i := 3) (N := some 65) (bs 15 5) rfl rfl (by kernel_rfl) (by decide) (fun K hK => ?_)
  refine goes_ Try.func39 (by kernel_rfl) rfl #[.agg #[.int .i64 t381, .int .i64 t382, .int .i64 t383, .int .i64 t384, .int .i64 t385, .int .i64 t386, .int .i64 t387, .slice Ao256 t388.length co256, .slice Ao257 t391.length co257], .agg #[.int .i64 t404, .int .i64 t405, .int .i64 t406, .int .i64 t407, .int .i64 t408, .int .i64 t409, .int .i64 t410, .slice Ao91 t411.length co91, .slice Ao92 t414.length co92]] (by rfl) rfl rfl (by (try simp only [List.map_toArray, List.map_cons, List.map_nil]); first | done | rfl | (simp only [List.length_drop, List.length_take]; rfl)) ?_
  with_reducible refine (laws_eqTransaction.calls k t381 t382 t383 t384 t385 t386 t387 _ _ t388 _ _ t391 t404 t405 t406 t407 t408 t409 t410 _ _ t411 _ _ t414 true _ ?side1 ?side2 ?side3 ?side4 ?side5 ?side6 ?side7 ?side8 A44.out).mono ?_
  (case side1 => exact Kd.C_below (Kd.R_reads' HO390.out).2.2 (BL (Below.refl _ _) rfl rfl rfl rfl))
  (case side2 => exact (Kd.R_reads' HO390.out).2.1)
  (case side3 => exact Kd.C_below (Kd.R_reads' HO393.out).2.2 (BL (Below.refl _ _) rfl rfl rfl rfl))
  (case side4 => exact (Kd.R_reads' HO393.out).2.1)
  (case side5 => exact Kd.C_below (Kd.R_reads' HO413.out).2.2 (BL (Below.refl _ _) rfl rfl rfl rfl))
  (case side6 => exact (Kd.R_reads' HO413.out).2.1)
  (case side7 => exact Kd.C_below (Kd.R_reads' HO416.out).2.2 (BL (Below.refl _ _) rfl rfl rfl rfl))
  (case side8 => exact (Kd.R_reads' HO416.out).2.1)
  rintro e w93 ⟨rfl, hb⟩
  refine ⟨_, rfl, ?_⟩
  replace HO356 := AM_ (Kd.S_below (ST HO356.out) hb)
  replace HO359 := AM_ (Kd.R_below (RT HO359.out) hb)
  replace HO369 := AM_ (Kd.R_below (RT HO369.out) hb)
  replace HO372 := AM_ (Kd.R_below (RT HO372.out) hb)
  replace HO376 := AM_ (Kd.S_below (ST HO376.out) hb)
  replace HO380 := AM_ (Kd.R_below (RT HO380.out) hb)
  replace HO390 := AM_ (Kd.R_below (RT HO390.out) hb)
  replace HO393 := AM_ (Kd.R_below (RT HO393.out) hb)
  replace HO398 := AM_ (Kd.S_below (ST HO398.out) hb)
  replace HO402 := AM_ (Kd.R_below (RT HO402.out) hb)
  replace HO413 := AM_ (Kd.R_below (RT HO413.out) hb)
  replace HO416 := AM_ (Kd.R_below (RT HO416.out) hb)
  replace BK349 := AM_ (BB BK349.out hb)
  replace BK350 := AM_ (BB BK350.out hb)
  replace BK377 := AM_ (BB BK377.out hb)
  replace BK394 := AM_ (BB BK394.out hb)
  replace HB := AM_ (below_step (BT HB.out) hb)
  (try clear hb)
  (try clear hb2)
  (try clear hk)
  (try clear hi)
  refine hK.out _ _ ⟨bc BK394.out 0, bc BK394.out 1, bc BK394.out 2, bc BK394.out 3, bc BK394.out 4, bc BK394.out 5, bc BK394.out 6, bc BK394.out 7, bc BK394.out 8, bc BK350.out 0, bc BK350.out 1, bc BK350.out 2, bc BK350.out 3, bc BK350.out 4, bc BK350.out 5, bc BK350.out 6, bc BK350.out 7, bc BK350.out 8⟩ (fun hHeld => ?_)
  clear hK K
  refine norm_ (a' := ?_) ?_ ?_
  rotate_left
  ·show Act.put _ (some 65) _ = _
   simp only [pA, pS, pZ, pK, i64_w, i32_w]
   rfl
  refine pure_ (i := 4) (N := some 66) (v := ?_) (a' := ?_) (bs 31 5) rfl rfl (by kernel_rfl) (fun _ _ _ h => h) (Or.inl ⟨by rfl, ?_⟩) ?_ ?_
  rotate_left
  ·intro w'
   go_simp
   with_reducible rfl
  rotate_left
  ·simp only [pA, pS, pZ, pK, i64_w, i32_w]
   rfl
  refine done_ (by kernel_rfl) ?_
  try go_wp2
  go_ret
  exact QT (BT HB.out)
 replace c45 := Bool.eq_false_iff.mpr c45
 subst c45
 have H1 : (some false) = some r := by rw [if_neg (show ¬ (false = true) by decide)] at H; exact H
 clear H
 have H := H1
 clear H1
 obtain rfl := Option.some.inj H
 try go_wp2
 replace HO356 := AM_ (Kd.S_drew HO356.out)
 replace HO359 := AM_ (Kd.R_drew HO359.out)
 replace HO369 := AM_ (Kd.R_drew HO369.out)
 replace HO372 := AM_ (Kd.R_drew HO372.out)
 replace HO376 := AM_ (Kd.S_drew HO376.out)
 replace HO380 := AM_ (Kd.R_drew HO380.out)
 replace HO390 := AM_ (Kd.R_drew HO390.out)
 replace HO393 := AM_ (Kd.R_drew HO393.out)
 replace BK349 := AM_ (blk_drew BK349.out)
 replace BK350 := AM_ (blk_drew BK350.out)
 replace BK377 := AM_ (blk_drew BK377.out)
 replace BK394 := AM_ (blk_drew BK394.out)
 replace HB := AM_ (below_drew1 HB.out)
 refine start_ (n := 5) (S := fun w' => w'.cell? ⟨gb377, 0, none⟩ = some (.slice Ao244 t374.length co244) ∧ w'.cell? ⟨gb349, 0, none⟩ = some (.slice A0_0 l0_0.length c0_0)) (ds := []) (bs 0 5) (by kernel_rfl) rfl rfl ⟨bc BK377.out 0, bc BK349.out 0⟩ (fun hHeld => ?_)
 generalize w260.drew = w130 at HO356 HO359 HO369 HO372 HO376 HO380 HO390 HO393 BK349 BK350 BK377 BK394 HB hHeld ⊢
 refine take_ (i := 0) (N := some 52) (v := ?_) (a' := ?_) (bs 1 5) rfl rfl (by kernel_rfl) (fun _ _ _ h => h) (Or.inl ⟨by rfl, ?_⟩) hHeld ?_ ?_
 rotate_left
 ·rintro w' ⟨s0, s1⟩
  go_simp
  with_reducible rfl
 rotate_left
 ·simp only [pA, pS, pZ, pK, i64_w, i32_w]
  rfl
 refine take_ (i := 1) (N := some 53) (v := ?_) (a' := ?_) (bs 3 5) rfl rfl (by kernel_rfl) (fun _ _ _ h => h) (Or.inl ⟨by rfl, ?_⟩) hHeld ?_ ?_
 rotate_left
 ·rintro w' ⟨s0, s1⟩
  go_simp
  with_reducible rfl
 rotate_left
 ·simp only [pA, pS, pZ, pK, i64_w, i32_w]
  rfl
 refine one_ (i := 2) (N := some 54) (bs 7 5) rfl rfl (by kernel_rfl) (by decide) (fun K hK => ?_)
 refine goes_ Try.func35 (by kernel_rfl) rfl #[.agg #[.slice A0_0 l0_0.length c0_0]] (by rfl) rfl rfl (by (try simp only [List.map_toArray, List.map_cons, List.map_nil]); first | done | rfl | (simp only [List.length_drop, List.length_take]; rfl)) ?_
 with_reducible refine (laws_toStore.calls k _ _ l0_0 t396 _ ?side1 ?side2 A37.out).mono ?_
 (case side1 => exact CB HR0_0.out HB.out)
 (case side2 => exact HC0_0.out)
 rintro e w131 ⟨v397, rfl, ho0, hb⟩
 refine ⟨_, rfl, ?_⟩
 replace HO359 := AM_ (Kd.R_below (RT HO359.out) hb)
 replace HO369 := AM_ (Kd.R_below (RT HO369.out) hb)
 replace HO372 := AM_ (Kd.R_below (RT HO372.out) hb)
 replace HO380 := AM_ (Kd.R_below (RT HO380.out) hb)
 replace HO390 := AM_ (Kd.R_below (RT HO390.out) hb)
 replace HO393 := AM_ (Kd.R_below (RT HO393.out) hb)
 have HO398 := AM_ (Kd.S_lower (Kd.S_new' (Kd.S_new' ho0 (Kd.S_lt (ST HO356.out))) (Kd.S_lt (ST HO376.out))) (below_size (BT HB.out)))
 replace HO356 := AM_ (Kd.S_elder' (ST HO356.out) (Kd.S_base ho0) hb)
 replace HO376 := AM_ (Kd.S_elder' (ST HO376.out) (Kd.S_base ho0) hb)
 replace BK349 := AM_ (BB BK349.out hb)
 replace BK350 := AM_ (BB BK350.out hb)
 replace BK377 := AM_ (BB BK377.out hb)
 replace BK394 := AM_ (BB BK394.out hb)
 replace HB := AM_ (below_step (BT HB.out) hb)
 (try clear hb)
 (try clear hb2)
 (try clear hk)
 (try clear hi)
 (try clear ho0)
 obtain ⟨Ao132, co132, eo132⟩ := Kd.S_slice HO398.out
 (first | subst eo132 | (injection eo132 with f1_ f2_ f3_; have f4_ := f1_.symm; have f5_ := f3_.symm; clear f1_ f2_ f3_; subst f4_; subst f5_))
 refine hK.out _ _ ⟨bc BK377.out 0, bc BK349.out 0⟩ (fun hHeld => ?_)
 clear hK K
 refine norm_ (a' := ?_) ?_ ?_
 rotate_left
 ·show Act.put _ (some 54) _ = _
  simp only [pA, pS, pZ, pK, i64_w, i32_w]
  rfl
 refine one_ (i := 3) (N := some 55) (bs 15 5) rfl rfl (by kernel_rfl) (by decide) (fun K hK => ?_)
 refine goes_ Try.func38 (by kernel_rfl) rfl #[.agg #[.slice Ao244 t374.length co244], .agg #[.slice Ao132 t396.length co132]] (by rfl) rfl rfl (by (try simp only [List.map_toArray, List.map_cons, List.map_nil]); first | done | rfl | (simp only [List.length_drop, List.length_take]; rfl)) ?_
 with_reducible refine (laws_eqStore.calls k _ _ t374 _ _ t396 true _ ?side1 ?side2 ?side3 ?side4 A38.out).mono ?_
 (case side1 => exact Kd.C_below (Kd.S_reads' HO376.out).2.2 (BL (Below.refl _ _) rfl rfl rfl rfl))
 (case side2 => exact (Kd.S_reads' HO376.out).2.1)
 (case side3 => exact Kd.C_below (Kd.S_reads' HO398.out).2.2 (BL (Below.refl _ _) rfl rfl rfl rfl))
 (case side4 => exact (Kd.S_reads' HO398.out).2.1)
 rintro e w133 ⟨rfl, hb⟩
 refine ⟨_, rfl, ?_⟩
 replace HO356 := AM_ (Kd.S_below (ST HO356.out) hb)
 replace HO359 := AM_ (Kd.R_below (RT HO359.out) hb)
 replace HO369 := AM_ (Kd.R_below (RT HO369.out) hb)
 replace HO372 := AM_ (Kd.R_below (RT HO372.out) hb)
 replace HO376 := AM_ (Kd.S_below (ST HO376.out) hb)
 replace HO380 := AM_ (Kd.R_below (RT HO380.out) hb)
 replace HO390 := AM_ (Kd.R_below (RT HO390.out) hb)
 replace HO393 := AM_ (Kd.R_below (RT HO393.out) hb)
 replace HO398 := AM_ (Kd.S_below (ST HO398.out) hb)
 replace BK349 := AM_ (BB BK349.out hb)
 replace BK350 := AM_ (BB BK350.out hb)
 replace BK377 := AM_ (BB BK377.out hb)
 replace BK394 := AM_ (BB BK394.out hb)
 replace HB := AM_ (below_step (BT HB.out) hb)
 (try clear hb)
 (try clear hb2)
 (try clear hk)
 (try clear hi)
 refine hK.out _ _ ⟨bc BK377.out 0, bc BK349.out 0⟩ (fun hHeld => ?_)
 clear hK K
 refine norm_ (a' := ?_) ?_ ?_
 rotate_left
 ·show Act.put _ (some 55) _ = _
  simp only [pA, pS, pZ, pK, i64_w, i32_w]
  rfl
 refine pure_ (i := 4) (N := some 56) (v := ?_) (a' := ?_) (bs 31 5) rfl rfl (by kernel_rfl) (fun _ _ _ h => h) (Or.inl ⟨by rfl, ?_⟩) ?_ ?_
 rotate_left
 ·intro w'
  go_simp
  with_reducible rfl
 rotate_left
 ·simp only [pA, pS, pZ, pK, i64_w, i32_w]
  rfl
 refine done_ (by kernel_rfl) ?_
 try go_wp2_with (first | ((with_reducible refine gate_callee (f := 57) rfl ?_); refine goesL_ (some 59) rfl rfl Try.func57 (by kernel_rfl) rfl #[.slice A1 l1.length c1] rfl (by (try simp only [List.map_toArray, List.map_cons, List.map_nil]); first | done | rfl | (simp only [List.length_drop, List.length_take]; rfl)) ?_; (with_reducible refine (laws_toLockS.calls k _ _ l1 t400 _ ?side1 ?side2 A40.out).mono ?_); (case side1 => exact CB HR1.out HB.out); (case side2 => exact HC1.out); rintro e w134 ⟨v401, rfl, ho0, hb⟩; refine ⟨_, rfl, ?_⟩; replace HO356 := AM_ (Kd.S_below (ST HO356.out) hb); replace HO369 := AM_ (Kd.R_below (RT HO369.out) hb); replace HO372 := AM_ (Kd.R_below (RT HO372.out) hb); replace HO376 := AM_ (Kd.S_below (ST HO376.out) hb); replace HO390 := AM_ (Kd.R_below (RT HO390.out) hb); replace HO393 := AM_ (Kd.R_below (RT HO393.out) hb); replace HO398 := AM_ (Kd.S_below (ST HO398.out) hb); have HO402 := AM_ (Kd.R_lower (Kd.R_new' (Kd.R_new' ho0 (Kd.R_lt (RT HO359.out))) (Kd.R_lt (RT HO380.out))) (below_size (BT HB.out))); replace HO359 := AM_ (Kd.R_elder' (RT HO359.out) (Kd.R_base ho0) hb); replace HO380 := AM_ (Kd.R_elder' (RT HO380.out) (Kd.R_base ho0) hb); replace BK349 := AM_ (BB BK349.out hb); replace BK350 := AM_ (BB BK350.out hb); replace BK377 := AM_ (BB BK377.out hb); replace BK394 := AM_ (BB BK394.out hb); replace HB := AM_ (below_step (BT HB.out) hb); (try clear hb); (try clear hb2); (try clear hk); (try clear hi); (try clear ho0); obtain ⟨Ao135, co135, eo135⟩ := Kd.R_slice HO402.out; subst eo135) | ((with_reducible refine gate_callee (f := 58) rfl ?_); refine goesL_ (some 60) rfl rfl Try.func58 (by kernel_rfl) rfl #[.slice Ao259 t378.length co259, .slice Ao135 t400.length co135] rfl (by (try simp only [List.map_toArray, List.map_cons, List.map_nil]); first | done | rfl | (simp only [List.length_drop, List.length_take]; rfl)) ?_; (with_reducible refine (laws_eqLockS.calls k _ _ t378 _ _ t400 true _ ?side1 ?side2 ?side3 ?side4 A41.out).mono ?_); (case side1 => exact Kd.C_below (Kd.R_reads' HO380.out).2.2 (BL (Below.refl _ _) rfl rfl rfl rfl)); (case side2 => exact (Kd.R_reads' HO380.out).2.1); (case side3 => exact Kd.C_below (Kd.R_reads' HO402.out).2.2 (BL (Below.refl _ _) rfl rfl rfl rfl)); (case side4 => exact (Kd.R_reads' HO402.out).2.1); rintro e w136 ⟨rfl, hb⟩; refine ⟨_, rfl, ?_⟩; replace HO356 := AM_ (Kd.S_below (ST HO356.out) hb); replace HO359 := AM_ (Kd.R_below (RT HO359.out) hb); replace HO369 := AM_ (Kd.R_below (RT HO369.out) hb); replace HO372 := AM_ (Kd.R_below (RT HO372.out) hb); replace HO376 := AM_ (Kd.S_below (ST HO376.out) hb); replace HO380 := AM_ (Kd.R_below (RT HO380.out) hb); replace HO390 := AM_ (Kd.R_below (RT HO390.out) hb); replace HO393 := AM_ (Kd.R_below (RT HO393.out) hb); replace HO398 := AM_ (Kd.S_below (ST HO398.out) hb); replace HO402 := AM_ (Kd.R_below (RT HO402.out) hb); replace BK349 := AM_ (BB BK349.out hb); replace BK350 := AM_ (BB BK350.out hb); replace BK377 := AM_ (BB BK377.out hb); replace BK394 := AM_ (BB BK394.out hb); replace HB := AM_ (below_step (BT HB.out) hb); (try clear hb); (try clear hb2); (try clear hk); (try clear hi)))
 replace HO356 := AM_ (Kd.S_drew HO356.out)
 replace HO359 := AM_ (Kd.R_drew HO359.out)
 replace HO369 := AM_ (Kd.R_drew HO369.out)
 replace HO372 := AM_ (Kd.R_drew HO372.out)
 replace HO376 := AM_ (Kd.S_drew HO376.out)
 replace HO380 := AM_ (Kd.R_drew HO380.out)
 replace HO390 := AM_ (Kd.R_drew HO390.out)
 replace HO393 := AM_ (Kd.R_drew HO393.out)
 replace HO398 := AM_ (Kd.S_drew HO398.out)
 replace HO402 := AM_ (Kd.R_drew HO402.out)
 replace BK349 := AM_ (blk_drew BK349.out)
 replace BK350 := AM_ (blk_drew BK350.out)
 replace BK377 := AM_ (blk_drew BK377.out)
 replace BK394 := AM_ (blk_drew BK394.out)
 replace HB := AM_ (below_drew1 HB.out)
 refine start_ (n := 5) (S := fun w' => w'.cell? ⟨gb394, 0, none⟩ = some (.int .i64 t381) ∧ w'.cell? ⟨gb394, 1, none⟩ = some (.int .i64 t382) ∧ w'.cell? ⟨gb394, 2, none⟩ = some (.int .i64 t383) ∧ w'.cell? ⟨gb394, 3, none⟩ = some (.int .i64 t384) ∧ w'.cell? ⟨gb394, 4, none⟩ = some (.int .i64 t385) ∧ w'.cell? ⟨gb394, 5, none⟩ = some (.int .i64 t386) ∧ w'.cell? ⟨gb394, 6, none⟩ = some (.int .i64 t387) ∧ w'.cell? ⟨gb394, 7, none⟩ = some (.slice Ao256 t388.length co256) ∧ w'.cell? ⟨gb394, 8, none⟩ = some (.slice Ao257 t391.length co257) ∧ w'.cell? ⟨gb350, 0, none⟩ = some (.int .i64 a2_0) ∧ w'.cell? ⟨gb350, 1, none⟩ = some (.int .i64 a2_1) ∧ w'.cell? ⟨gb350, 2, none⟩ = some (.int .i64 a2_2) ∧ w'.cell? ⟨gb350, 3, none⟩ = some (.int .i64 a2_3) ∧ w'.cell? ⟨gb350, 4, none⟩ = some (.int .i64 a2_4) ∧ w'.cell? ⟨gb350, 5, none⟩ = some (.int .i64 a2_5) ∧ w'.cell? ⟨gb350, 6, none⟩ = some (.int .i64 a2_6) ∧ w'.cell? ⟨gb350, 7, none⟩ = some (.slice A2_7 l2_7.length c2_7) ∧ w'.cell? ⟨gb350, 8, none⟩ = some (.slice A2_8 l2_8.length c2_8)) (ds := []) (bs 0 5) (by kernel_rfl) rfl rfl ⟨bc BK394.out 0, bc BK394.out 1, bc BK394.out 2, bc BK394.out 3, bc BK394.out 4, bc BK394.out 5, bc BK394.out 6, bc BK394.out 7, bc BK394.out 8, bc BK350.out 0, bc BK350.out 1, bc BK350.out 2, bc BK350.out 3, bc BK350.out 4, bc BK350.out 5, bc BK350.out 6, bc BK350.out 7, bc BK350.out 8⟩ (fun hHeld => ?_)
 generalize w136.drew = w137 at HO356 HO359 HO369 HO372 HO376 HO380 HO390 HO393 HO398 HO402 BK349 BK350 BK377 BK394 HB hHeld ⊢
 refine take_ (i := 0) (N := some 62) (v := ?_) (a' := ?_) (bs 1 5) rfl rfl (by kernel_rfl) (fun _ _ _ h => h) (Or.inl ⟨by rfl, ?_⟩) hHeld ?_ ?_
 rotate_left
 ·rintro w' ⟨s0, s1, s2, s3, s4, s5, s6, s7, s8, s9, s10, s11, s12, s13, s14, s15, s16, s17⟩
  go_simp
  with_reducible rfl
 rotate_left
 ·simp only [pA, pS, pZ, pK, i64_w, i32_w]
  rfl
 refine take_ (i := 1) (N := some 63) (v := ?_) (a' := ?_) (bs 3 5) rfl rfl (by kernel_rfl) (fun _ _ _ h => h) (Or.inl ⟨by rfl, ?_⟩) hHeld ?_ ?_
 rotate_left
 ·rintro w' ⟨s0, s1, s2, s3, s4, s5, s6, s7, s8, s9, s10, s11, s12, s13, s14, s15, s16, s17⟩
  go_simp
  with_reducible rfl
 rotate_left
 ·simp only [pA, pS, pZ, pK, i64_w, i32_w]
  rfl
 refine one_ (i := 2) (N := some 64) (bs 7 5) rfl rfl (by kernel_rfl) (by decide) (fun K hK => ?_)
 refine goes_ Try.func36 (by kernel_rfl) rfl #[.agg #[.int .i64 a2_0, .int .i64 a2_1, .int .i64 a2_2, .int .i64 a2_3, .int .i64 a2_4, .int .i64 a2_5, .int .i64 a2_6, .slice A2_7 l2_7.length c2_7, .slice A2_8 l2_8.length c2_8]] (by rfl) rfl rfl (by (try simp only [List.map_toArray, List.map_cons, List.map_nil]); first | done | rfl | (simp only [List.length_drop, List.length_take]; rfl)) ?_
 with_reducible refine (laws_toTransaction.calls k a2_0 a2_1 a2_2 a2_3 a2_4 a2_5 a2_6 _ _ l2_7 _ _ l2_8 t404 t405 t406 t407 t408 t409 t410 t411 t414 _ ?side1 ?side2 ?side3 ?side4 A43.out).mono ?_
 (case side1 => exact CB HR2_7.out HB.out)
 (case side2 => exact HC2_7.out)
 (case side3 => exact CB HR2_8.out HB.out)
 (case side4 => exact HC2_8.out)
 rintro e w138 ⟨v412, v415, rfl, ho0, ho1, hb⟩
 refine ⟨_, rfl, ?_⟩
 replace HO356 := AM_ (Kd.S_below (ST HO356.out) hb)
 replace HO359 := AM_ (Kd.R_below (RT HO359.out) hb)
 replace HO376 := AM_ (Kd.S_below (ST HO376.out) hb)
 replace HO380 := AM_ (Kd.R_below (RT HO380.out) hb)
 replace HO398 := AM_ (Kd.S_below (ST HO398.out) hb)
 replace HO402 := AM_ (Kd.R_below (RT HO402.out) hb)
 have HO413 := AM_ (Kd.R_lower (Kd.R_new' (Kd.R_new' ho0 (Kd.R_lt (RT HO369.out))) (Kd.R_lt (RT HO390.out))) (below_size (BT HB.out)))
 replace HO369 := AM_ (Kd.R_elder' (RT HO369.out) (Kd.R_base ho0) hb)
 replace HO390 := AM_ (Kd.R_elder' (RT HO390.out) (Kd.R_base ho0) hb)
 have HO416 := AM_ (Kd.R_lower (Kd.R_new' (Kd.R_new' ho1 (Kd.R_lt (RT HO372.out))) (Kd.R_lt (RT HO393.out))) (below_size (BT HB.out)))
 replace HO372 := AM_ (Kd.R_elder' (RT HO372.out) (Kd.R_base ho1) hb)
 replace HO393 := AM_ (Kd.R_elder' (RT HO393.out) (Kd.R_base ho1) hb)
 replace BK349 := AM_ (BB BK349.out hb)
 replace BK350 := AM_ (BB BK350.out hb)
 replace BK377 := AM_ (BB BK377.out hb)
 replace BK394 := AM_ (BB BK394.out hb)
 replace HB := AM_ (below_step (BT HB.out) hb)
 (try clear hb)
 (try clear hb2)
 (try clear hk)
 (try clear hi)
 (try clear ho0)
 (try clear ho1)
 obtain ⟨Ao139, co139, eo139⟩ := Kd.R_slice HO413.out
 (first | subst eo139 | (injection eo139 with f1_ f2_ f3_; have f4_ := f1_.symm; have f5_ := f3_.symm; clear f1_ f2_ f3_; subst f4_; subst f5_))
 obtain ⟨Ao140, co140, eo140⟩ := Kd.R_slice HO416.out
 (first | subst eo140 | (injection eo140 with f1_ f2_ f3_; have f4_ := f1_.symm; have f5_ := f3_.symm; clear f1_ f2_ f3_; subst f4_; subst f5_))
 refine hK.out _ _ ⟨bc BK394.out 0, bc BK394.out 1, bc BK394.out 2, bc BK394.out 3, bc BK394.out 4, bc BK394.out 5, bc BK394.out 6, bc BK394.out 7, bc BK394.out 8, bc BK350.out 0, bc BK350.out 1, bc BK350.out 2, bc BK350.out 3, bc BK350.out 4, bc BK350.out 5, bc BK350.out 6, bc BK350.out 7, bc BK350.out 8⟩ (fun hHeld => ?_)
 clear hK K
 refine norm_ (a' := ?_) ?_ ?_
 rotate_left
 ·show Act.put _ (some 64) _ = _
  simp only [pA, pS, pZ, pK, i64_w, i32_w]
  rfl
 refine one_ (i := 3) (N := some 65) (bs 15 5) rfl rfl (by kernel_rfl) (by decide) (fun K hK => ?_)
 refine goes_ Try.func39 (by kernel_rfl) rfl #[.agg #[.int .i64 t381, .int .i64 t382, .int .i64 t383, .int .i64 t384, .int .i64 t385, .int .i64 t386, .int .i64 t387, .slice Ao256 t388.length co256, .slice Ao257 t391.length co257], .agg #[.int .i64 t404, .int .i64 t405, .int .i64 t406, .int .i64 t407, .int .i64 t408, .int .i64 t409, .int .i64 t410, .slice Ao139 t411.length co139, .slice Ao140 t414.length co140]] (by rfl) rfl rfl (by (try simp only [List.map_toArray, List.map_cons, List.map_nil]); first | done | rfl | (simp only [List.length_drop, List.length_take]; rfl)) ?_
 with_reducible refine (laws_eqTransaction.calls k t381 t382 t383 t384 t385 t386 t387 _ _ t388 _ _ t391 t404 t405 t406 t407 t408 t409 t410 _ _ t411 _ _ t414 false _ ?side1 ?side2 ?side3 ?side4 ?side5 ?side6 ?side7 ?side8 A44.out).mono ?_
 (case side1 => exact Kd.C_below (Kd.R_reads' HO390.out).2.2 (BL (Below.refl _ _) rfl rfl rfl rfl))
 (case side2 => exact (Kd.R_reads' HO390.out).2.1)
 (case side3 => exact Kd.C_below (Kd.R_reads' HO393.out).2.2 (BL (Below.refl _ _) rfl rfl rfl rfl))
 (case side4 => exact (Kd.R_reads' HO393.out).2.1)
 (case side5 => exact Kd.C_below (Kd.R_reads' HO413.out).2.2 (BL (Below.refl _ _) rfl rfl rfl rfl))
 (case side6 => exact (Kd.R_reads' HO413.out).2.1)
 (case side7 => exact Kd.C_below (Kd.R_reads' HO416.out).2.2 (BL (Below.refl _ _) rfl rfl rfl rfl))
 (case side8 => exact (Kd.R_reads' HO416.out).2.1)
 rintro e w141 ⟨rfl, hb⟩
 refine ⟨_, rfl, ?_⟩
 replace HO356 := AM_ (Kd.S_below (ST HO356.out) hb)
 replace HO359 := AM_ (Kd.R_below (RT HO359.out) hb)
 replace HO369 := AM_ (Kd.R_below (RT HO369.out) hb)
 replace HO372 := AM_ (Kd.R_below (RT HO372.out) hb)
 replace HO376 := AM_ (Kd.S_below (ST HO376.out) hb)
 replace HO380 := AM_ (Kd.R_below (RT HO380.out) hb)
 replace HO390 := AM_ (Kd.R_below (RT HO390.out) hb)
 replace HO393 := AM_ (Kd.R_below (RT HO393.out) hb)
 replace HO398 := AM_ (Kd.S_below (ST HO398.out) hb)
 replace HO402 := AM_ (Kd.R_below (RT HO402.out) hb)
 replace HO413 := AM_ (Kd.R_below (RT HO413.out) hb)
 replace HO416 := AM_ (Kd.R_below (RT HO416.out) hb)
 replace BK349 := AM_ (BB BK349.out hb)
 replace BK350 := AM_ (BB BK350.out hb)
 replace BK377 := AM_ (BB BK377.out hb)
 replace BK394 := AM_ (BB BK394.out hb)
 replace HB := AM_ (below_step (BT HB.out) hb)
 (try clear hb)
 (try clear hb2)
 (try clear hk)
 (try clear hi)
 refine hK.out _ _ ⟨bc BK394.out 0, bc BK394.out 1, bc BK394.out 2, bc BK394.out 3, bc BK394.out 4, bc BK394.out 5, bc BK394.out 6, bc BK394.out 7, bc BK394.out 8, bc BK350.out 0, bc BK350.out 1, bc BK350.out 2, bc BK350.out 3, bc BK350.out 4, bc BK350.out 5, bc BK350.out 6, bc BK350.out 7, bc BK350.out 8⟩ (fun hHeld => ?_)
 clear hK K
 refine norm_ (a' := ?_) ?_ ?_
 rotate_left
 ·show Act.put _ (some 65) _ = _
  simp only [pA, pS, pZ, pK, i64_w, i32_w]
  rfl
 refine pure_ (i := 4) (N := some 66) (v := ?_) (a' := ?_) (bs 31 5) rfl rfl (by kernel_rfl) (fun _ _ _ h => h) (Or.inl ⟨by rfl, ?_⟩) ?_ ?_
 rotate_left
 ·intro w'
  go_simp
  with_reducible rfl
 rotate_left
 ·simp only [pA, pS, pZ, pK, i64_w, i32_w]
  rfl
 refine done_ (by kernel_rfl) ?_
 try go_wp2
 go_ret
 exact QT (BT HB.out)

end Go.Proofs.Ytakpkmlbklahhaa.PFnExactWriteCode
