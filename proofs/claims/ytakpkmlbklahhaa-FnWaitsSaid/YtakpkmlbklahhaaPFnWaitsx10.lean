-- Printed by a program of mine (wip/myprint.py), which runs the printer of the kit with contracts of mine beside it.
import Derived.Test.YtakpkmlbklahhaaPFnWaitsx0
import Derived.Test.YtakpkmlbklahhaaPFnWaitsx1
import Derived.Test.YtakpkmlbklahhaaPFnWaitsx2
import Derived.Test.YtakpkmlbklahhaaPFnWaitsx3
import Derived.Test.YtakpkmlbklahhaaPFnWaitsx4
import Derived.Test.YtakpkmlbklahhaaPFnWaitsx6
import Derived.Test.YtakpkmlbklahhaaPFnWaitsx7
import Derived.Test.YtakpkmlbklahhaaPFnWaitsx8
import Derived.Test.YtakpkmlbklahhaaPFnWaitsx9
namespace Go.Proofs.Ytakpkmlbklahhaa.PFnWaits
open Go.RowKit Go.Proofs.YtakpkmlbklahhaaW.PrintWords Go.Proofs.YtakpkmlbklahhaaW.PrintLast Go.Proofs.YtakpkmlbklahhaaW.PrintMore
attribute [local go_sem] max2_int min2_int max_two min_two max_three min_three max_four min_four   -- for this text's walks alone
set_option linter.unusedVariables false
set_option linter.unusedSimpArgs false

/-! ### laws_FnWaits: function 3 -/
mutual
def laws_FnWaits.j0 : Nat → List (S36) → Int → Int → List (S36) → Bool → List (S36) → Bool → Option (Bool)
 | 0, _, _, _, _, _, _, _ => none
 | k + 1, x3, x4, x5, x6, x7, x8, x62 => if x62 = true then (some false) else ((impl_WaitChain.f k x6 x4).bind fun t368 => ((spec_WaitChain.f k x8 x4).bind fun t371 => ((laws_sameInts.f k t368 t371).bind fun t374 => (if t374 = true then (if x7 = true then (if (t368.length : Int) < 2 then (laws_FnWaits.j1 k x4 x6 x8 true) else (if 0 < (t368.length : Int) then (if (rd t368 0) = x4 then (if 1 < (t368.length : Int) then (if (rd t368 1) = x5 then ((impl_WouldDeadlock.f k x3 x4 x5).bind fun t377 => (if 0 ≤ (wrap64 ((t368.length : Int) - 1)) then (if (wrap64 ((t368.length : Int) - 1)) < (t368.length : Int) then (laws_FnWaits.j1 k x4 x6 x8 (t377 != ((rd t368 (wrap64 ((t368.length : Int) - 1))) == x4))) else (none)) else (none))) else (laws_FnWaits.j1 k x4 x6 x8 true)) else (none)) else (laws_FnWaits.j1 k x4 x6 x8 true)) else (none))) else (laws_FnWaits.j1 k x4 x6 x8 false)) else (some false)))))
def laws_FnWaits.j1 : Nat → Int → List (S36) → List (S36) → Bool → Option (Bool)
 | 0, _, _, _, _ => none
 | k + 1, x4, x6, x8, x106 => if x106 = true then (some false) else ((impl_ClearWaits.f k x6 x4).bind fun t379 => (laws_FnWaits.l0 k x4 x8 t379 0))
def laws_FnWaits.l0 : Nat → Int → List (S36) → List (S36) → Int → Option (Bool)
 | 0, _, _, _, _ => none
 | k + 1, x4, x8, x11, x12 => if x12 < (x11.length : Int) then (if 0 ≤ x12 then (if ((rd_T36 x11 x12).f0) = x4 then (some false) else (if ((rd_T36 x11 x12).f1) = x4 then (some false) else (laws_FnWaits.l0 k x4 x8 x11 (wrap64 (x12 + 1))))) else (none)) else ((spec_ClearWaits.f k x8 x4).bind fun t384 => (some ((x11.length : Int) == (t384.length : Int))))
end
def laws_FnWaits.f (k : Nat) (l0 : List Int) : Option (Bool) := (laws_big.f l0).bind fun t350 => (if t350 = true then (some true) else ((spec_DrawSetWait.f k l0).bind fun bt351 => ((impl_SetWait.f k bt351.1 bt351.2.1 bt351.2.2).bind fun bt356 => ((spec_SetWait.f k bt351.1 bt351.2.1 bt351.2.2).bind fun bt360 => (if (bt356.2 != bt360.2) = true then (laws_FnWaits.j0 k bt351.1 bt351.2.1 bt351.2.2 bt356.1 bt356.2 bt360.1 true) else (if (bt356.1.length : Int) = (bt360.1.length : Int) then ((impl_AreWaits.f k bt351.1).bind fun t364 => ((spec_AreWaits.f k bt351.1).bind fun t365 => (if (t364 != t365) = true then (laws_FnWaits.j0 k bt351.1 bt351.2.1 bt351.2.2 bt356.1 bt356.2 bt360.1 true) else ((impl_WouldDeadlock.f k bt351.1 bt351.2.1 bt351.2.2).bind fun t366 => ((spec_WouldDeadlock.f k bt351.1 bt351.2.1 bt351.2.2).bind fun t367 => (laws_FnWaits.j0 k bt351.1 bt351.2.1 bt351.2.2 bt356.1 bt356.2 bt360.1 (t366 != t367))))))) else (laws_FnWaits.j0 k bt351.1 bt351.2.1 bt351.2.2 bt356.1 bt356.2 bt360.1 true)))))))
theorem laws_FnWaits.mono_l : ∀ k, (∀ y0 y1 y2 y3 y4 y5 y6, LeO (laws_FnWaits.j0 k y0 y1 y2 y3 y4 y5 y6) (laws_FnWaits.j0 (k + 1) y0 y1 y2 y3 y4 y5 y6)) ∧ (∀ y0 y1 y2 y3, LeO (laws_FnWaits.j1 k y0 y1 y2 y3) (laws_FnWaits.j1 (k + 1) y0 y1 y2 y3)) ∧ (∀ y0 y1 y2 y3, LeO (laws_FnWaits.l0 k y0 y1 y2 y3) (laws_FnWaits.l0 (k + 1) y0 y1 y2 y3))
 | 0 => ⟨fun _ _ _ _ _ _ _ r h => by simp [laws_FnWaits.j0] at h, fun _ _ _ _ r h => by simp [laws_FnWaits.j1] at h, fun _ _ _ _ r h => by simp [laws_FnWaits.l0] at h⟩
 | k + 1 => by
  obtain ⟨ih0, ih1, ih2⟩ := laws_FnWaits.mono_l k
  refine ⟨?_, ?_, ?_⟩
  ·intro y0 y1 y2 y3 y4 y5 y6
   unfold laws_FnWaits.j0
   repeat' first
   | (with_reducible exact ih0 _ _ _ _ _ _ _)
   | (with_reducible exact ih1 _ _ _ _)
   | (with_reducible exact ih2 _ _ _ _)
   | (with_reducible exact impl_AreWaits.mono _ _)
   | (with_reducible exact impl_ClearWaits.mono _ _ _)
   | (with_reducible exact impl_SetWait.mono _ _ _ _)
   | (with_reducible exact impl_WaitChain.mono _ _ _)
   | (with_reducible exact impl_WouldDeadlock.mono _ _ _ _)
   | (with_reducible exact laws_sameInts.mono _ _ _)
   | (with_reducible exact spec_AreWaits.mono _ _)
   | (with_reducible exact spec_ClearWaits.mono _ _ _)
   | (with_reducible exact spec_DrawSetWait.mono _ _)
   | (with_reducible exact spec_SetWait.mono _ _ _ _)
   | (with_reducible exact spec_WaitChain.mono _ _ _)
   | (with_reducible exact spec_WouldDeadlock.mono _ _ _ _)
   | (with_reducible exact LeO.refl _)
   | (with_reducible exact LeO.none _)
   | (with_reducible refine LeO.ite ?_ ?_)
   | (with_reducible refine LeO.bind ?_ (fun _ => ?_))
   | exact ih0 _ _ _ _ _ _ _
   | exact ih1 _ _ _ _
   | exact ih2 _ _ _ _
   | exact impl_AreWaits.mono _ _
   | exact impl_ClearWaits.mono _ _ _
   | exact impl_SetWait.mono _ _ _ _
   | exact impl_WaitChain.mono _ _ _
   | exact impl_WouldDeadlock.mono _ _ _ _
   | exact laws_sameInts.mono _ _ _
   | exact spec_AreWaits.mono _ _
   | exact spec_ClearWaits.mono _ _ _
   | exact spec_DrawSetWait.mono _ _
   | exact spec_SetWait.mono _ _ _ _
   | exact spec_WaitChain.mono _ _ _
   | exact spec_WouldDeadlock.mono _ _ _ _
   | exact LeO.none _
   | refine LeO.ite ?_ ?_
   | refine LeO.bind ?_ (fun _ => ?_)
  ·intro y0 y1 y2 y3
   unfold laws_FnWaits.j1
   repeat' first
   | (with_reducible exact ih0 _ _ _ _ _ _ _)
   | (with_reducible exact ih1 _ _ _ _)
   | (with_reducible exact ih2 _ _ _ _)
   | (with_reducible exact impl_AreWaits.mono _ _)
   | (with_reducible exact impl_ClearWaits.mono _ _ _)
   | (with_reducible exact impl_SetWait.mono _ _ _ _)
   | (with_reducible exact impl_WaitChain.mono _ _ _)
   | (with_reducible exact impl_WouldDeadlock.mono _ _ _ _)
   | (with_reducible exact laws_sameInts.mono _ _ _)
   | (with_reducible exact spec_AreWaits.mono _ _)
   | (with_reducible exact spec_ClearWaits.mono _ _ _)
   | (with_reducible exact spec_DrawSetWait.mono _ _)
   | (with_reducible exact spec_SetWait.mono _ _ _ _)
   | (with_reducible exact spec_WaitChain.mono _ _ _)
   | (with_reducible exact spec_WouldDeadlock.mono _ _ _ _)
   | (with_reducible exact LeO.refl _)
   | (with_reducible exact LeO.none _)
   | (with_reducible refine LeO.ite ?_ ?_)
   | (with_reducible refine LeO.bind ?_ (fun _ => ?_))
   | exact ih0 _ _ _ _ _ _ _
   | exact ih1 _ _ _ _
   | exact ih2 _ _ _ _
   | exact impl_AreWaits.mono _ _
   | exact impl_ClearWaits.mono _ _ _
   | exact impl_SetWait.mono _ _ _ _
   | exact impl_WaitChain.mono _ _ _
   | exact impl_WouldDeadlock.mono _ _ _ _
   | exact laws_sameInts.mono _ _ _
   | exact spec_AreWaits.mono _ _
   | exact spec_ClearWaits.mono _ _ _
   | exact spec_DrawSetWait.mono _ _
   | exact spec_SetWait.mono _ _ _ _
   | exact spec_WaitChain.mono _ _ _
   | exact spec_WouldDeadlock.mono _ _ _ _
   | exact LeO.none _
   | refine LeO.ite ?_ ?_
   | refine LeO.bind ?_ (fun _ => ?_)
  ·intro y0 y1 y2 y3
   unfold laws_FnWaits.l0
   repeat' first
   | (with_reducible exact ih0 _ _ _ _ _ _ _)
   | (with_reducible exact ih1 _ _ _ _)
   | (with_reducible exact ih2 _ _ _ _)
   | (with_reducible exact impl_AreWaits.mono _ _)
   | (with_reducible exact impl_ClearWaits.mono _ _ _)
   | (with_reducible exact impl_SetWait.mono _ _ _ _)
   | (with_reducible exact impl_WaitChain.mono _ _ _)
   | (with_reducible exact impl_WouldDeadlock.mono _ _ _ _)
   | (with_reducible exact laws_sameInts.mono _ _ _)
   | (with_reducible exact spec_AreWaits.mono _ _)
   | (with_reducible exact spec_ClearWaits.mono _ _ _)
   | (with_reducible exact spec_DrawSetWait.mono _ _)
   | (with_reducible exact spec_SetWait.mono _ _ _ _)
   | (with_reducible exact spec_WaitChain.mono _ _ _)
   | (with_reducible exact spec_WouldDeadlock.mono _ _ _ _)
   | (with_reducible exact LeO.refl _)
   | (with_reducible exact LeO.none _)
   | (with_reducible refine LeO.ite ?_ ?_)
   | (with_reducible refine LeO.bind ?_ (fun _ => ?_))
   | exact ih0 _ _ _ _ _ _ _
   | exact ih1 _ _ _ _
   | exact ih2 _ _ _ _
   | exact impl_AreWaits.mono _ _
   | exact impl_ClearWaits.mono _ _ _
   | exact impl_SetWait.mono _ _ _ _
   | exact impl_WaitChain.mono _ _ _
   | exact impl_WouldDeadlock.mono _ _ _ _
   | exact laws_sameInts.mono _ _ _
   | exact spec_AreWaits.mono _ _
   | exact spec_ClearWaits.mono _ _ _
   | exact spec_DrawSetWait.mono _ _
   | exact spec_SetWait.mono _ _ _ _
   | exact spec_WaitChain.mono _ _ _
   | exact spec_WouldDeadlock.mono _ _ _ _
   | exact LeO.none _
   | refine LeO.ite ?_ ?_
   | refine LeO.bind ?_ (fun _ => ?_)
theorem laws_FnWaits.mono : ∀ a0 k, LeO (laws_FnWaits.f k a0) (laws_FnWaits.f (k + 1) a0) := by
 intro a0 k
 obtain ⟨ih0, ih1, ih2⟩ := laws_FnWaits.mono_l k
 unfold laws_FnWaits.f
 repeat' first
   | (with_reducible exact ih0 _ _ _ _ _ _ _)
   | (with_reducible exact ih1 _ _ _ _)
   | (with_reducible exact ih2 _ _ _ _)
   | (with_reducible exact impl_AreWaits.mono _ _)
   | (with_reducible exact impl_ClearWaits.mono _ _ _)
   | (with_reducible exact impl_SetWait.mono _ _ _ _)
   | (with_reducible exact impl_WaitChain.mono _ _ _)
   | (with_reducible exact impl_WouldDeadlock.mono _ _ _ _)
   | (with_reducible exact laws_sameInts.mono _ _ _)
   | (with_reducible exact spec_AreWaits.mono _ _)
   | (with_reducible exact spec_ClearWaits.mono _ _ _)
   | (with_reducible exact spec_DrawSetWait.mono _ _)
   | (with_reducible exact spec_SetWait.mono _ _ _ _)
   | (with_reducible exact spec_WaitChain.mono _ _ _)
   | (with_reducible exact spec_WouldDeadlock.mono _ _ _ _)
   | (with_reducible exact LeO.refl _)
   | (with_reducible exact LeO.none _)
   | (with_reducible refine LeO.ite ?_ ?_)
   | (with_reducible refine LeO.bind ?_ (fun _ => ?_))
   | exact ih0 _ _ _ _ _ _ _
   | exact ih1 _ _ _ _
   | exact ih2 _ _ _ _
   | exact impl_AreWaits.mono _ _
   | exact impl_ClearWaits.mono _ _ _
   | exact impl_SetWait.mono _ _ _ _
   | exact impl_WaitChain.mono _ _ _
   | exact impl_WouldDeadlock.mono _ _ _ _
   | exact laws_sameInts.mono _ _ _
   | exact spec_AreWaits.mono _ _
   | exact spec_ClearWaits.mono _ _ _
   | exact spec_DrawSetWait.mono _ _
   | exact spec_SetWait.mono _ _ _ _
   | exact spec_WaitChain.mono _ _ _
   | exact spec_WouldDeadlock.mono _ _ _ _
   | exact LeO.none _
   | refine LeO.ite ?_ ?_
   | refine LeO.bind ?_ (fun _ => ?_)
def laws_FnWaits.T11 : Bool × List (List Nat × List Nat) := (true, [([], []), ([0], [0]), ([1], [1]), ([2, 1], [1, 2]), ([3, 1], [1, 3]), ([4, 1, 1], [1, 4]), ([5], [5]), ([6, 5], [5, 6]), ([7, 5], [5, 7]), ([5], [5]), ([8, 9, 5], [5, 8, 9]), ([5, 10, 1], [1, 5, 10]), ([11, 5, 1], [1, 11]), ([12], [12]), ([13, 12], [12, 13]), ([14, 12], [12, 14]), ([12], [12]), ([15, 16, 12], [12, 15, 16]), ([12, 17, 1], [1, 12, 17]), ([18, 12, 1], [1, 18]), ([19], [19]), ([19], [19]), ([19], [19]), ([20, 21, 22, 19, 19], [19, 20, 21, 22]), ([19], [19]), ([19], [19]), ([25, 19], [19, 25]), ([26, 19], [19, 26]), ([24, 27, 19], [19, 24, 27]), ([28, 19], [19, 28]), ([19], [19]), ([29, 30, 19], [19, 29, 30]), ([23, 31, 19], [19, 23, 31]), ([19, 32, 1], [1, 19, 32]), ([1, 33], [1, 33])])
def laws_FnWaits.B11 : List Nat := [0, 1, 3, 7, 15, 31, 63, 127, 255, 63, 1023, 2047, 4095, 8191, 16383, 32767, 8191, 131071, 262143, 524287, 1048575, 1048575, 1048575, 8388607, 1048575, 1048575, 34603007, 101711871, 252706815, 521142271, 1048575, 2131755007, 4294967295, 8589934591, 17179869183]
theorem laws_FnWaits.tab11 : rtab .any (opsOf Try.f3 11) = laws_FnWaits.T11 := by kernel_rfl
theorem laws_FnWaits.bits11 : waitsOk laws_FnWaits.T11.2 laws_FnWaits.B11 = true := by kernel_rfl
set_option maxHeartbeats 8000000 in
set_option maxRecDepth 100000 in
theorem laws_FnWaits.calls (k : Nat) (A0 : Option Addr) (c0 : Nat) (l0 : List Int) (r : Bool) (w : World) (hr0 : Kd.C (Kd.int .u8) w A0 l0.length l0) (hc0 : l0.length ≤ c0) (h : laws_FnWaits.f k l0 = some r) :
  Calls Try.prog 3 #[.slice A0 l0.length c0] w fun e w' => e = .returned (.bool r) ∧ Below w.heap.size w w' := by
 have HR0 := AM_ hr0
 have HC0 := AM_ hc0
 clear hr0 hc0
 have HB := AM_ (Below.refl w.heap.size w)
 have H : ((laws_big.f l0).bind fun t350 => (if t350 = true then (some true) else ((spec_DrawSetWait.f k l0).bind fun bt351 => ((impl_SetWait.f k bt351.1 bt351.2.1 bt351.2.2).bind fun bt356 => ((spec_SetWait.f k bt351.1 bt351.2.1 bt351.2.2).bind fun bt360 => (if (bt356.2 != bt360.2) = true then (laws_FnWaits.j0 k bt351.1 bt351.2.1 bt351.2.2 bt356.1 bt356.2 bt360.1 true) else (if (bt356.1.length : Int) = (bt360.1.length : Int) then ((impl_AreWaits.f k bt351.1).bind fun t364 => ((spec_AreWaits.f k bt351.1).bind fun t365 => (if (t364 != t365) = true then (laws_FnWaits.j0 k bt351.1 bt351.2.1 bt351.2.2 bt356.1 bt356.2 bt360.1 true) else ((impl_WouldDeadlock.f k bt351.1 bt351.2.1 bt351.2.2).bind fun t366 => ((spec_WouldDeadlock.f k bt351.1 bt351.2.1 bt351.2.2).bind fun t367 => (laws_FnWaits.j0 k bt351.1 bt351.2.1 bt351.2.2 bt356.1 bt356.2 bt360.1 (t366 != t367))))))) else (laws_FnWaits.j0 k bt351.1 bt351.2.1 bt351.2.2 bt356.1 bt356.2 bt360.1 true)))))))) = some r := h
 clear h
 replace H := Option.bind_eq_some_iff.mp H
 obtain ⟨t350, A20, H⟩ := H
 replace H : (if t350 = true then (some true) else ((spec_DrawSetWait.f k l0).bind fun bt351 => ((impl_SetWait.f k bt351.1 bt351.2.1 bt351.2.2).bind fun bt356 => ((spec_SetWait.f k bt351.1 bt351.2.1 bt351.2.2).bind fun bt360 => (if (bt356.2 != bt360.2) = true then (laws_FnWaits.j0 k bt351.1 bt351.2.1 bt351.2.2 bt356.1 bt356.2 bt360.1 true) else (if (bt356.1.length : Int) = (bt360.1.length : Int) then ((impl_AreWaits.f k bt351.1).bind fun t364 => ((spec_AreWaits.f k bt351.1).bind fun t365 => (if (t364 != t365) = true then (laws_FnWaits.j0 k bt351.1 bt351.2.1 bt351.2.2 bt356.1 bt356.2 bt360.1 true) else ((impl_WouldDeadlock.f k bt351.1 bt351.2.1 bt351.2.2).bind fun t366 => ((spec_WouldDeadlock.f k bt351.1 bt351.2.1 bt351.2.2).bind fun t367 => (laws_FnWaits.j0 k bt351.1 bt351.2.1 bt351.2.2 bt356.1 bt356.2 bt360.1 (t366 != t367))))))) else (laws_FnWaits.j0 k bt351.1 bt351.2.1 bt351.2.2 bt356.1 bt356.2 bt360.1 true))))))) = some r := H
 have A2 := AM_ A20
 clear A20
 by_cases c3 : t350 = true
 ·subst c3
  have H1 : (some true) = some r := by rw [if_pos rfl] at H; exact H
  clear H
  have H := H1
  clear H1
  obtain rfl := Option.some.inj H
  go_enter Try.func3, Try.ntmps3
  go_wp2_with (first | ((with_reducible refine gate_callee (f := 14) rfl ?_); refine goesL_ (some 14) rfl rfl Try.func14 (by kernel_rfl) rfl #[.slice A0 l0.length c0] rfl (by (try simp only [List.map_toArray, List.map_cons, List.map_nil]); first | done | rfl | (simp only [List.length_drop, List.length_take]; rfl)) ?_; (with_reducible refine (laws_big.calls _ _ l0 true _ ?side1 ?side2 A2.out).mono ?_); (case side1 => repeat (first | exact HR0.out | (with_reducible refine Kd.C_alloc ?_ _) | (with_reducible refine Kd.C_drewN ?_ _) | (with_reducible refine Kd.C_drew ?_))); (case side2 => exact HC0.out); rintro e w' ⟨rfl, ⟨nd, rfl⟩⟩; refine ⟨_, rfl, ?_⟩))
  go_ret
  exact ⟨by first | rfl | (simp [errW_none, errW_some] <;> rfl) | (simp [*, errW_none, errW_some] <;> rfl), by exact BL HB.out rfl rfl rfl rfl⟩
 ·replace c3 := Bool.eq_false_iff.mpr c3
  subst c3
  have H1 : ((spec_DrawSetWait.f k l0).bind fun bt351 => ((impl_SetWait.f k bt351.1 bt351.2.1 bt351.2.2).bind fun bt356 => ((spec_SetWait.f k bt351.1 bt351.2.1 bt351.2.2).bind fun bt360 => (if (bt356.2 != bt360.2) = true then (laws_FnWaits.j0 k bt351.1 bt351.2.1 bt351.2.2 bt356.1 bt356.2 bt360.1 true) else (if (bt356.1.length : Int) = (bt360.1.length : Int) then ((impl_AreWaits.f k bt351.1).bind fun t364 => ((spec_AreWaits.f k bt351.1).bind fun t365 => (if (t364 != t365) = true then (laws_FnWaits.j0 k bt351.1 bt351.2.1 bt351.2.2 bt356.1 bt356.2 bt360.1 true) else ((impl_WouldDeadlock.f k bt351.1 bt351.2.1 bt351.2.2).bind fun t366 => ((spec_WouldDeadlock.f k bt351.1 bt351.2.1 bt351.2.2).bind fun t367 => (laws_FnWaits.j0 k bt351.1 bt351.2.1 bt351.2.2 bt356.1 bt356.2 bt360.1 (t366 != t367))))))) else (laws_FnWaits.j0 k bt351.1 bt351.2.1 bt351.2.2 bt356.1 bt356.2 bt360.1 true)))))) = some r := by rw [if_neg (show ¬ (false = true) by decide)] at H; exact H
  clear H
  have H := H1
  clear H1
  replace H := Option.bind_eq_some_iff.mp H
  obtain ⟨⟨t351, t352, t353⟩, A40, H⟩ := H
  replace H : ((impl_SetWait.f k t351 t352 t353).bind fun bt356 => ((spec_SetWait.f k t351 t352 t353).bind fun bt360 => (if (bt356.2 != bt360.2) = true then (laws_FnWaits.j0 k t351 t352 t353 bt356.1 bt356.2 bt360.1 true) else (if (bt356.1.length : Int) = (bt360.1.length : Int) then ((impl_AreWaits.f k t351).bind fun t364 => ((spec_AreWaits.f k t351).bind fun t365 => (if (t364 != t365) = true then (laws_FnWaits.j0 k t351 t352 t353 bt356.1 bt356.2 bt360.1 true) else ((impl_WouldDeadlock.f k t351 t352 t353).bind fun t366 => ((spec_WouldDeadlock.f k t351 t352 t353).bind fun t367 => (laws_FnWaits.j0 k t351 t352 t353 bt356.1 bt356.2 bt360.1 (t366 != t367))))))) else (laws_FnWaits.j0 k t351 t352 t353 bt356.1 bt356.2 bt360.1 true))))) = some r := H
  have A4 := AM_ A40
  clear A40
  replace H := Option.bind_eq_some_iff.mp H
  obtain ⟨⟨t356, t357⟩, A50, H⟩ := H
  replace H : ((spec_SetWait.f k t351 t352 t353).bind fun bt360 => (if (t357 != bt360.2) = true then (laws_FnWaits.j0 k t351 t352 t353 t356 t357 bt360.1 true) else (if (t356.length : Int) = (bt360.1.length : Int) then ((impl_AreWaits.f k t351).bind fun t364 => ((spec_AreWaits.f k t351).bind fun t365 => (if (t364 != t365) = true then (laws_FnWaits.j0 k t351 t352 t353 t356 t357 bt360.1 true) else ((impl_WouldDeadlock.f k t351 t352 t353).bind fun t366 => ((spec_WouldDeadlock.f k t351 t352 t353).bind fun t367 => (laws_FnWaits.j0 k t351 t352 t353 t356 t357 bt360.1 (t366 != t367))))))) else (laws_FnWaits.j0 k t351 t352 t353 t356 t357 bt360.1 true)))) = some r := H
  have A5 := AM_ A50
  clear A50
  replace H := Option.bind_eq_some_iff.mp H
  obtain ⟨⟨t360, t361⟩, A60, H⟩ := H
  replace H : (if (t357 != t361) = true then (laws_FnWaits.j0 k t351 t352 t353 t356 t357 t360 true) else (if (t356.length : Int) = (t360.length : Int) then ((impl_AreWaits.f k t351).bind fun t364 => ((spec_AreWaits.f k t351).bind fun t365 => (if (t364 != t365) = true then (laws_FnWaits.j0 k t351 t352 t353 t356 t357 t360 true) else ((impl_WouldDeadlock.f k t351 t352 t353).bind fun t366 => ((spec_WouldDeadlock.f k t351 t352 t353).bind fun t367 => (laws_FnWaits.j0 k t351 t352 t353 t356 t357 t360 (t366 != t367))))))) else (laws_FnWaits.j0 k t351 t352 t353 t356 t357 t360 true))) = some r := H
  have A6 := AM_ A60
  clear A60
  have HC7 := AM_ H
  clear H
  go_enter Try.func3, Try.ntmps3
  go_upto_region 6 with (first | ((with_reducible refine gate_callee (f := 14) rfl ?_); refine goesL_ (some 14) rfl rfl Try.func14 (by kernel_rfl) rfl #[.slice A0 l0.length c0] rfl (by (try simp only [List.map_toArray, List.map_cons, List.map_nil]); first | done | rfl | (simp only [List.length_drop, List.length_take]; rfl)) ?_; (with_reducible refine (laws_big.calls _ _ l0 false _ ?side1 ?side2 A2.out).mono ?_); (case side1 => repeat (first | exact HR0.out | (with_reducible refine Kd.C_alloc ?_ _) | (with_reducible refine Kd.C_drewN ?_ _) | (with_reducible refine Kd.C_drew ?_))); (case side2 => exact HC0.out); rintro e w' ⟨rfl, ⟨nd, rfl⟩⟩; refine ⟨_, rfl, ?_⟩) | ((with_reducible refine gate_callee (f := 15) rfl ?_); refine goesL_ (some 17) rfl rfl Try.func15 (by kernel_rfl) rfl #[.slice A0 l0.length c0] rfl (by (try simp only [List.map_toArray, List.map_cons, List.map_nil]); first | done | rfl | (simp only [List.length_drop, List.length_take]; rfl)) ?_; (with_reducible refine (spec_DrawSetWait.calls k _ _ l0 t351 t352 t353 _ ?side1 ?side2 A4.out).mono ?_); (case side1 => repeat (first | exact HR0.out | (with_reducible refine Kd.C_alloc ?_ _) | (with_reducible refine Kd.C_drewN ?_ _) | (with_reducible refine Kd.C_drew ?_))); (case side2 => exact HC0.out); rintro e w8 ⟨v354, rfl, ho0, hb⟩; refine ⟨_, rfl, ?_⟩; have n0_ := AM_ (Kd.R_lower ho0 (below_size (by exact BL HB.out rfl rfl rfl rfl))); have n1_ := AM_ (below_step (by exact BL HB.out rfl rfl rfl rfl) hb); clear HB; have HO355 := n0_; have HB := n1_; clear n0_ n1_; (try clear hb); (try clear hb2); (try clear hk); (try clear hi); (try clear ho0); obtain ⟨Ao9, co9, eo9⟩ := Kd.R_slice HO355.out; subst eo9) | ((with_reducible refine gate_callee (f := 16) rfl ?_); refine goesL_ (some 25) rfl rfl Try.func16 (by kernel_rfl) rfl #[.slice Ao9 t351.length co9, .int .i64 t352, .int .i64 t353] rfl (by (try simp only [List.map_toArray, List.map_cons, List.map_nil]); first | done | rfl | (simp only [List.length_drop, List.length_take]; rfl)) ?_; (with_reducible refine (impl_SetWait.calls k _ _ t351 t352 t353 t356 t357 _ ?side1 ?side2 A5.out).mono ?_); (case side1 => exact Kd.C_below (Kd.R_reads' HO355.out).2.2 (BL (Below.refl _ _) rfl rfl rfl rfl)); (case side2 => exact (Kd.R_reads' HO355.out).2.1); rintro e w10 ⟨v358, rfl, ho0, hb⟩; refine ⟨_, rfl, ?_⟩; have n0_ := AM_ (Kd.R_elder' (by exact RL HO355.out rfl) (Kd.R_base ho0) hb); have n1_ := AM_ (Kd.R_lower (Kd.R_new' ho0 (Kd.R_lt (by exact RL HO355.out rfl))) (below_size (by exact BL HB.out rfl rfl rfl rfl))); have n2_ := AM_ (below_step (by exact BL HB.out rfl rfl rfl rfl) hb); clear HO355; clear HB; have HO355 := n0_; have HO359 := n1_; have HB := n2_; clear n0_ n1_ n2_; (try clear hb); (try clear hb2); (try clear hk); (try clear hi); (try clear ho0)) | ((with_reducible refine gate_callee (f := 17) rfl ?_); refine goesL_ (some 32) rfl rfl Try.func17 (by kernel_rfl) rfl #[.slice Ao9 t351.length co9, .int .i64 t352, .int .i64 t353] rfl (by (try simp only [List.map_toArray, List.map_cons, List.map_nil]); first | done | rfl | (simp only [List.length_drop, List.length_take]; rfl)) ?_; (with_reducible refine (spec_SetWait.calls k _ _ t351 t352 t353 t360 t361 _ ?side1 ?side2 A6.out).mono ?_); (case side1 => exact Kd.C_below (Kd.R_reads' HO355.out).2.2 (BL (Below.refl _ _) rfl rfl rfl rfl)); (case side2 => exact (Kd.R_reads' HO355.out).2.1); rintro e w11 ⟨v362, rfl, ho0, hb⟩; refine ⟨_, rfl, ?_⟩; have n0_ := AM_ (Kd.R_elder' (by exact RL HO355.out rfl) (Kd.R_base ho0) hb); have n1_ := AM_ (Kd.R_elder' (by exact RL HO359.out rfl) (Kd.R_base ho0) hb); have n2_ := AM_ (Kd.R_lower (Kd.R_new' (Kd.R_new' ho0 (Kd.R_lt (by exact RL HO355.out rfl))) (Kd.R_lt (by exact RL HO359.out rfl))) (below_size (by exact BL HB.out rfl rfl rfl rfl))); have n3_ := AM_ (below_step (by exact BL HB.out rfl rfl rfl rfl) hb); clear HO355; clear HO359; clear HB; have HO355 := n0_; have HO359 := n1_; have HO363 := n2_; have HB := n3_; clear n0_ n1_ n2_ n3_; (try clear hb); (try clear hb2); (try clear hk); (try clear hi); (try clear ho0)))
  (try simp only [pA, pS, pZ, pK])
  go_cut [62] (fun v62 wc => ∃ (kq : Nat) (x62_6 : Bool), v62 = .bool x62_6 ∧ Aside0 (laws_FnWaits.j0 kq t351 t352 t353 t356 t357 t360 x62_6 = some r) ∧ Aside0 (kq ≤ k) ∧ Aside0 (Kd.R k36 36 wc w.heap.size (fun k_ => some k_ ≠ (v358 : Value).ownBlock ∧ some k_ ≠ (v362 : Value).ownBlock) (.slice Ao9 t351.length co9) t351) ∧ Aside0 (Kd.R k36 36 wc w.heap.size (fun k_ => some k_ ≠ ((.slice Ao9 t351.length co9) : Value).ownBlock ∧ some k_ ≠ (v362 : Value).ownBlock) v358 t356) ∧ Aside0 (Kd.R k36 36 wc w.heap.size (fun k_ => some k_ ≠ ((.slice Ao9 t351.length co9) : Value).ownBlock ∧ some k_ ≠ (v358 : Value).ownBlock) v362 t360) ∧ Aside0 (Below w.heap.size w wc))
  case first =>
   have H := HC7.out
   clear HC7
   by_cases c12 : (t357 != t361) = true
   ·rw [if_pos c12] at H
    have c12b0 : (t357 != t361) = true := c12
    (try (have c12b1 : decide (t357 = t361) = false := by simpa using c12))
    (try (have c12b2 : (t357 == t361) = false := by simpa using c12))
    (try (have c12b3 : ¬ (t357 = t361) := by simpa using c12))
    clear c12
    (first | rw [c12b0] | (simp only [i64_w, i32_w]; rw [c12b0]) | skip)
    have H' := AM_ H
    clear H
    go_wp2
    go_meet
    case rel => exact ⟨_, (true), (by first | rfl | (simp; done) | (simp [*]; done)), H', ⟨by first | omega | exact Nat.le_refl _⟩, ⟨by (with_reducible repeat (first | apply Kd.R_alloc | apply Kd.R_drewN | apply Kd.R_drew)); exact Kd.R_mono HO355.out (fun _ hk => ⟨hk.1.2, hk.2⟩)⟩, ⟨by (with_reducible repeat (first | apply Kd.R_alloc | apply Kd.R_drewN | apply Kd.R_drew)); exact Kd.R_mono HO359.out (fun _ hk => ⟨hk.1.2, hk.2⟩)⟩, ⟨by (with_reducible repeat (first | apply Kd.R_alloc | apply Kd.R_drewN | apply Kd.R_drew)); exact Kd.R_mono HO363.out (fun _ hk => ⟨hk.1.2, hk.2⟩)⟩, ⟨by exact BL HB.out rfl rfl rfl rfl⟩⟩
   ·rw [if_neg c12] at H
    have c12b0 : (t357 != t361) = false := by simpa using c12
    (try (have c12b1 : decide (t357 = t361) = true := by simpa using c12))
    (try (have c12b2 : (t357 == t361) = true := by simpa using c12))
    clear c12
    (first | rw [c12b0] | (simp only [i64_w, i32_w]; rw [c12b0]) | skip)
    by_cases c13 : (t356.length : Int) = (t360.length : Int)
    ·rw [if_pos c13] at H
     have c13b0 : ((t356.length : Int) == (t360.length : Int)) = true := beq_iff_eq.mpr c13
     have c13b1 : ((t356.length : Int) != (t360.length : Int)) = false := bne_eq_false_iff_eq.mpr c13
     have c13b2 : (t356.length == t360.length) = true := by first | simpa using c13 | (simp at c13 ⊢; omega)
     clear c13
     replace H := Option.bind_eq_some_iff.mp H
     obtain ⟨t364, A140, H⟩ := H
     replace H : ((spec_AreWaits.f k t351).bind fun t365 => (if (t364 != t365) = true then (laws_FnWaits.j0 k t351 t352 t353 t356 t357 t360 true) else ((impl_WouldDeadlock.f k t351 t352 t353).bind fun t366 => ((spec_WouldDeadlock.f k t351 t352 t353).bind fun t367 => (laws_FnWaits.j0 k t351 t352 t353 t356 t357 t360 (t366 != t367)))))) = some r := H
     have A14 := AM_ A140
     clear A140
     replace H := Option.bind_eq_some_iff.mp H
     obtain ⟨t365, A150, H⟩ := H
     replace H : (if (t364 != t365) = true then (laws_FnWaits.j0 k t351 t352 t353 t356 t357 t360 true) else ((impl_WouldDeadlock.f k t351 t352 t353).bind fun t366 => ((spec_WouldDeadlock.f k t351 t352 t353).bind fun t367 => (laws_FnWaits.j0 k t351 t352 t353 t356 t357 t360 (t366 != t367))))) = some r := H
     have A15 := AM_ A150
     clear A150
     by_cases c16 : (t364 != t365) = true
     ·rw [if_pos c16] at H
      have c16b0 : (t364 != t365) = true := c16
      (try (have c16b1 : decide (t364 = t365) = false := by simpa using c16))
      (try (have c16b2 : (t364 == t365) = false := by simpa using c16))
      (try (have c16b3 : ¬ (t364 = t365) := by simpa using c16))
      clear c16
      have H' := AM_ H
      clear H
      obtain ⟨Ao17, co17, eo17⟩ := Kd.R_slice HO359.out
      subst eo17
      obtain ⟨Ao18, co18, eo18⟩ := Kd.R_slice HO363.out
      subst eo18
      go_wp2_with (first | (go_at_call 18; (with_reducible refine (impl_AreWaits.calls k _ _ t351 t364 _ ?side1 ?side2 A14.out).mono ?_); (case side1 => exact Kd.C_below (Kd.R_reads' HO355.out).2.2 (BL (Below.refl _ _) rfl rfl rfl rfl)); (case side2 => exact (Kd.R_reads' HO355.out).2.1); rintro e w19 ⟨rfl, hb⟩; have n0_ := AM_ (Kd.R_below (by exact RL HO355.out rfl) hb); have n1_ := AM_ (Kd.R_below (by exact RL HO359.out rfl) hb); have n2_ := AM_ (Kd.R_below (by exact RL HO363.out rfl) hb); have n3_ := AM_ (below_step (by exact BL HB.out rfl rfl rfl rfl) hb); clear HO355; clear HO359; clear HO363; clear HB; have HO355 := n0_; have HO359 := n1_; have HO363 := n2_; have HB := n3_; clear n0_ n1_ n2_ n3_; (try clear hb); (try clear hb2); (try clear hk); (try clear hi)) | (go_at_call 19; (with_reducible refine (spec_AreWaits.calls k _ _ t351 t365 _ ?side1 ?side2 A15.out).mono ?_); (case side1 => exact Kd.C_below (Kd.R_reads' HO355.out).2.2 (BL (Below.refl _ _) rfl rfl rfl rfl)); (case side2 => exact (Kd.R_reads' HO355.out).2.1); rintro e w20 ⟨rfl, hb⟩; have n0_ := AM_ (Kd.R_below (by exact RL HO355.out rfl) hb); have n1_ := AM_ (Kd.R_below (by exact RL HO359.out rfl) hb); have n2_ := AM_ (Kd.R_below (by exact RL HO363.out rfl) hb); have n3_ := AM_ (below_step (by exact BL HB.out rfl rfl rfl rfl) hb); clear HO355; clear HO359; clear HO363; clear HB; have HO355 := n0_; have HO359 := n1_; have HO363 := n2_; have HB := n3_; clear n0_ n1_ n2_ n3_; (try clear hb); (try clear hb2); (try clear hk); (try clear hi)))
      go_meet
      case rel => exact ⟨_, (true), (by first | rfl | (simp; done) | (simp [*]; done)), H', ⟨by first | omega | exact Nat.le_refl _⟩, ⟨by (with_reducible repeat (first | apply Kd.R_alloc | apply Kd.R_drewN | apply Kd.R_drew)); exact Kd.R_mono HO355.out (fun _ hk => ⟨hk.1.2, hk.2⟩)⟩, ⟨by (with_reducible repeat (first | apply Kd.R_alloc | apply Kd.R_drewN | apply Kd.R_drew)); exact Kd.R_mono HO359.out (fun _ hk => ⟨hk.1.2, hk.2⟩)⟩, ⟨by (with_reducible repeat (first | apply Kd.R_alloc | apply Kd.R_drewN | apply Kd.R_drew)); exact Kd.R_mono HO363.out (fun _ hk => ⟨hk.1.2, hk.2⟩)⟩, ⟨by exact BL HB.out rfl rfl rfl rfl⟩⟩
     ·rw [if_neg c16] at H
      have c16b0 : (t364 != t365) = false := by simpa using c16
      (try (have c16b1 : decide (t364 = t365) = true := by simpa using c16))
      (try (have c16b2 : (t364 == t365) = true := by simpa using c16))
      clear c16
      replace H := Option.bind_eq_some_iff.mp H
      obtain ⟨t366, A210, H⟩ := H
      replace H : ((spec_WouldDeadlock.f k t351 t352 t353).bind fun t367 => (laws_FnWaits.j0 k t351 t352 t353 t356 t357 t360 (t366 != t367))) = some r := H
      have A21 := AM_ A210
      clear A210
      replace H := Option.bind_eq_some_iff.mp H
      obtain ⟨t367, A220, H⟩ := H
      replace H : (laws_FnWaits.j0 k t351 t352 t353 t356 t357 t360 (t366 != t367)) = some r := H
      have A22 := AM_ A220
      clear A220
      have H' := AM_ H
      clear H
      obtain ⟨Ao23, co23, eo23⟩ := Kd.R_slice HO359.out
      subst eo23
      obtain ⟨Ao24, co24, eo24⟩ := Kd.R_slice HO363.out
      subst eo24
      go_wp2_with (first | (go_at_call 18; (with_reducible refine (impl_AreWaits.calls k _ _ t351 t364 _ ?side1 ?side2 A14.out).mono ?_); (case side1 => exact Kd.C_below (Kd.R_reads' HO355.out).2.2 (BL (Below.refl _ _) rfl rfl rfl rfl)); (case side2 => exact (Kd.R_reads' HO355.out).2.1); rintro e w25 ⟨rfl, hb⟩; have n0_ := AM_ (Kd.R_below (by exact RL HO355.out rfl) hb); have n1_ := AM_ (Kd.R_below (by exact RL HO359.out rfl) hb); have n2_ := AM_ (Kd.R_below (by exact RL HO363.out rfl) hb); have n3_ := AM_ (below_step (by exact BL HB.out rfl rfl rfl rfl) hb); clear HO355; clear HO359; clear HO363; clear HB; have HO355 := n0_; have HO359 := n1_; have HO363 := n2_; have HB := n3_; clear n0_ n1_ n2_ n3_; (try clear hb); (try clear hb2); (try clear hk); (try clear hi)) | (go_at_call 19; (with_reducible refine (spec_AreWaits.calls k _ _ t351 t365 _ ?side1 ?side2 A15.out).mono ?_); (case side1 => exact Kd.C_below (Kd.R_reads' HO355.out).2.2 (BL (Below.refl _ _) rfl rfl rfl rfl)); (case side2 => exact (Kd.R_reads' HO355.out).2.1); rintro e w26 ⟨rfl, hb⟩; have n0_ := AM_ (Kd.R_below (by exact RL HO355.out rfl) hb); have n1_ := AM_ (Kd.R_below (by exact RL HO359.out rfl) hb); have n2_ := AM_ (Kd.R_below (by exact RL HO363.out rfl) hb); have n3_ := AM_ (below_step (by exact BL HB.out rfl rfl rfl rfl) hb); clear HO355; clear HO359; clear HO363; clear HB; have HO355 := n0_; have HO359 := n1_; have HO363 := n2_; have HB := n3_; clear n0_ n1_ n2_ n3_; (try clear hb); (try clear hb2); (try clear hk); (try clear hi)) | (go_at_call 20; (with_reducible refine (impl_WouldDeadlock.calls k _ _ t351 t352 t353 t366 _ ?side1 ?side2 A21.out).mono ?_); (case side1 => exact Kd.C_below (Kd.R_reads' HO355.out).2.2 (BL (Below.refl _ _) rfl rfl rfl rfl)); (case side2 => exact (Kd.R_reads' HO355.out).2.1); rintro e w27 ⟨rfl, hb⟩; have n0_ := AM_ (Kd.R_below (by exact RL HO355.out rfl) hb); have n1_ := AM_ (Kd.R_below (by exact RL HO359.out rfl) hb); have n2_ := AM_ (Kd.R_below (by exact RL HO363.out rfl) hb); have n3_ := AM_ (below_step (by exact BL HB.out rfl rfl rfl rfl) hb); clear HO355; clear HO359; clear HO363; clear HB; have HO355 := n0_; have HO359 := n1_; have HO363 := n2_; have HB := n3_; clear n0_ n1_ n2_ n3_; (try clear hb); (try clear hb2); (try clear hk); (try clear hi)) | (go_at_call 21; (with_reducible refine (spec_WouldDeadlock.calls k _ _ t351 t352 t353 t367 _ ?side1 ?side2 A22.out).mono ?_); (case side1 => exact Kd.C_below (Kd.R_reads' HO355.out).2.2 (BL (Below.refl _ _) rfl rfl rfl rfl)); (case side2 => exact (Kd.R_reads' HO355.out).2.1); rintro e w28 ⟨rfl, hb⟩; have n0_ := AM_ (Kd.R_below (by exact RL HO355.out rfl) hb); have n1_ := AM_ (Kd.R_below (by exact RL HO359.out rfl) hb); have n2_ := AM_ (Kd.R_below (by exact RL HO363.out rfl) hb); have n3_ := AM_ (below_step (by exact BL HB.out rfl rfl rfl rfl) hb); clear HO355; clear HO359; clear HO363; clear HB; have HO355 := n0_; have HO359 := n1_; have HO363 := n2_; have HB := n3_; clear n0_ n1_ n2_ n3_; (try clear hb); (try clear hb2); (try clear hk); (try clear hi)))
      go_meet
      case rel => exact ⟨_, ((t366 != t367)), (by first | rfl | (simp; done) | (simp [*]; done)), H', ⟨by first | omega | exact Nat.le_refl _⟩, ⟨by (with_reducible repeat (first | apply Kd.R_alloc | apply Kd.R_drewN | apply Kd.R_drew)); exact Kd.R_mono HO355.out (fun _ hk => ⟨hk.1.2, hk.2⟩)⟩, ⟨by (with_reducible repeat (first | apply Kd.R_alloc | apply Kd.R_drewN | apply Kd.R_drew)); exact Kd.R_mono HO359.out (fun _ hk => ⟨hk.1.2, hk.2⟩)⟩, ⟨by (with_reducible repeat (first | apply Kd.R_alloc | apply Kd.R_drewN | apply Kd.R_drew)); exact Kd.R_mono HO363.out (fun _ hk => ⟨hk.1.2, hk.2⟩)⟩, ⟨by exact BL HB.out rfl rfl rfl rfl⟩⟩
    ·rw [if_neg c13] at H
     have c13b0 : ((t356.length : Int) == (t360.length : Int)) = false := beq_eq_false_iff_ne.mpr c13
     have c13b1 : ((t356.length : Int) != (t360.length : Int)) = true := bne_iff_ne.mpr c13
     have c13b2 : (t356.length == t360.length) = false := by first | simpa using c13 | (simp at c13 ⊢; omega)
     have H' := AM_ H
     clear H
     obtain ⟨Ao29, co29, eo29⟩ := Kd.R_slice HO359.out
     subst eo29
     obtain ⟨Ao30, co30, eo30⟩ := Kd.R_slice HO363.out
     subst eo30
     go_wp2
     go_meet
     case rel => exact ⟨_, (true), (by first | rfl | (simp; done) | (simp [*]; done)), H', ⟨by first | omega | exact Nat.le_refl _⟩, ⟨by (with_reducible repeat (first | apply Kd.R_alloc | apply Kd.R_drewN | apply Kd.R_drew)); exact Kd.R_mono HO355.out (fun _ hk => ⟨hk.1.2, hk.2⟩)⟩, ⟨by (with_reducible repeat (first | apply Kd.R_alloc | apply Kd.R_drewN | apply Kd.R_drew)); exact Kd.R_mono HO359.out (fun _ hk => ⟨hk.1.2, hk.2⟩)⟩, ⟨by (with_reducible repeat (first | apply Kd.R_alloc | apply Kd.R_drewN | apply Kd.R_drew)); exact Kd.R_mono HO363.out (fun _ hk => ⟨hk.1.2, hk.2⟩)⟩, ⟨by exact BL HB.out rfl rfl rfl rfl⟩⟩
  case rest =>
   clear HC7
   try clear c1
   try clear p2
   try clear c3
   try clear c12
   try clear c12b0
   try clear c12b1
   try clear c12b2
   try clear c13
   try clear c13b0
   try clear c13b1
   try clear c13b2
   try clear c14
   try clear c15
   try clear c16
   try clear c16b0
   try clear c16b1
   try clear c16b2
   try clear c17
   obtain ⟨kq, x62_6, rfl, HA, HJ6, HO_3, HO_6, HO_8, HB⟩ := hcut
   cases kq with
   | zero => exact absurd HA.out (by simp [laws_FnWaits.j0])
   | succ kj6 =>
    have H := HA.out
    clear HA
    simp only [laws_FnWaits.j0] at H
    by_cases c31 : x62_6 = true
    ·subst c31
     have H1 : (some false) = some r := by rw [if_pos rfl] at H; exact H
     clear H
     have H := H1
     clear H1
     obtain rfl := Option.some.inj H
     go_wp2
     go_ret
     exact ⟨by first | rfl | (simp [errW_none, errW_some] <;> rfl) | (simp [*, errW_none, errW_some] <;> rfl), by exact BL HB.out rfl rfl rfl rfl⟩
    ·replace c31 := Bool.eq_false_iff.mpr c31
     subst c31
     have H1 : ((impl_WaitChain.f kj6 t356 t352).bind fun t368 => ((spec_WaitChain.f kj6 t360 t352).bind fun t371 => ((laws_sameInts.f kj6 t368 t371).bind fun t374 => (if t374 = true then (if t357 = true then (if (t368.length : Int) < 2 then (laws_FnWaits.j1 kj6 t352 t356 t360 true) else (if 0 < (t368.length : Int) then (if (rd t368 0) = t352 then (if 1 < (t368.length : Int) then (if (rd t368 1) = t353 then ((impl_WouldDeadlock.f kj6 t351 t352 t353).bind fun t377 => (if 0 ≤ (wrap64 ((t368.length : Int) - 1)) then (if (wrap64 ((t368.length : Int) - 1)) < (t368.length : Int) then (laws_FnWaits.j1 kj6 t352 t356 t360 (t377 != ((rd t368 (wrap64 ((t368.length : Int) - 1))) == t352))) else (none)) else (none))) else (laws_FnWaits.j1 kj6 t352 t356 t360 true)) else (none)) else (laws_FnWaits.j1 kj6 t352 t356 t360 true)) else (none))) else (laws_FnWaits.j1 kj6 t352 t356 t360 false)) else (some false))))) = some r := by rw [if_neg (show ¬ (false = true) by decide)] at H; exact H
     clear H
     have H := H1
     clear H1
     replace H := Option.bind_eq_some_iff.mp H
     obtain ⟨t368, A320, H⟩ := H
     replace H : ((spec_WaitChain.f kj6 t360 t352).bind fun t371 => ((laws_sameInts.f kj6 t368 t371).bind fun t374 => (if t374 = true then (if t357 = true then (if (t368.length : Int) < 2 then (laws_FnWaits.j1 kj6 t352 t356 t360 true) else (if 0 < (t368.length : Int) then (if (rd t368 0) = t352 then (if 1 < (t368.length : Int) then (if (rd t368 1) = t353 then ((impl_WouldDeadlock.f kj6 t351 t352 t353).bind fun t377 => (if 0 ≤ (wrap64 ((t368.length : Int) - 1)) then (if (wrap64 ((t368.length : Int) - 1)) < (t368.length : Int) then (laws_FnWaits.j1 kj6 t352 t356 t360 (t377 != ((rd t368 (wrap64 ((t368.length : Int) - 1))) == t352))) else (none)) else (none))) else (laws_FnWaits.j1 kj6 t352 t356 t360 true)) else (none)) else (laws_FnWaits.j1 kj6 t352 t356 t360 true)) else (none))) else (laws_FnWaits.j1 kj6 t352 t356 t360 false)) else (some false)))) = some r := H
     have A32 := AM_ A320
     clear A320
     replace H := Option.bind_eq_some_iff.mp H
     obtain ⟨t371, A330, H⟩ := H
     replace H : ((laws_sameInts.f kj6 t368 t371).bind fun t374 => (if t374 = true then (if t357 = true then (if (t368.length : Int) < 2 then (laws_FnWaits.j1 kj6 t352 t356 t360 true) else (if 0 < (t368.length : Int) then (if (rd t368 0) = t352 then (if 1 < (t368.length : Int) then (if (rd t368 1) = t353 then ((impl_WouldDeadlock.f kj6 t351 t352 t353).bind fun t377 => (if 0 ≤ (wrap64 ((t368.length : Int) - 1)) then (if (wrap64 ((t368.length : Int) - 1)) < (t368.length : Int) then (laws_FnWaits.j1 kj6 t352 t356 t360 (t377 != ((rd t368 (wrap64 ((t368.length : Int) - 1))) == t352))) else (none)) else (none))) else (laws_FnWaits.j1 kj6 t352 t356 t360 true)) else (none)) else (laws_FnWaits.j1 kj6 t352 t356 t360 true)) else (none))) else (laws_FnWaits.j1 kj6 t352 t356 t360 false)) else (some false))) = some r := H
     have A33 := AM_ A330
     clear A330
     replace H := Option.bind_eq_some_iff.mp H
     obtain ⟨t374, A340, H⟩ := H
     replace H : (if t374 = true then (if t357 = true then (if (t368.length : Int) < 2 then (laws_FnWaits.j1 kj6 t352 t356 t360 true) else (if 0 < (t368.length : Int) then (if (rd t368 0) = t352 then (if 1 < (t368.length : Int) then (if (rd t368 1) = t353 then ((impl_WouldDeadlock.f kj6 t351 t352 t353).bind fun t377 => (if 0 ≤ (wrap64 ((t368.length : Int) - 1)) then (if (wrap64 ((t368.length : Int) - 1)) < (t368.length : Int) then (laws_FnWaits.j1 kj6 t352 t356 t360 (t377 != ((rd t368 (wrap64 ((t368.length : Int) - 1))) == t352))) else (none)) else (none))) else (laws_FnWaits.j1 kj6 t352 t356 t360 true)) else (none)) else (laws_FnWaits.j1 kj6 t352 t356 t360 true)) else (none))) else (laws_FnWaits.j1 kj6 t352 t356 t360 false)) else (some false)) = some r := H
     have A34 := AM_ A340
     clear A340
     by_cases c35 : t374 = true
     ·subst c35
      have H1 : (if t357 = true then (if (t368.length : Int) < 2 then (laws_FnWaits.j1 kj6 t352 t356 t360 true) else (if 0 < (t368.length : Int) then (if (rd t368 0) = t352 then (if 1 < (t368.length : Int) then (if (rd t368 1) = t353 then ((impl_WouldDeadlock.f kj6 t351 t352 t353).bind fun t377 => (if 0 ≤ (wrap64 ((t368.length : Int) - 1)) then (if (wrap64 ((t368.length : Int) - 1)) < (t368.length : Int) then (laws_FnWaits.j1 kj6 t352 t356 t360 (t377 != ((rd t368 (wrap64 ((t368.length : Int) - 1))) == t352))) else (none)) else (none))) else (laws_FnWaits.j1 kj6 t352 t356 t360 true)) else (none)) else (laws_FnWaits.j1 kj6 t352 t356 t360 true)) else (none))) else (laws_FnWaits.j1 kj6 t352 t356 t360 false)) = some r := by rw [if_pos rfl] at H; exact H
      clear H
      have H := H1
      clear H1
      have HC36 := AM_ H
      clear H
      obtain ⟨Ao37, co37, eo37⟩ := Kd.R_slice HO_6.out
      subst eo37
      go_upto_region 11 with (first | ((with_reducible refine gate_callee (f := 22) rfl ?_); refine goesL_ (some 65) rfl rfl Try.func22 (by kernel_rfl) rfl #[.slice Ao37 t356.length co37, .int .i64 t352] rfl (by (try simp only [List.map_toArray, List.map_cons, List.map_nil]); first | done | rfl | (simp only [List.length_drop, List.length_take]; rfl)) ?_; (with_reducible refine (impl_WaitChain.calls kj6 _ _ t356 t352 t368 _ ?side1 ?side2 A32.out).mono ?_); (case side1 => exact Kd.C_below (Kd.R_reads' HO_6.out).2.2 (BL (Below.refl _ _) rfl rfl rfl rfl)); (case side2 => exact (Kd.R_reads' HO_6.out).2.1); rintro e w38 ⟨v369, rfl, ho0, hb⟩; refine ⟨_, rfl, ?_⟩; have n0_ := AM_ (Kd.R_below (by exact RL HO_3.out rfl) hb); have n1_ := AM_ (Kd.R_below (by exact RL HO_6.out rfl) hb); have n2_ := AM_ (Kd.R_below (by exact RL HO_8.out rfl) hb); have n3_ := AM_ (Kd.R_lower ho0 (below_size (by exact BL HB.out rfl rfl rfl rfl))); have n4_ := AM_ (below_step (by exact BL HB.out rfl rfl rfl rfl) hb); clear HO_3; clear HO_6; clear HO_8; clear HB; have HO_3 := n0_; have HO_6 := n1_; have HO_8 := n2_; have HO370 := n3_; have HB := n4_; clear n0_ n1_ n2_ n3_ n4_; (try clear hb); (try clear hb2); (try clear hk); (try clear hi); (try clear ho0); obtain ⟨Ao39, co39, eo39⟩ := Kd.R_slice HO_8.out; subst eo39) | ((with_reducible refine gate_callee (f := 24) rfl ?_); refine goesL_ (some 69) rfl rfl Try.func24 (by kernel_rfl) rfl #[.slice Ao39 t360.length co39, .int .i64 t352] rfl (by (try simp only [List.map_toArray, List.map_cons, List.map_nil]); first | done | rfl | (simp only [List.length_drop, List.length_take]; rfl)) ?_; (with_reducible refine (spec_WaitChain.calls kj6 _ _ t360 t352 t371 _ ?side1 ?side2 A33.out).mono ?_); (case side1 => exact Kd.C_below (Kd.R_reads' HO_8.out).2.2 (BL (Below.refl _ _) rfl rfl rfl rfl)); (case side2 => exact (Kd.R_reads' HO_8.out).2.1); rintro e w40 ⟨v372, rfl, ho0, hb⟩; refine ⟨_, rfl, ?_⟩; have n0_ := AM_ (Kd.R_below (by exact RL HO_3.out rfl) hb); have n1_ := AM_ (Kd.R_below (by exact RL HO_6.out rfl) hb); have n2_ := AM_ (Kd.R_below (by exact RL HO_8.out rfl) hb); have n3_ := AM_ (Kd.R_elder' (by exact RL HO370.out rfl) (Kd.R_base ho0) hb); have n4_ := AM_ (Kd.R_lower (Kd.R_new' ho0 (Kd.R_lt (by exact RL HO370.out rfl))) (below_size (by exact BL HB.out rfl rfl rfl rfl))); have n5_ := AM_ (below_step (by exact BL HB.out rfl rfl rfl rfl) hb); clear HO_3; clear HO_6; clear HO_8; clear HO370; clear HB; have HO_3 := n0_; have HO_6 := n1_; have HO_8 := n2_; have HO370 := n3_; have HO373 := n4_; have HB := n5_; clear n0_ n1_ n2_ n3_ n4_ n5_; (try clear hb); (try clear hb2); (try clear hk); (try clear hi); (try clear ho0); obtain ⟨Ao41, co41, eo41⟩ := Kd.R_slice HO370.out; subst eo41; obtain ⟨Ao42, co42, eo42⟩ := Kd.R_slice HO373.out; subst eo42) | ((with_reducible refine gate_callee (f := 23) rfl ?_); refine goesL_ (some 70) rfl rfl Try.func23 (by kernel_rfl) rfl #[.slice Ao41 t368.length co41, .slice Ao42 t371.length co42] rfl (by (try simp only [List.map_toArray, List.map_cons, List.map_nil]); first | done | rfl | (simp only [List.length_drop, List.length_take]; rfl)) ?_; (with_reducible refine (laws_sameInts.calls kj6 _ _ t368 _ _ t371 true _ ?side1 ?side2 ?side3 ?side4 A34.out).mono ?_); (case side1 => exact Kd.C_below (Kd.R_reads' HO370.out).2.2 (BL (Below.refl _ _) rfl rfl rfl rfl)); (case side2 => exact (Kd.R_reads' HO370.out).2.1); (case side3 => exact Kd.C_below (Kd.R_reads' HO373.out).2.2 (BL (Below.refl _ _) rfl rfl rfl rfl)); (case side4 => exact (Kd.R_reads' HO373.out).2.1); rintro e w' ⟨rfl, ⟨nd, rfl⟩⟩; refine ⟨_, rfl, ?_⟩))
      (try simp only [pA, pS, pZ, pK])
      go_cut [106] (fun v106 wc => ∃ (kq : Nat) (x106_35 : Bool), v106 = .bool x106_35 ∧ Aside0 (laws_FnWaits.j1 kq t352 t356 t360 x106_35 = some r) ∧ Aside0 (kq ≤ kj6) ∧ Aside0 (Kd.R k36 36 wc w.heap.size (fun k_ => some k_ ≠ ((.slice Ao39 t360.length co39) : Value).ownBlock) (.slice Ao37 t356.length co37) t356) ∧ Aside0 (Kd.R k36 36 wc w.heap.size (fun k_ => some k_ ≠ ((.slice Ao37 t356.length co37) : Value).ownBlock) (.slice Ao39 t360.length co39) t360) ∧ Aside0 (Below w.heap.size w wc))
      case first =>
       have H := HC36.out
       clear HC36
       by_cases c43 : t357 = true
       ·subst c43
        have H1 : (if (t368.length : Int) < 2 then (laws_FnWaits.j1 kj6 t352 t356 t360 true) else (if 0 < (t368.length : Int) then (if (rd t368 0) = t352 then (if 1 < (t368.length : Int) then (if (rd t368 1) = t353 then ((impl_WouldDeadlock.f kj6 t351 t352 t353).bind fun t377 => (if 0 ≤ (wrap64 ((t368.length : Int) - 1)) then (if (wrap64 ((t368.length : Int) - 1)) < (t368.length : Int) then (laws_FnWaits.j1 kj6 t352 t356 t360 (t377 != ((rd t368 (wrap64 ((t368.length : Int) - 1))) == t352))) else (none)) else (none))) else (laws_FnWaits.j1 kj6 t352 t356 t360 true)) else (none)) else (laws_FnWaits.j1 kj6 t352 t356 t360 true)) else (none))) = some r := by rw [if_pos rfl] at H; exact H
        clear H
        have H := H1
        clear H1
        by_cases c44 : (t368.length : Int) < 2
        ·rw [if_pos c44] at H
         have c44b0 : decide ((t368.length : Int) < 2) = true := decide_eq_true c44
         have c44b1 : decide (t368.length < 2) = true := decide_eq_true (by omega)
         clear c44
         (first | rw [c44b0] | (simp only [i64_w, i32_w]; rw [c44b0]) | skip)
         have H' := AM_ H
         clear H
         try go_wp2
         (try (rw [drewN_self w40]; generalize hq_ : World.drewN w40 _ = w40; have n0_ : Aside0 (Kd.R (Kd.int .i64) 3 w40 w.heap.size (fun k_ => some k_ ≠ (.slice Ao42 t371.length co42 : Value).ownBlock) (.slice Ao41 t368.length co41) t368) := ⟨by rw [← hq_]; exact (by (with_reducible repeat (first | apply Kd.R_alloc | apply Kd.R_drewN | apply Kd.R_drew)); exact Kd.R_mono HO370.out (fun _ hk => hk.2))⟩; have n1_ : Aside0 (Kd.R (Kd.int .i64) 3 w40 w.heap.size (fun k_ => some k_ ≠ (.slice Ao41 t368.length co41 : Value).ownBlock) (.slice Ao42 t371.length co42) t371) := ⟨by rw [← hq_]; exact (by (with_reducible repeat (first | apply Kd.R_alloc | apply Kd.R_drewN | apply Kd.R_drew)); exact Kd.R_mono HO373.out (fun _ hk => hk.2))⟩; have n2_ : Aside0 (Kd.R k36 36 w40 w.heap.size (fun k_ => some k_ ≠ (.slice Ao37 t356.length co37 : Value).ownBlock ∧ some k_ ≠ (.slice Ao39 t360.length co39 : Value).ownBlock) (.slice Ao9 t351.length co9) t351) := ⟨by rw [← hq_]; exact (by exact RL HO_3.out rfl)⟩; have n3_ : Aside0 (Kd.R k36 36 w40 w.heap.size (fun k_ => some k_ ≠ (.slice Ao9 t351.length co9 : Value).ownBlock ∧ some k_ ≠ (.slice Ao39 t360.length co39 : Value).ownBlock) (.slice Ao37 t356.length co37) t356) := ⟨by rw [← hq_]; exact (by exact RL HO_6.out rfl)⟩; have n4_ : Aside0 (Kd.R k36 36 w40 w.heap.size (fun k_ => some k_ ≠ (.slice Ao9 t351.length co9 : Value).ownBlock ∧ some k_ ≠ (.slice Ao37 t356.length co37 : Value).ownBlock) (.slice Ao39 t360.length co39) t360) := ⟨by rw [← hq_]; exact (by exact RL HO_8.out rfl)⟩; have n5_ : Aside0 (Below w.heap.size w w40) := ⟨by rw [← hq_]; exact (by exact BL HB.out rfl rfl rfl rfl)⟩; clear HO370 HO373 HO_3 HO_6 HO_8 HB hq_; have HO370 := n0_; have HO373 := n1_; have HO_3 := n2_; have HO_6 := n3_; have HO_8 := n4_; have HB := n5_; clear n0_ n1_ n2_ n3_ n4_ n5_))
         have n0_ := AM_ (Kd.R_drew HO_3.out)
         have n1_ := AM_ (Kd.R_drew HO_6.out)
         have n2_ := AM_ (Kd.R_drew HO_8.out)
         have n3_ := AM_ (Kd.R_drew HO370.out)
         have n4_ := AM_ (Kd.R_drew HO373.out)
         have n5_ := AM_ (below_drew1 HB.out)
         clear HO_3
         clear HO_6
         clear HO_8
         clear HO370
         clear HO373
         clear HB
         have HO_3 := n0_
         have HO_6 := n1_
         have HO_8 := n2_
         have HO370 := n3_
         have HO373 := n4_
         have HB := n5_
         clear n0_ n1_ n2_ n3_ n4_ n5_
         refine start_ (n := 35) (S := fun w' => True) (ds := []) (bs 0 35) (by kernel_rfl) rfl rfl trivial (fun hHeld => ?_); refine with_tabW laws_FnWaits.tab11 laws_FnWaits.bits11 (fun HT_ HW_ => ?_)
         generalize w40.drew = w45 at HO_3 HO_6 HO_8 HO370 HO373 HB hHeld ⊢
         refine pure_ (i := 0) (N := some 72) (v := ?_) (a' := ?_) (bs 1 35) rfl rfl (any_of HT_.out (by kernel_rfl)) (fun _ _ _ h => h) (Or.inl ⟨by rfl, ?_⟩) ?_ ?_
         rotate_left
         ·intro w'
          go_simp
          with_reducible rfl
         rotate_left
         ·simp only [pA, pS, pZ, pK, i64_w, i32_w]
          rfl
         refine pure_ (i := 1) (N := some 73) (v := ?_) (a' := ?_) (bs 3 35) rfl rfl (any_of HT_.out (by kernel_rfl)) (fun _ _ _ h => h) (Or.inl ⟨by rfl, ?_⟩) ?_ ?_
         rotate_left
         ·intro w'
          go_simp
          with_reducible rfl
         rotate_left
         ·simp only [pA, pS, pZ, pK, i64_w, i32_w]
          rfl
         refine pure_ (i := 2) (N := some 74) (v := ?_) (a' := ?_) (bs 7 35) rfl rfl (any_of HT_.out (by kernel_rfl)) (fun _ _ _ h => h) (Or.inl ⟨by rfl, ?_⟩) ?_ ?_
         rotate_left
         ·intro w'
          go_simp
          with_reducible rfl
         rotate_left
         ·simp only [pA, pS, pZ, pK, i64_w, i32_w]
          rfl
         refine pure_ (i := 3) (N := some 75) (v := ?_) (a' := ?_) (bs 15 35) rfl rfl (any_of HT_.out (by kernel_rfl)) (fun _ _ _ h => h) (Or.inl ⟨by rfl, ?_⟩) ?_ ?_
         rotate_left
         ·intro w'
          go_simp
          with_reducible rfl
         rotate_left
         ·simp only [pA, pS, pZ, pK, i64_w, i32_w]
          rfl
         refine pure_ (i := 4) (N := some 76) (v := ?_) (a' := ?_) (bs 31 35) rfl rfl (any_of HT_.out (by kernel_rfl)) (fun _ _ _ h => h) (Or.inl ⟨by rfl, ?_⟩) ?_ ?_
         rotate_left
         ·intro w'
          go_simp
          with_reducible rfl
         rotate_left
         ·simp only [pA, pS, pZ, pK, i64_w, i32_w]
          rfl
         refine pure_ (i := 5) (N := some 77) (v := ?_) (a' := ?_) (bs 63 35) rfl rfl (any_of HT_.out (by kernel_rfl)) (fun _ _ _ h => h) (Or.inl ⟨by rfl, ?_⟩) ?_ ?_
         rotate_left
         ·intro w'
          go_simp
          with_reducible rfl
         rotate_left
         ·simp only [pA, pS, pZ, pK, i64_w, i32_w]
          rfl
         refine pure_ (i := 6) (N := some 78) (v := undef) (a' := ?_) (bs 127 35) rfl rfl (any_of HT_.out (by kernel_rfl)) (fun _ _ _ h => h) (Or.inr ⟨by rfl, rfl⟩) ?_ ?_
         rotate_left
         ·simp only [pA, pS, pZ, pK, i64_w, i32_w]
          rfl
         refine pure_ (i := 7) (N := some 79) (v := undef) (a' := ?_) (bs 255 35) rfl rfl (any_of HT_.out (by kernel_rfl)) (fun _ _ _ h => h) (Or.inr ⟨by rfl, rfl⟩) ?_ ?_
         rotate_left
         ·simp only [pA, pS, pZ, pK, i64_w, i32_w]
          rfl
         refine pure_ (i := 8) (N := some 80) (v := undef) (a' := ?_) (bs 511 35) rfl rfl (any_of HT_.out (by kernel_rfl)) (fun _ _ _ h => h) (Or.inr ⟨by rfl, rfl⟩) ?_ ?_
         rotate_left
         ·simp only [pA, pS, pZ, pK, i64_w, i32_w]
          rfl
         refine pure_ (i := 9) (N := some 81) (v := undef) (a' := ?_) (bs 1023 35) rfl rfl (any_of HT_.out (by kernel_rfl)) (fun _ _ _ h => h) (Or.inr ⟨by rfl, rfl⟩) ?_ ?_
         rotate_left
         ·simp only [pA, pS, pZ, pK, i64_w, i32_w]
          rfl
         refine pure_ (i := 10) (N := some 82) (v := undef) (a' := ?_) (bs 2047 35) rfl rfl (any_of HT_.out (by kernel_rfl)) (fun _ _ _ h => h) (Or.inr ⟨by rfl, rfl⟩) ?_ ?_
         rotate_left
         ·simp only [pA, pS, pZ, pK, i64_w, i32_w]
          rfl
         refine pure_ (i := 11) (N := some 83) (v := ?_) (a' := ?_) (bs 4095 35) rfl rfl (any_of HT_.out (by kernel_rfl)) (fun _ _ _ h => h) (Or.inl ⟨by rfl, ?_⟩) ?_ ?_
         rotate_left
         ·intro w'
          go_simp
          with_reducible rfl
         rotate_left
         ·simp only [pA, pS, pZ, pK, i64_w, i32_w]
          rfl
         refine pure_ (i := 12) (N := some 84) (v := ?_) (a' := ?_) (bs 8191 35) rfl rfl (any_of HT_.out (by kernel_rfl)) (fun _ _ _ h => h) (Or.inl ⟨by rfl, ?_⟩) ?_ ?_
         rotate_left
         ·intro w'
          go_simp
          with_reducible rfl
         rotate_left
         ·simp only [pA, pS, pZ, pK, i64_w, i32_w]
          rfl
         refine pure_ (i := 13) (N := some 85) (v := undef) (a' := ?_) (bs 16383 35) rfl rfl (any_of HT_.out (by kernel_rfl)) (fun _ _ _ h => h) (Or.inr ⟨by rfl, rfl⟩) ?_ ?_
         rotate_left
         ·simp only [pA, pS, pZ, pK, i64_w, i32_w]
          rfl
         refine pure_ (i := 14) (N := some 86) (v := undef) (a' := ?_) (bs 32767 35) rfl rfl (any_of HT_.out (by kernel_rfl)) (fun _ _ _ h => h) (Or.inr ⟨by rfl, rfl⟩) ?_ ?_
         rotate_left
         ·simp only [pA, pS, pZ, pK, i64_w, i32_w]
          rfl
         refine pure_ (i := 15) (N := some 87) (v := undef) (a' := ?_) (bs 65535 35) rfl rfl (any_of HT_.out (by kernel_rfl)) (fun _ _ _ h => h) (Or.inr ⟨by rfl, rfl⟩) ?_ ?_
         rotate_left
         ·simp only [pA, pS, pZ, pK, i64_w, i32_w]
          rfl
         refine pure_ (i := 16) (N := some 88) (v := undef) (a' := ?_) (bs 131071 35) rfl rfl (any_of HT_.out (by kernel_rfl)) (fun _ _ _ h => h) (Or.inr ⟨by rfl, rfl⟩) ?_ ?_
         rotate_left
         ·simp only [pA, pS, pZ, pK, i64_w, i32_w]
          rfl
         refine pure_ (i := 17) (N := some 89) (v := undef) (a' := ?_) (bs 262143 35) rfl rfl (any_of HT_.out (by kernel_rfl)) (fun _ _ _ h => h) (Or.inr ⟨by rfl, rfl⟩) ?_ ?_
         rotate_left
         ·simp only [pA, pS, pZ, pK, i64_w, i32_w]
          rfl
         refine pure_ (i := 18) (N := some 90) (v := ?_) (a' := ?_) (bs 524287 35) rfl rfl (any_of HT_.out (by kernel_rfl)) (fun _ _ _ h => h) (Or.inl ⟨by rfl, ?_⟩) ?_ ?_
         rotate_left
         ·intro w'
          go_simp
          with_reducible rfl
         rotate_left
         ·simp only [pA, pS, pZ, pK, i64_w, i32_w]
          rfl
         refine pure_ (i := 19) (N := some 91) (v := ?_) (a' := ?_) (bs 1048575 35) rfl rfl (any_of HT_.out (by kernel_rfl)) (fun _ _ _ h => h) (Or.inl ⟨by rfl, ?_⟩) ?_ ?_
         rotate_left
         ·intro w'
          go_simp
          with_reducible rfl
         rotate_left
         ·simp only [pA, pS, pZ, pK, i64_w, i32_w]
          rfl
         refine pure_ (i := 20) (N := some 92) (v := undef) (a' := ?_) (bs 2097151 35) rfl rfl (any_of HT_.out (by kernel_rfl)) (fun _ _ _ h => h) (Or.inr ⟨by rfl, rfl⟩) ?_ ?_
         rotate_left
         ·simp only [pA, pS, pZ, pK, i64_w, i32_w]
          rfl
         refine pure_ (i := 21) (N := some 93) (v := undef) (a' := ?_) (bs 4194303 35) rfl rfl (any_of HT_.out (by kernel_rfl)) (fun _ _ _ h => h) (Or.inr ⟨by rfl, rfl⟩) ?_ ?_
         rotate_left
         ·simp only [pA, pS, pZ, pK, i64_w, i32_w]
          rfl
         refine pure_ (i := 22) (N := some 94) (v := undef) (a' := ?_) (bs 8388607 35) rfl rfl (any_of HT_.out (by kernel_rfl)) (fun _ _ _ h => h) (Or.inr ⟨by rfl, rfl⟩) ?_ ?_
         rotate_left
         ·simp only [pA, pS, pZ, pK, i64_w, i32_w]
          rfl
         refine pure_ (i := 23) (N := some 95) (v := undef) (a' := ?_) (bs 16777215 35) rfl rfl (any_of HT_.out (by kernel_rfl)) (fun _ _ _ h => h) (Or.inr ⟨by rfl, rfl⟩) ?_ ?_
         rotate_left
         ·simp only [pA, pS, pZ, pK, i64_w, i32_w]
          rfl
         refine pure_ (i := 24) (N := some 96) (v := undef) (a' := ?_) (bs 33554431 35) rfl rfl (any_of HT_.out (by kernel_rfl)) (fun _ _ _ h => h) (Or.inr ⟨by rfl, rfl⟩) ?_ ?_
         rotate_left
         ·simp only [pA, pS, pZ, pK, i64_w, i32_w]
          rfl
         refine pure_ (i := 25) (N := some 97) (v := undef) (a' := ?_) (bs 67108863 35) rfl rfl (any_of HT_.out (by kernel_rfl)) (fun _ _ _ h => h) (Or.inr ⟨by rfl, rfl⟩) ?_ ?_
         rotate_left
         ·simp only [pA, pS, pZ, pK, i64_w, i32_w]
          rfl
         refine pure_ (i := 26) (N := some 98) (v := undef) (a' := ?_) (bs 134217727 35) rfl rfl (any_of HT_.out (by kernel_rfl)) (fun _ _ _ h => h) (Or.inr ⟨by rfl, rfl⟩) ?_ ?_
         rotate_left
         ·simp only [pA, pS, pZ, pK, i64_w, i32_w]
          rfl
         refine pure_ (i := 27) (N := some 99) (v := undef) (a' := ?_) (bs 268435455 35) rfl rfl (any_of HT_.out (by kernel_rfl)) (fun _ _ _ h => h) (Or.inr ⟨by rfl, rfl⟩) ?_ ?_
         rotate_left
         ·simp only [pA, pS, pZ, pK, i64_w, i32_w]
          rfl
         refine pure_ (i := 28) (N := some 100) (v := undef) (a' := ?_) (bs 536870911 35) rfl rfl (any_of HT_.out (by kernel_rfl)) (fun _ _ _ h => h) (Or.inr ⟨by rfl, rfl⟩) ?_ ?_
         rotate_left
         ·simp only [pA, pS, pZ, pK, i64_w, i32_w]
          rfl
         refine pure_ (i := 29) (N := some 101) (v := undef) (a' := ?_) (bs 1073741823 35) rfl rfl (any_of HT_.out (by kernel_rfl)) (fun _ _ _ h => h) (Or.inr ⟨by rfl, rfl⟩) ?_ ?_
         rotate_left
         ·simp only [pA, pS, pZ, pK, i64_w, i32_w]
          rfl
         refine pure_ (i := 30) (N := some 102) (v := undef) (a' := ?_) (bs 2147483647 35) rfl rfl (any_of HT_.out (by kernel_rfl)) (fun _ _ _ h => h) (Or.inr ⟨by rfl, rfl⟩) ?_ ?_
         rotate_left
         ·simp only [pA, pS, pZ, pK, i64_w, i32_w]
          rfl
         refine pure_ (i := 31) (N := some 103) (v := undef) (a' := ?_) (bs 4294967295 35) rfl rfl (any_of HT_.out (by kernel_rfl)) (fun _ _ _ h => h) (Or.inr ⟨by rfl, rfl⟩) ?_ ?_
         rotate_left
         ·simp only [pA, pS, pZ, pK, i64_w, i32_w]
          rfl
         refine pure_ (i := 32) (N := some 104) (v := undef) (a' := ?_) (bs 8589934591 35) rfl rfl (any_of HT_.out (by kernel_rfl)) (fun _ _ _ h => h) (Or.inr ⟨by rfl, rfl⟩) ?_ ?_
         rotate_left
         ·simp only [pA, pS, pZ, pK, i64_w, i32_w]
          rfl
         refine pure_ (i := 33) (N := some 105) (v := ?_) (a' := ?_) (bs 17179869183 35) rfl rfl (any_of HT_.out (by kernel_rfl)) (fun _ _ _ h => h) (Or.inl ⟨by rfl, ?_⟩) ?_ ?_
         rotate_left
         ·intro w'
          go_simp
          with_reducible rfl
         rotate_left
         ·simp only [pA, pS, pZ, pK, i64_w, i32_w]
          rfl
         refine pure_ (i := 34) (N := some 106) (v := ?_) (a' := ?_) (bs 34359738367 35) rfl rfl (any_of HT_.out (by kernel_rfl)) (fun _ _ _ h => h) (Or.inl ⟨by rfl, ?_⟩) ?_ ?_
         rotate_left
         ·intro w'
          go_simp
          with_reducible rfl
         rotate_left
         ·simp only [pA, pS, pZ, pK, i64_w, i32_w]
          rfl
         refine done_ (done_of HT_.out (by kernel_rfl)) ?_
         try go_wp2
         go_meet
         case rel => exact ⟨_, (true), (by first | rfl | (simp; done) | (simp [*]; done)), H', ⟨by have := HJ6.out; first | omega | exact Nat.le_refl _⟩, ⟨by (with_reducible repeat (first | apply Kd.R_alloc | apply Kd.R_drewN | apply Kd.R_drew)); exact Kd.R_mono HO_6.out (fun _ hk => hk.2)⟩, ⟨by (with_reducible repeat (first | apply Kd.R_alloc | apply Kd.R_drewN | apply Kd.R_drew)); exact Kd.R_mono HO_8.out (fun _ hk => hk.2)⟩, ⟨by exact BL HB.out rfl rfl rfl rfl⟩⟩
        ·rw [if_neg c44] at H
         have c44b0 : decide ((t368.length : Int) < 2) = false := decide_eq_false c44
         have c44b1 : decide (t368.length < 2) = false := decide_eq_false (by omega)
         clear c44
         (first | rw [c44b0] | (simp only [i64_w, i32_w]; rw [c44b0]) | skip)
         by_cases c46 : 0 < (t368.length : Int)
         ·rw [if_pos c46] at H
          have c46b0 : decide (0 < (t368.length : Int)) = true := decide_eq_true c46
          have c46b1 : decide (0 < t368.length) = true := decide_eq_true (by omega)
          clear c46
          by_cases c47 : (rd t368 0) = t352
          ·rw [if_pos c47] at H
           have c47b0 : ((rd t368 0) == t352) = true := beq_iff_eq.mpr c47
           have c47b1 : ((rd t368 0) != t352) = false := bne_eq_false_iff_eq.mpr c47
           clear c47
           by_cases c48 : 1 < (t368.length : Int)
           ·rw [if_pos c48] at H
            have c48b0 : decide (1 < (t368.length : Int)) = true := decide_eq_true c48
            have c48b1 : decide (1 < t368.length) = true := decide_eq_true (by omega)
            clear c48
            by_cases c49 : (rd t368 1) = t353
            ·rw [if_pos c49] at H
             have c49b0 : ((rd t368 1) == t353) = true := beq_iff_eq.mpr c49
             have c49b1 : ((rd t368 1) != t353) = false := bne_eq_false_iff_eq.mpr c49
             clear c49
             replace H := Option.bind_eq_some_iff.mp H
             obtain ⟨t377, A500, H⟩ := H
             replace H : (if 0 ≤ (wrap64 ((t368.length : Int) - 1)) then (if (wrap64 ((t368.length : Int) - 1)) < (t368.length : Int) then (laws_FnWaits.j1 kj6 t352 t356 t360 (t377 != ((rd t368 (wrap64 ((t368.length : Int) - 1))) == t352))) else (none)) else (none)) = some r := H
             have A50 := AM_ A500
             clear A500
             obtain ⟨ji51, hji51⟩ : ∃ j_ : Int, (wrap64 ((t368.length : Int) - 1)) = j_ := ⟨_, rfl⟩
             replace H : (if 0 ≤ (ji51) then (if (ji51) < (t368.length : Int) then (laws_FnWaits.j1 kj6 t352 t356 t360 (t377 != ((rd t368 (ji51)) == t352))) else (none)) else (none)) = some r := by first | (rw [hji51] at H; exact H) | (simp only [hji51] at H ⊢; exact H)
             (try rw [hji51] at A50)
             have hji51w : (IntKind.i64.wrap ((t368.length : Int) - 1)) = ji51 := (i64_w _).trans hji51
             by_cases c52 : 0 ≤ (ji51)
             ·rw [if_pos c52] at H
              have c52b0 : decide (0 ≤ (ji51)) = true := decide_eq_true c52
              clear c52
              by_cases c53 : (ji51) < (t368.length : Int)
              ·rw [if_pos c53] at H
               have c53b0 : decide ((ji51) < (t368.length : Int)) = true := decide_eq_true c53
               clear c53
               have H' := AM_ H
               clear H
               try go_wp2
               (try (rw [drewN_self w40]; generalize hq_ : World.drewN w40 _ = w40; have n0_ : Aside0 (Kd.R (Kd.int .i64) 3 w40 w.heap.size (fun k_ => some k_ ≠ (.slice Ao42 t371.length co42 : Value).ownBlock) (.slice Ao41 t368.length co41) t368) := ⟨by rw [← hq_]; exact (by (with_reducible repeat (first | apply Kd.R_alloc | apply Kd.R_drewN | apply Kd.R_drew)); exact Kd.R_mono HO370.out (fun _ hk => hk.2))⟩; have n1_ : Aside0 (Kd.R (Kd.int .i64) 3 w40 w.heap.size (fun k_ => some k_ ≠ (.slice Ao41 t368.length co41 : Value).ownBlock) (.slice Ao42 t371.length co42) t371) := ⟨by rw [← hq_]; exact (by (with_reducible repeat (first | apply Kd.R_alloc | apply Kd.R_drewN | apply Kd.R_drew)); exact Kd.R_mono HO373.out (fun _ hk => hk.2))⟩; have n2_ : Aside0 (Kd.R k36 36 w40 w.heap.size (fun k_ => some k_ ≠ (.slice Ao37 t356.length co37 : Value).ownBlock ∧ some k_ ≠ (.slice Ao39 t360.length co39 : Value).ownBlock) (.slice Ao9 t351.length co9) t351) := ⟨by rw [← hq_]; exact (by exact RL HO_3.out rfl)⟩; have n3_ : Aside0 (Kd.R k36 36 w40 w.heap.size (fun k_ => some k_ ≠ (.slice Ao9 t351.length co9 : Value).ownBlock ∧ some k_ ≠ (.slice Ao39 t360.length co39 : Value).ownBlock) (.slice Ao37 t356.length co37) t356) := ⟨by rw [← hq_]; exact (by exact RL HO_6.out rfl)⟩; have n4_ : Aside0 (Kd.R k36 36 w40 w.heap.size (fun k_ => some k_ ≠ (.slice Ao9 t351.length co9 : Value).ownBlock ∧ some k_ ≠ (.slice Ao37 t356.length co37 : Value).ownBlock) (.slice Ao39 t360.length co39) t360) := ⟨by rw [← hq_]; exact (by exact RL HO_8.out rfl)⟩; have n5_ : Aside0 (Below w.heap.size w w40) := ⟨by rw [← hq_]; exact (by exact BL HB.out rfl rfl rfl rfl)⟩; clear HO370 HO373 HO_3 HO_6 HO_8 HB hq_; have HO370 := n0_; have HO373 := n1_; have HO_3 := n2_; have HO_6 := n3_; have HO_8 := n4_; have HB := n5_; clear n0_ n1_ n2_ n3_ n4_ n5_))
               have n0_ := AM_ (Kd.R_drew HO_3.out)
               have n1_ := AM_ (Kd.R_drew HO_6.out)
               have n2_ := AM_ (Kd.R_drew HO_8.out)
               have n3_ := AM_ (Kd.R_drew HO370.out)
               have n4_ := AM_ (Kd.R_drew HO373.out)
               have n5_ := AM_ (below_drew1 HB.out)
               clear HO_3
               clear HO_6
               clear HO_8
               clear HO370
               clear HO373
               clear HB
               have HO_3 := n0_
               have HO_6 := n1_
               have HO_8 := n2_
               have HO370 := n3_
               have HO373 := n4_
               have HB := n5_
               clear n0_ n1_ n2_ n3_ n4_ n5_
               have p375 : 0 ≤ (0 : Int) := (by omega)
               have q375 : 0 < (t368.length : Int) := of_decide_eq_true (by first | (with_reducible assumption) | assumption)
               obtain ⟨ad375, e375, hx375_0⟩ := Kd.at_int (Kd.R_reads' HO370.out).2.2 0 p375 q375
               cases e375
               have qi375 : (0 < t368.length) = True := eq_true (by omega)
               (try rw [show ((0 : Int)).toNat = 0 from rfl] at hx375_0)
               (try rw [Addr.add_zero'] at hx375_0)
               replace p375 := eq_true p375
               replace q375 := eq_true q375
               have p376 : 0 ≤ (1 : Int) := (by omega)
               have q376 : 1 < (t368.length : Int) := of_decide_eq_true (by first | (with_reducible assumption) | assumption)
               obtain ⟨ad376, e376, hx376_0⟩ := Kd.at_int (Kd.R_reads' HO370.out).2.2 1 p376 q376
               obtain rfl : ad375 = ad376 := (by injection e376)
               (try simp only [show (1 : Int).toNat = 1 from rfl, Nat.reduceMul, Nat.reduceEqDiff, Go.Addr.add, ↓reduceIte] at hx376_0)
               have qi376 : (1 < t368.length) = True := eq_true (by omega)
               (try rw [show ((1 : Int)).toNat = 1 from rfl] at hx376_0)
               replace p376 := eq_true p376
               replace q376 := eq_true q376
               have p378 : 0 ≤ ((ji51) : Int) := of_decide_eq_true (by first | (with_reducible assumption) | assumption)
               have q378 : (ji51) < (t368.length : Int) := of_decide_eq_true (by first | (with_reducible assumption) | assumption)
               obtain ⟨ad378, e378, hx378_0⟩ := Kd.at_int (Kd.R_reads' HO370.out).2.2 (ji51) p378 q378
               obtain rfl : ad375 = ad378 := (by injection e378)
               replace p378 := eq_true p378
               replace q378 := eq_true q378
               refine start_ (n := 35) (S := fun w' => w'.cell? ad375 = some (.int .i64 (rd t368 0)) ∧ w'.cell? ⟨ad375.block, ad375.off + 1, none⟩ = some (.int .i64 (rd t368 1)) ∧ w'.cell? (ad375.add ((ji51)).toNat) = some (.int .i64 (rd t368 (ji51)))) (ds := []) (bs 0 35) (by kernel_rfl) rfl rfl ⟨hx375_0, hx376_0, hx378_0⟩ (fun hHeld => ?_); refine with_tabW laws_FnWaits.tab11 laws_FnWaits.bits11 (fun HT_ HW_ => ?_)
               generalize w40.drew = w54 at HO_3 HO_6 HO_8 HO370 HO373 HB hx375_0 hx376_0 hx378_0 hHeld ⊢
               refine pure_ (i := 0) (N := some 72) (v := ?_) (a' := ?_) (bs 1 35) rfl rfl (any_of HT_.out (by kernel_rfl)) (fun _ _ _ h => h) (Or.inl ⟨by rfl, ?_⟩) ?_ ?_
               rotate_left
               ·intro w'
                go_simp
                with_reducible rfl
               rotate_left
               ·simp only [pA, pS, pZ, pK, i64_w, i32_w]
                rfl
               refine pure_ (i := 1) (N := some 73) (v := ?_) (a' := ?_) (bs 3 35) rfl rfl (any_of HT_.out (by kernel_rfl)) (fun _ _ _ h => h) (Or.inl ⟨by rfl, ?_⟩) ?_ ?_
               rotate_left
               ·intro w'
                go_simp
                with_reducible rfl
               rotate_left
               ·simp only [pA, pS, pZ, pK, i64_w, i32_w]
                rfl
               refine pure_ (i := 2) (N := some 74) (v := ?_) (a' := ?_) (bs 7 35) rfl rfl (any_of HT_.out (by kernel_rfl)) (fun _ _ _ h => h) (Or.inl ⟨by rfl, ?_⟩) ?_ ?_
               rotate_left
               ·intro w'
                go_simp
                with_reducible rfl
               rotate_left
               ·simp only [pA, pS, pZ, pK, i64_w, i32_w]
                rfl
               refine pure_ (i := 3) (N := some 75) (v := ?_) (a' := ?_) (bs 15 35) rfl rfl (any_of HT_.out (by kernel_rfl)) (fun _ _ _ h => h) (Or.inl ⟨by rfl, ?_⟩) ?_ ?_
               rotate_left
               ·intro w'
                go_simp
                with_reducible rfl
               rotate_left
               ·simp only [pA, pS, pZ, pK, i64_w, i32_w]
                rfl
               refine pure_ (i := 4) (N := some 76) (v := ?_) (a' := ?_) (bs 31 35) rfl rfl (any_of HT_.out (by kernel_rfl)) (fun _ _ _ h => h) (Or.inl ⟨by rfl, ?_⟩) ?_ ?_
               rotate_left
               ·intro w'
                go_simp
                with_reducible rfl
               rotate_left
               ·simp only [pA, pS, pZ, pK, i64_w, i32_w]
                rfl
               refine pure_ (i := 5) (N := some 77) (v := ?_) (a' := ?_) (bs 63 35) rfl rfl (any_of HT_.out (by kernel_rfl)) (fun _ _ _ h => h) (Or.inl ⟨by rfl, ?_⟩) ?_ ?_
               rotate_left
               ·intro w'
                go_simp
                with_reducible rfl
               rotate_left
               ·simp only [pA, pS, pZ, pK, i64_w, i32_w]
                rfl
               refine pure_ (i := 6) (N := some 78) (v := ?_) (a' := ?_) (bs 127 35) rfl rfl (any_of HT_.out (by kernel_rfl)) (fun _ _ _ h => h) (Or.inl ⟨by rfl, ?_⟩) ?_ ?_
               rotate_left
               ·intro w'
                go_simp
                with_reducible rfl
               rotate_left
               ·simp only [pA, pS, pZ, pK, i64_w, i32_w]
                rfl
               refine pure_ (i := 7) (N := some 79) (v := ?_) (a' := ?_) (bs 255 35) rfl rfl (any_of HT_.out (by kernel_rfl)) (fun _ _ _ h => h) (Or.inl ⟨by rfl, ?_⟩) ?_ ?_
               rotate_left
               ·intro w'
                go_simp
                with_reducible rfl
               rotate_left
               ·simp only [pA, pS, pZ, pK, i64_w, i32_w]
                rfl
               refine pure_ (i := 9) (N := some 81) (v := ?_) (a' := ?_) (bs 767 35) rfl rfl (any_of HT_.out (by kernel_rfl)) (fun _ _ _ h => h) (Or.inl ⟨by rfl, ?_⟩) ?_ ?_
               rotate_left
               ·intro w'
                go_simp
                with_reducible rfl
               rotate_left
               ·simp only [pA, pS, pZ, pK, i64_w, i32_w]
                rfl
               refine take_ (i := 8) (N := some 80) (v := ?_) (a' := ?_) (bs 1023 35) rfl rfl (take_ofW HT_.out HW_.out (by kernel_rfl)) (fun _ _ _ h => h) (Or.inl ⟨by rfl, ?_⟩) hHeld ?_ ?_
               rotate_left
               ·rintro w' ⟨s0, s1, s2⟩
                go_simp
                with_reducible rfl
               rotate_left
               ·simp only [pA, pS, pZ, pK, i64_w, i32_w]
                rfl
               refine pure_ (i := 10) (N := some 82) (v := ?_) (a' := ?_) (bs 2047 35) rfl rfl (any_of HT_.out (by kernel_rfl)) (fun _ _ _ h => h) (Or.inl ⟨by rfl, ?_⟩) ?_ ?_
               rotate_left
               ·intro w'
                go_simp
                with_reducible rfl
               rotate_left
               ·simp only [pA, pS, pZ, pK, i64_w, i32_w]
                rfl
               refine pure_ (i := 11) (N := some 83) (v := ?_) (a' := ?_) (bs 4095 35) rfl rfl (any_of HT_.out (by kernel_rfl)) (fun _ _ _ h => h) (Or.inl ⟨by rfl, ?_⟩) ?_ ?_
               rotate_left
               ·intro w'
                go_simp
                with_reducible rfl
               rotate_left
               ·simp only [pA, pS, pZ, pK, i64_w, i32_w]
                rfl
               refine pure_ (i := 12) (N := some 84) (v := ?_) (a' := ?_) (bs 8191 35) rfl rfl (any_of HT_.out (by kernel_rfl)) (fun _ _ _ h => h) (Or.inl ⟨by rfl, ?_⟩) ?_ ?_
               rotate_left
               ·intro w'
                go_simp
                with_reducible rfl
               rotate_left
               ·simp only [pA, pS, pZ, pK, i64_w, i32_w]
                rfl
               refine pure_ (i := 13) (N := some 85) (v := ?_) (a' := ?_) (bs 16383 35) rfl rfl (any_of HT_.out (by kernel_rfl)) (fun _ _ _ h => h) (Or.inl ⟨by rfl, ?_⟩) ?_ ?_
               rotate_left
               ·intro w'
                go_simp
                with_reducible rfl
               rotate_left
               ·simp only [pA, pS, pZ, pK, i64_w, i32_w]
                rfl
               refine pure_ (i := 14) (N := some 86) (v := ?_) (a' := ?_) (bs 32767 35) rfl rfl (any_of HT_.out (by kernel_rfl)) (fun _ _ _ h => h) (Or.inl ⟨by rfl, ?_⟩) ?_ ?_
               rotate_left
               ·intro w'
                go_simp
                with_reducible rfl
               rotate_left
               ·simp only [pA, pS, pZ, pK, i64_w, i32_w]
                rfl
               refine pure_ (i := 16) (N := some 88) (v := ?_) (a' := ?_) (bs 98303 35) rfl rfl (any_of HT_.out (by kernel_rfl)) (fun _ _ _ h => h) (Or.inl ⟨by rfl, ?_⟩) ?_ ?_
               rotate_left
               ·intro w'
                go_simp
                with_reducible rfl
               rotate_left
               ·simp only [pA, pS, pZ, pK, i64_w, i32_w]
                rfl
               refine take_ (i := 15) (N := some 87) (v := ?_) (a' := ?_) (bs 131071 35) rfl rfl (take_ofW HT_.out HW_.out (by kernel_rfl)) (fun _ _ _ h => h) (Or.inl ⟨by rfl, ?_⟩) hHeld ?_ ?_
               rotate_left
               ·rintro w' ⟨s0, s1, s2⟩
                go_simp
                with_reducible rfl
               rotate_left
               ·simp only [pA, pS, pZ, pK, i64_w, i32_w]
                rfl
               refine pure_ (i := 17) (N := some 89) (v := ?_) (a' := ?_) (bs 262143 35) rfl rfl (any_of HT_.out (by kernel_rfl)) (fun _ _ _ h => h) (Or.inl ⟨by rfl, ?_⟩) ?_ ?_
               rotate_left
               ·intro w'
                go_simp
                with_reducible rfl
               rotate_left
               ·simp only [pA, pS, pZ, pK, i64_w, i32_w]
                rfl
               refine pure_ (i := 18) (N := some 90) (v := ?_) (a' := ?_) (bs 524287 35) rfl rfl (any_of HT_.out (by kernel_rfl)) (fun _ _ _ h => h) (Or.inl ⟨by rfl, ?_⟩) ?_ ?_
               rotate_left
               ·intro w'
                go_simp
                with_reducible rfl
               rotate_left
               ·simp only [pA, pS, pZ, pK, i64_w, i32_w]
                rfl
               refine pure_ (i := 19) (N := some 91) (v := ?_) (a' := ?_) (bs 1048575 35) rfl rfl (any_of HT_.out (by kernel_rfl)) (fun _ _ _ h => h) (Or.inl ⟨by rfl, ?_⟩) ?_ ?_
               rotate_left
               ·intro w'
                go_simp
                with_reducible rfl
               rotate_left
               ·simp only [pA, pS, pZ, pK, i64_w, i32_w]
                rfl
               refine pure_ (i := 20) (N := some 92) (v := ?_) (a' := ?_) (bs 2097151 35) rfl rfl (any_of HT_.out (by kernel_rfl)) (fun _ _ _ h => h) (Or.inl ⟨by rfl, ?_⟩) ?_ ?_
               rotate_left
               ·intro w'
                go_simp
                with_reducible rfl
               rotate_left
               ·simp only [pA, pS, pZ, pK, i64_w, i32_w]
                rfl
               refine pure_ (i := 21) (N := some 93) (v := ?_) (a' := ?_) (bs 4194303 35) rfl rfl (any_of HT_.out (by kernel_rfl)) (fun _ _ _ h => h) (Or.inl ⟨by rfl, ?_⟩) ?_ ?_
               rotate_left
               ·intro w'
                go_simp
                with_reducible rfl
               rotate_left
               ·simp only [pA, pS, pZ, pK, i64_w, i32_w]
                rfl
               refine pure_ (i := 22) (N := some 94) (v := ?_) (a' := ?_) (bs 8388607 35) rfl rfl (any_of HT_.out (by kernel_rfl)) (fun _ _ _ h => h) (Or.inl ⟨by rfl, ?_⟩) ?_ ?_
               rotate_left
               ·intro w'
                go_simp
                with_reducible rfl
               rotate_left
               ·simp only [pA, pS, pZ, pK, i64_w, i32_w]
                rfl
               refine pure_ (i := 24) (N := some 96) (v := ?_) (a' := ?_) (bs 25165823 35) rfl rfl (any_of HT_.out (by kernel_rfl)) (fun _ _ _ h => h) (Or.inl ⟨by rfl, ?_⟩) ?_ ?_
               rotate_left
               ·intro w'
                go_simp
                with_reducible rfl
               rotate_left
               ·simp only [pA, pS, pZ, pK, i64_w, i32_w]
                rfl
               refine pure_ (i := 25) (N := some 97) (v := ?_) (a' := ?_) (bs 58720255 35) rfl rfl (any_of HT_.out (by kernel_rfl)) (fun _ _ _ h => h) (Or.inl ⟨by rfl, ?_⟩) ?_ ?_
               rotate_left
               ·intro w'
                go_simp
                with_reducible rfl
               rotate_left
               ·simp only [pA, pS, pZ, pK, i64_w, i32_w]
                rfl
               refine pure_ (i := 26) (N := some 98) (v := ?_) (a' := ?_) (bs 125829119 35) rfl rfl (any_of HT_.out (by kernel_rfl)) (fun _ _ _ h => h) (Or.inl ⟨by rfl, ?_⟩) ?_ ?_
               rotate_left
               ·intro w'
                go_simp
                with_reducible rfl
               rotate_left
               ·simp only [pA, pS, pZ, pK, i64_w, i32_w]
                rfl
               refine pure_ (i := 27) (N := some 99) (v := ?_) (a' := ?_) (bs 260046847 35) rfl rfl (any_of HT_.out (by kernel_rfl)) (fun _ _ _ h => h) (Or.inl ⟨by rfl, ?_⟩) ?_ ?_
               rotate_left
               ·intro w'
                go_simp
                with_reducible rfl
               rotate_left
               ·simp only [pA, pS, pZ, pK, i64_w, i32_w]
                rfl
               refine pure_ (i := 28) (N := some 100) (v := ?_) (a' := ?_) (bs 528482303 35) rfl rfl (any_of HT_.out (by kernel_rfl)) (fun _ _ _ h => h) (Or.inl ⟨by rfl, ?_⟩) ?_ ?_
               rotate_left
               ·intro w'
                go_simp
                with_reducible rfl
               rotate_left
               ·simp only [pA, pS, pZ, pK, i64_w, i32_w]
                rfl
               refine pure_ (i := 30) (N := some 102) (v := ?_) (a' := ?_) (bs 1602224127 35) rfl rfl (any_of HT_.out (by kernel_rfl)) (fun _ _ _ h => h) (Or.inl ⟨by rfl, ?_⟩) ?_ ?_
               rotate_left
               ·intro w'
                go_simp
                with_reducible rfl
               rotate_left
               ·simp only [pA, pS, pZ, pK, i64_w, i32_w]
                rfl
               refine take_ (i := 29) (N := some 101) (v := ?_) (a' := ?_) (bs 2139095039 35) rfl rfl (take_ofW HT_.out HW_.out (by kernel_rfl)) (fun _ _ _ h => h) (Or.inl ⟨by rfl, ?_⟩) hHeld ?_ ?_
               rotate_left
               ·rintro w' ⟨s0, s1, s2⟩
                go_simp
                with_reducible rfl
               rotate_left
               ·simp only [pA, pS, pZ, pK, i64_w, i32_w]
                rfl
               refine pure_ (i := 31) (N := some 103) (v := ?_) (a' := ?_) (bs 4286578687 35) rfl rfl (any_of HT_.out (by kernel_rfl)) (fun _ _ _ h => h) (Or.inl ⟨by rfl, ?_⟩) ?_ ?_
               rotate_left
               ·intro w'
                go_simp
                with_reducible rfl
               rotate_left
               ·simp only [pA, pS, pZ, pK, i64_w, i32_w]
                rfl
               refine one_ (i := 23) (N := some 95) (bs 4294967295 35) rfl rfl (one_of HT_.out (by kernel_rfl)) (by decide) (fun K hK => ?_)
               refine goes_ Try.func20 (by kernel_rfl) rfl #[.slice Ao9 t351.length co9, .int .i64 t352, .int .i64 t353] (by rfl) rfl rfl (by (try simp only [List.map_toArray, List.map_cons, List.map_nil]); first | done | rfl | (simp only [List.length_drop, List.length_take]; rfl)) ?_
               with_reducible refine (impl_WouldDeadlock.calls kj6 _ _ t351 t352 t353 t377 _ ?side1 ?side2 A50.out).mono ?_
               (case side1 => exact Kd.C_below (Kd.R_reads' HO_3.out).2.2 (BL (Below.refl _ _) rfl rfl rfl rfl))
               (case side2 => exact (Kd.R_reads' HO_3.out).2.1)
               rintro e w55 ⟨rfl, hb⟩
               have HS0_ := (hb.cell (World.block_lt_of_cell? _ _ (hHeld.1))).trans (hHeld.1)
               have HS1_ := (hb.cell (World.block_lt_of_cell? _ _ (hHeld.2.1))).trans (hHeld.2.1)
               have HS2_ := (hb.cell (World.block_lt_of_cell? _ _ (hHeld.2.2))).trans (hHeld.2.2)
               refine ⟨_, rfl, ?_⟩
               have n0_ := AM_ (Kd.R_below (by exact RL HO_3.out rfl) hb)
               have n1_ := AM_ (Kd.R_below (by exact RL HO_6.out rfl) hb)
               have n2_ := AM_ (Kd.R_below (by exact RL HO_8.out rfl) hb)
               have n3_ := AM_ (Kd.R_below (by exact RL HO370.out rfl) hb)
               have n4_ := AM_ (Kd.R_below (by exact RL HO373.out rfl) hb)
               have n5_ := AM_ (below_step (by exact BL HB.out rfl rfl rfl rfl) hb)
               clear HO_3
               clear HO_6
               clear HO_8
               clear HO370
               clear HO373
               clear HB
               have HO_3 := n0_
               have HO_6 := n1_
               have HO_8 := n2_
               have HO370 := n3_
               have HO373 := n4_
               have HB := n5_
               clear n0_ n1_ n2_ n3_ n4_ n5_
               (try clear hb)
               (try clear hb2)
               (try clear hk)
               (try clear hi)
               refine hK.out _ _ ⟨HS0_, HS1_, HS2_⟩ (fun hHeld => ?_)
               clear hK K
               refine norm_ (a' := ?_) ?_ ?_
               rotate_left
               ·show Act.put _ (some 95) _ = _
                simp only [pA, pS, pZ, pK, i64_w, i32_w]
                rfl
               refine pure_ (i := 32) (N := some 104) (v := ?_) (a' := ?_) (bs 8589934591 35) rfl rfl (any_of HT_.out (by kernel_rfl)) (fun _ _ _ h => h) (Or.inl ⟨by rfl, ?_⟩) ?_ ?_
               rotate_left
               ·intro w'
                go_simp
                with_reducible rfl
               rotate_left
               ·simp only [pA, pS, pZ, pK, i64_w, i32_w]
                rfl
               refine pure_ (i := 33) (N := some 105) (v := ?_) (a' := ?_) (bs 17179869183 35) rfl rfl (any_of HT_.out (by kernel_rfl)) (fun _ _ _ h => h) (Or.inl ⟨by rfl, ?_⟩) ?_ ?_
               rotate_left
               ·intro w'
                go_simp
                with_reducible rfl
               rotate_left
               ·simp only [pA, pS, pZ, pK, i64_w, i32_w]
                rfl
               refine pure_ (i := 34) (N := some 106) (v := ?_) (a' := ?_) (bs 34359738367 35) rfl rfl (any_of HT_.out (by kernel_rfl)) (fun _ _ _ h => h) (Or.inl ⟨by rfl, ?_⟩) ?_ ?_
               rotate_left
               ·intro w'
                go_simp
                with_reducible rfl
               rotate_left
               ·simp only [pA, pS, pZ, pK, i64_w, i32_w]
                rfl
               refine done_ (done_of HT_.out (by kernel_rfl)) ?_
               try go_wp2
               go_meet
               case rel => exact ⟨_, ((t377 != ((rd t368 (ji51)) == t352))), (by first | rfl | (simp; done) | (simp only [← hji51] <;> (first | rfl | simp)) | (simp [*]; done)), H', ⟨by have := HJ6.out; first | omega | exact Nat.le_refl _⟩, ⟨by (with_reducible repeat (first | apply Kd.R_alloc | apply Kd.R_drewN | apply Kd.R_drew)); exact Kd.R_mono HO_6.out (fun _ hk => hk.2)⟩, ⟨by (with_reducible repeat (first | apply Kd.R_alloc | apply Kd.R_drewN | apply Kd.R_drew)); exact Kd.R_mono HO_8.out (fun _ hk => hk.2)⟩, ⟨by exact BL HB.out rfl rfl rfl rfl⟩⟩
              ·rw [if_neg c53] at H
               exact absurd H (by simp)
             ·rw [if_neg c52] at H
              exact absurd H (by simp)
            ·rw [if_neg c49] at H
             have c49b0 : ((rd t368 1) == t353) = false := beq_eq_false_iff_ne.mpr c49
             have c49b1 : ((rd t368 1) != t353) = true := bne_iff_ne.mpr c49
             have H' := AM_ H
             clear H
             try go_wp2
             (try (rw [drewN_self w40]; generalize hq_ : World.drewN w40 _ = w40; have n0_ : Aside0 (Kd.R (Kd.int .i64) 3 w40 w.heap.size (fun k_ => some k_ ≠ (.slice Ao42 t371.length co42 : Value).ownBlock) (.slice Ao41 t368.length co41) t368) := ⟨by rw [← hq_]; exact (by (with_reducible repeat (first | apply Kd.R_alloc | apply Kd.R_drewN | apply Kd.R_drew)); exact Kd.R_mono HO370.out (fun _ hk => hk.2))⟩; have n1_ : Aside0 (Kd.R (Kd.int .i64) 3 w40 w.heap.size (fun k_ => some k_ ≠ (.slice Ao41 t368.length co41 : Value).ownBlock) (.slice Ao42 t371.length co42) t371) := ⟨by rw [← hq_]; exact (by (with_reducible repeat (first | apply Kd.R_alloc | apply Kd.R_drewN | apply Kd.R_drew)); exact Kd.R_mono HO373.out (fun _ hk => hk.2))⟩; have n2_ : Aside0 (Kd.R k36 36 w40 w.heap.size (fun k_ => some k_ ≠ (.slice Ao37 t356.length co37 : Value).ownBlock ∧ some k_ ≠ (.slice Ao39 t360.length co39 : Value).ownBlock) (.slice Ao9 t351.length co9) t351) := ⟨by rw [← hq_]; exact (by exact RL HO_3.out rfl)⟩; have n3_ : Aside0 (Kd.R k36 36 w40 w.heap.size (fun k_ => some k_ ≠ (.slice Ao9 t351.length co9 : Value).ownBlock ∧ some k_ ≠ (.slice Ao39 t360.length co39 : Value).ownBlock) (.slice Ao37 t356.length co37) t356) := ⟨by rw [← hq_]; exact (by exact RL HO_6.out rfl)⟩; have n4_ : Aside0 (Kd.R k36 36 w40 w.heap.size (fun k_ => some k_ ≠ (.slice Ao9 t351.length co9 : Value).ownBlock ∧ some k_ ≠ (.slice Ao37 t356.length co37 : Value).ownBlock) (.slice Ao39 t360.length co39) t360) := ⟨by rw [← hq_]; exact (by exact RL HO_8.out rfl)⟩; have n5_ : Aside0 (Below w.heap.size w w40) := ⟨by rw [← hq_]; exact (by exact BL HB.out rfl rfl rfl rfl)⟩; clear HO370 HO373 HO_3 HO_6 HO_8 HB hq_; have HO370 := n0_; have HO373 := n1_; have HO_3 := n2_; have HO_6 := n3_; have HO_8 := n4_; have HB := n5_; clear n0_ n1_ n2_ n3_ n4_ n5_))
             have n0_ := AM_ (Kd.R_drew HO_3.out)
             have n1_ := AM_ (Kd.R_drew HO_6.out)
             have n2_ := AM_ (Kd.R_drew HO_8.out)
             have n3_ := AM_ (Kd.R_drew HO370.out)
             have n4_ := AM_ (Kd.R_drew HO373.out)
             have n5_ := AM_ (below_drew1 HB.out)
             clear HO_3
             clear HO_6
             clear HO_8
             clear HO370
             clear HO373
             clear HB
             have HO_3 := n0_
             have HO_6 := n1_
             have HO_8 := n2_
             have HO370 := n3_
             have HO373 := n4_
             have HB := n5_
             clear n0_ n1_ n2_ n3_ n4_ n5_
             have p375 : 0 ≤ (0 : Int) := (by omega)
             have q375 : 0 < (t368.length : Int) := of_decide_eq_true (by first | (with_reducible assumption) | assumption)
             obtain ⟨ad375, e375, hx375_0⟩ := Kd.at_int (Kd.R_reads' HO370.out).2.2 0 p375 q375
             cases e375
             have qi375 : (0 < t368.length) = True := eq_true (by omega)
             (try rw [show ((0 : Int)).toNat = 0 from rfl] at hx375_0)
             (try rw [Addr.add_zero'] at hx375_0)
             replace p375 := eq_true p375
             replace q375 := eq_true q375
             have p376 : 0 ≤ (1 : Int) := (by omega)
             have q376 : 1 < (t368.length : Int) := of_decide_eq_true (by first | (with_reducible assumption) | assumption)
             obtain ⟨ad376, e376, hx376_0⟩ := Kd.at_int (Kd.R_reads' HO370.out).2.2 1 p376 q376
             obtain rfl : ad375 = ad376 := (by injection e376)
             (try simp only [show (1 : Int).toNat = 1 from rfl, Nat.reduceMul, Nat.reduceEqDiff, Go.Addr.add, ↓reduceIte] at hx376_0)
             have qi376 : (1 < t368.length) = True := eq_true (by omega)
             (try rw [show ((1 : Int)).toNat = 1 from rfl] at hx376_0)
             replace p376 := eq_true p376
             replace q376 := eq_true q376
             refine start_ (n := 35) (S := fun w' => w'.cell? ad375 = some (.int .i64 (rd t368 0)) ∧ w'.cell? ⟨ad375.block, ad375.off + 1, none⟩ = some (.int .i64 (rd t368 1))) (ds := []) (bs 0 35) (by kernel_rfl) rfl rfl ⟨hx375_0, hx376_0⟩ (fun hHeld => ?_); refine with_tabW laws_FnWaits.tab11 laws_FnWaits.bits11 (fun HT_ HW_ => ?_)
             generalize w40.drew = w56 at HO_3 HO_6 HO_8 HO370 HO373 HB hx375_0 hx376_0 hHeld ⊢
             refine pure_ (i := 0) (N := some 72) (v := ?_) (a' := ?_) (bs 1 35) rfl rfl (any_of HT_.out (by kernel_rfl)) (fun _ _ _ h => h) (Or.inl ⟨by rfl, ?_⟩) ?_ ?_
             rotate_left
             ·intro w'
              go_simp
              with_reducible rfl
             rotate_left
             ·simp only [pA, pS, pZ, pK, i64_w, i32_w]
              rfl
             refine pure_ (i := 1) (N := some 73) (v := ?_) (a' := ?_) (bs 3 35) rfl rfl (any_of HT_.out (by kernel_rfl)) (fun _ _ _ h => h) (Or.inl ⟨by rfl, ?_⟩) ?_ ?_
             rotate_left
             ·intro w'
              go_simp
              with_reducible rfl
             rotate_left
             ·simp only [pA, pS, pZ, pK, i64_w, i32_w]
              rfl
             refine pure_ (i := 2) (N := some 74) (v := ?_) (a' := ?_) (bs 7 35) rfl rfl (any_of HT_.out (by kernel_rfl)) (fun _ _ _ h => h) (Or.inl ⟨by rfl, ?_⟩) ?_ ?_
             rotate_left
             ·intro w'
              go_simp
              with_reducible rfl
             rotate_left
             ·simp only [pA, pS, pZ, pK, i64_w, i32_w]
              rfl
             refine pure_ (i := 3) (N := some 75) (v := ?_) (a' := ?_) (bs 15 35) rfl rfl (any_of HT_.out (by kernel_rfl)) (fun _ _ _ h => h) (Or.inl ⟨by rfl, ?_⟩) ?_ ?_
             rotate_left
             ·intro w'
              go_simp
              with_reducible rfl
             rotate_left
             ·simp only [pA, pS, pZ, pK, i64_w, i32_w]
              rfl
             refine pure_ (i := 4) (N := some 76) (v := ?_) (a' := ?_) (bs 31 35) rfl rfl (any_of HT_.out (by kernel_rfl)) (fun _ _ _ h => h) (Or.inl ⟨by rfl, ?_⟩) ?_ ?_
             rotate_left
             ·intro w'
              go_simp
              with_reducible rfl
             rotate_left
             ·simp only [pA, pS, pZ, pK, i64_w, i32_w]
              rfl
             refine pure_ (i := 5) (N := some 77) (v := ?_) (a' := ?_) (bs 63 35) rfl rfl (any_of HT_.out (by kernel_rfl)) (fun _ _ _ h => h) (Or.inl ⟨by rfl, ?_⟩) ?_ ?_
             rotate_left
             ·intro w'
              go_simp
              with_reducible rfl
             rotate_left
             ·simp only [pA, pS, pZ, pK, i64_w, i32_w]
              rfl
             refine pure_ (i := 6) (N := some 78) (v := ?_) (a' := ?_) (bs 127 35) rfl rfl (any_of HT_.out (by kernel_rfl)) (fun _ _ _ h => h) (Or.inl ⟨by rfl, ?_⟩) ?_ ?_
             rotate_left
             ·intro w'
              go_simp
              with_reducible rfl
             rotate_left
             ·simp only [pA, pS, pZ, pK, i64_w, i32_w]
              rfl
             refine pure_ (i := 7) (N := some 79) (v := ?_) (a' := ?_) (bs 255 35) rfl rfl (any_of HT_.out (by kernel_rfl)) (fun _ _ _ h => h) (Or.inl ⟨by rfl, ?_⟩) ?_ ?_
             rotate_left
             ·intro w'
              go_simp
              with_reducible rfl
             rotate_left
             ·simp only [pA, pS, pZ, pK, i64_w, i32_w]
              rfl
             refine pure_ (i := 9) (N := some 81) (v := ?_) (a' := ?_) (bs 767 35) rfl rfl (any_of HT_.out (by kernel_rfl)) (fun _ _ _ h => h) (Or.inl ⟨by rfl, ?_⟩) ?_ ?_
             rotate_left
             ·intro w'
              go_simp
              with_reducible rfl
             rotate_left
             ·simp only [pA, pS, pZ, pK, i64_w, i32_w]
              rfl
             refine take_ (i := 8) (N := some 80) (v := ?_) (a' := ?_) (bs 1023 35) rfl rfl (take_ofW HT_.out HW_.out (by kernel_rfl)) (fun _ _ _ h => h) (Or.inl ⟨by rfl, ?_⟩) hHeld ?_ ?_
             rotate_left
             ·rintro w' ⟨s0, s1⟩
              go_simp
              with_reducible rfl
             rotate_left
             ·simp only [pA, pS, pZ, pK, i64_w, i32_w]
              rfl
             refine pure_ (i := 10) (N := some 82) (v := ?_) (a' := ?_) (bs 2047 35) rfl rfl (any_of HT_.out (by kernel_rfl)) (fun _ _ _ h => h) (Or.inl ⟨by rfl, ?_⟩) ?_ ?_
             rotate_left
             ·intro w'
              go_simp
              with_reducible rfl
             rotate_left
             ·simp only [pA, pS, pZ, pK, i64_w, i32_w]
              rfl
             refine pure_ (i := 11) (N := some 83) (v := ?_) (a' := ?_) (bs 4095 35) rfl rfl (any_of HT_.out (by kernel_rfl)) (fun _ _ _ h => h) (Or.inl ⟨by rfl, ?_⟩) ?_ ?_
             rotate_left
             ·intro w'
              go_simp
              with_reducible rfl
             rotate_left
             ·simp only [pA, pS, pZ, pK, i64_w, i32_w]
              rfl
             refine pure_ (i := 12) (N := some 84) (v := ?_) (a' := ?_) (bs 8191 35) rfl rfl (any_of HT_.out (by kernel_rfl)) (fun _ _ _ h => h) (Or.inl ⟨by rfl, ?_⟩) ?_ ?_
             rotate_left
             ·intro w'
              go_simp
              with_reducible rfl
             rotate_left
             ·simp only [pA, pS, pZ, pK, i64_w, i32_w]
              rfl
             refine pure_ (i := 13) (N := some 85) (v := ?_) (a' := ?_) (bs 16383 35) rfl rfl (any_of HT_.out (by kernel_rfl)) (fun _ _ _ h => h) (Or.inl ⟨by rfl, ?_⟩) ?_ ?_
             rotate_left
             ·intro w'
              go_simp
              with_reducible rfl
             rotate_left
             ·simp only [pA, pS, pZ, pK, i64_w, i32_w]
              rfl
             refine pure_ (i := 14) (N := some 86) (v := ?_) (a' := ?_) (bs 32767 35) rfl rfl (any_of HT_.out (by kernel_rfl)) (fun _ _ _ h => h) (Or.inl ⟨by rfl, ?_⟩) ?_ ?_
             rotate_left
             ·intro w'
              go_simp
              with_reducible rfl
             rotate_left
             ·simp only [pA, pS, pZ, pK, i64_w, i32_w]
              rfl
             refine pure_ (i := 16) (N := some 88) (v := ?_) (a' := ?_) (bs 98303 35) rfl rfl (any_of HT_.out (by kernel_rfl)) (fun _ _ _ h => h) (Or.inl ⟨by rfl, ?_⟩) ?_ ?_
             rotate_left
             ·intro w'
              go_simp
              with_reducible rfl
             rotate_left
             ·simp only [pA, pS, pZ, pK, i64_w, i32_w]
              rfl
             refine take_ (i := 15) (N := some 87) (v := ?_) (a' := ?_) (bs 131071 35) rfl rfl (take_ofW HT_.out HW_.out (by kernel_rfl)) (fun _ _ _ h => h) (Or.inl ⟨by rfl, ?_⟩) hHeld ?_ ?_
             rotate_left
             ·rintro w' ⟨s0, s1⟩
              go_simp
              with_reducible rfl
             rotate_left
             ·simp only [pA, pS, pZ, pK, i64_w, i32_w]
              rfl
             refine pure_ (i := 17) (N := some 89) (v := ?_) (a' := ?_) (bs 262143 35) rfl rfl (any_of HT_.out (by kernel_rfl)) (fun _ _ _ h => h) (Or.inl ⟨by rfl, ?_⟩) ?_ ?_
             rotate_left
             ·intro w'
              go_simp
              with_reducible rfl
             rotate_left
             ·simp only [pA, pS, pZ, pK, i64_w, i32_w]
              rfl
             refine pure_ (i := 18) (N := some 90) (v := ?_) (a' := ?_) (bs 524287 35) rfl rfl (any_of HT_.out (by kernel_rfl)) (fun _ _ _ h => h) (Or.inl ⟨by rfl, ?_⟩) ?_ ?_
             rotate_left
             ·intro w'
              go_simp
              with_reducible rfl
             rotate_left
             ·simp only [pA, pS, pZ, pK, i64_w, i32_w]
              rfl
             refine pure_ (i := 19) (N := some 91) (v := ?_) (a' := ?_) (bs 1048575 35) rfl rfl (any_of HT_.out (by kernel_rfl)) (fun _ _ _ h => h) (Or.inl ⟨by rfl, ?_⟩) ?_ ?_
             rotate_left
             ·intro w'
              go_simp
              with_reducible rfl
             rotate_left
             ·simp only [pA, pS, pZ, pK, i64_w, i32_w]
              rfl
             refine pure_ (i := 20) (N := some 92) (v := undef) (a' := ?_) (bs 2097151 35) rfl rfl (any_of HT_.out (by kernel_rfl)) (fun _ _ _ h => h) (Or.inr ⟨by rfl, rfl⟩) ?_ ?_
             rotate_left
             ·simp only [pA, pS, pZ, pK, i64_w, i32_w]
              rfl
             refine pure_ (i := 21) (N := some 93) (v := undef) (a' := ?_) (bs 4194303 35) rfl rfl (any_of HT_.out (by kernel_rfl)) (fun _ _ _ h => h) (Or.inr ⟨by rfl, rfl⟩) ?_ ?_
             rotate_left
             ·simp only [pA, pS, pZ, pK, i64_w, i32_w]
              rfl
             refine pure_ (i := 22) (N := some 94) (v := undef) (a' := ?_) (bs 8388607 35) rfl rfl (any_of HT_.out (by kernel_rfl)) (fun _ _ _ h => h) (Or.inr ⟨by rfl, rfl⟩) ?_ ?_
             rotate_left
             ·simp only [pA, pS, pZ, pK, i64_w, i32_w]
              rfl
             refine pure_ (i := 23) (N := some 95) (v := undef) (a' := ?_) (bs 16777215 35) rfl rfl (any_of HT_.out (by kernel_rfl)) (fun _ _ _ h => h) (Or.inr ⟨by rfl, rfl⟩) ?_ ?_
             rotate_left
             ·simp only [pA, pS, pZ, pK, i64_w, i32_w]
              rfl
             refine pure_ (i := 24) (N := some 96) (v := undef) (a' := ?_) (bs 33554431 35) rfl rfl (any_of HT_.out (by kernel_rfl)) (fun _ _ _ h => h) (Or.inr ⟨by rfl, rfl⟩) ?_ ?_
             rotate_left
             ·simp only [pA, pS, pZ, pK, i64_w, i32_w]
              rfl
             refine pure_ (i := 25) (N := some 97) (v := undef) (a' := ?_) (bs 67108863 35) rfl rfl (any_of HT_.out (by kernel_rfl)) (fun _ _ _ h => h) (Or.inr ⟨by rfl, rfl⟩) ?_ ?_
             rotate_left
             ·simp only [pA, pS, pZ, pK, i64_w, i32_w]
              rfl
             refine pure_ (i := 26) (N := some 98) (v := undef) (a' := ?_) (bs 134217727 35) rfl rfl (any_of HT_.out (by kernel_rfl)) (fun _ _ _ h => h) (Or.inr ⟨by rfl, rfl⟩) ?_ ?_
             rotate_left
             ·simp only [pA, pS, pZ, pK, i64_w, i32_w]
              rfl
             refine pure_ (i := 27) (N := some 99) (v := undef) (a' := ?_) (bs 268435455 35) rfl rfl (any_of HT_.out (by kernel_rfl)) (fun _ _ _ h => h) (Or.inr ⟨by rfl, rfl⟩) ?_ ?_
             rotate_left
             ·simp only [pA, pS, pZ, pK, i64_w, i32_w]
              rfl
             refine pure_ (i := 28) (N := some 100) (v := undef) (a' := ?_) (bs 536870911 35) rfl rfl (any_of HT_.out (by kernel_rfl)) (fun _ _ _ h => h) (Or.inr ⟨by rfl, rfl⟩) ?_ ?_
             rotate_left
             ·simp only [pA, pS, pZ, pK, i64_w, i32_w]
              rfl
             refine pure_ (i := 29) (N := some 101) (v := undef) (a' := ?_) (bs 1073741823 35) rfl rfl (any_of HT_.out (by kernel_rfl)) (fun _ _ _ h => h) (Or.inr ⟨by rfl, rfl⟩) ?_ ?_
             rotate_left
             ·simp only [pA, pS, pZ, pK, i64_w, i32_w]
              rfl
             refine pure_ (i := 30) (N := some 102) (v := undef) (a' := ?_) (bs 2147483647 35) rfl rfl (any_of HT_.out (by kernel_rfl)) (fun _ _ _ h => h) (Or.inr ⟨by rfl, rfl⟩) ?_ ?_
             rotate_left
             ·simp only [pA, pS, pZ, pK, i64_w, i32_w]
              rfl
             refine pure_ (i := 31) (N := some 103) (v := undef) (a' := ?_) (bs 4294967295 35) rfl rfl (any_of HT_.out (by kernel_rfl)) (fun _ _ _ h => h) (Or.inr ⟨by rfl, rfl⟩) ?_ ?_
             rotate_left
             ·simp only [pA, pS, pZ, pK, i64_w, i32_w]
              rfl
             refine pure_ (i := 32) (N := some 104) (v := undef) (a' := ?_) (bs 8589934591 35) rfl rfl (any_of HT_.out (by kernel_rfl)) (fun _ _ _ h => h) (Or.inr ⟨by rfl, rfl⟩) ?_ ?_
             rotate_left
             ·simp only [pA, pS, pZ, pK, i64_w, i32_w]
              rfl
             refine pure_ (i := 33) (N := some 105) (v := ?_) (a' := ?_) (bs 17179869183 35) rfl rfl (any_of HT_.out (by kernel_rfl)) (fun _ _ _ h => h) (Or.inl ⟨by rfl, ?_⟩) ?_ ?_
             rotate_left
             ·intro w'
              go_simp
              with_reducible rfl
             rotate_left
             ·simp only [pA, pS, pZ, pK, i64_w, i32_w]
              rfl
             refine pure_ (i := 34) (N := some 106) (v := ?_) (a' := ?_) (bs 34359738367 35) rfl rfl (any_of HT_.out (by kernel_rfl)) (fun _ _ _ h => h) (Or.inl ⟨by rfl, ?_⟩) ?_ ?_
             rotate_left
             ·intro w'
              go_simp
              with_reducible rfl
             rotate_left
             ·simp only [pA, pS, pZ, pK, i64_w, i32_w]
              rfl
             refine done_ (done_of HT_.out (by kernel_rfl)) ?_
             try go_wp2
             go_meet
             case rel => exact ⟨_, (true), (by first | rfl | (simp; done) | (simp [*]; done)), H', ⟨by have := HJ6.out; first | omega | exact Nat.le_refl _⟩, ⟨by (with_reducible repeat (first | apply Kd.R_alloc | apply Kd.R_drewN | apply Kd.R_drew)); exact Kd.R_mono HO_6.out (fun _ hk => hk.2)⟩, ⟨by (with_reducible repeat (first | apply Kd.R_alloc | apply Kd.R_drewN | apply Kd.R_drew)); exact Kd.R_mono HO_8.out (fun _ hk => hk.2)⟩, ⟨by exact BL HB.out rfl rfl rfl rfl⟩⟩
           ·rw [if_neg c48] at H
            exact absurd H (by simp)
          ·rw [if_neg c47] at H
           have c47b0 : ((rd t368 0) == t352) = false := beq_eq_false_iff_ne.mpr c47
           have c47b1 : ((rd t368 0) != t352) = true := bne_iff_ne.mpr c47
           have H' := AM_ H
           clear H
           try go_wp2
           (try (rw [drewN_self w40]; generalize hq_ : World.drewN w40 _ = w40; have n0_ : Aside0 (Kd.R (Kd.int .i64) 3 w40 w.heap.size (fun k_ => some k_ ≠ (.slice Ao42 t371.length co42 : Value).ownBlock) (.slice Ao41 t368.length co41) t368) := ⟨by rw [← hq_]; exact (by (with_reducible repeat (first | apply Kd.R_alloc | apply Kd.R_drewN | apply Kd.R_drew)); exact Kd.R_mono HO370.out (fun _ hk => hk.2))⟩; have n1_ : Aside0 (Kd.R (Kd.int .i64) 3 w40 w.heap.size (fun k_ => some k_ ≠ (.slice Ao41 t368.length co41 : Value).ownBlock) (.slice Ao42 t371.length co42) t371) := ⟨by rw [← hq_]; exact (by (with_reducible repeat (first | apply Kd.R_alloc | apply Kd.R_drewN | apply Kd.R_drew)); exact Kd.R_mono HO373.out (fun _ hk => hk.2))⟩; have n2_ : Aside0 (Kd.R k36 36 w40 w.heap.size (fun k_ => some k_ ≠ (.slice Ao37 t356.length co37 : Value).ownBlock ∧ some k_ ≠ (.slice Ao39 t360.length co39 : Value).ownBlock) (.slice Ao9 t351.length co9) t351) := ⟨by rw [← hq_]; exact (by exact RL HO_3.out rfl)⟩; have n3_ : Aside0 (Kd.R k36 36 w40 w.heap.size (fun k_ => some k_ ≠ (.slice Ao9 t351.length co9 : Value).ownBlock ∧ some k_ ≠ (.slice Ao39 t360.length co39 : Value).ownBlock) (.slice Ao37 t356.length co37) t356) := ⟨by rw [← hq_]; exact (by exact RL HO_6.out rfl)⟩; have n4_ : Aside0 (Kd.R k36 36 w40 w.heap.size (fun k_ => some k_ ≠ (.slice Ao9 t351.length co9 : Value).ownBlock ∧ some k_ ≠ (.slice Ao37 t356.length co37 : Value).ownBlock) (.slice Ao39 t360.length co39) t360) := ⟨by rw [← hq_]; exact (by exact RL HO_8.out rfl)⟩; have n5_ : Aside0 (Below w.heap.size w w40) := ⟨by rw [← hq_]; exact (by exact BL HB.out rfl rfl rfl rfl)⟩; clear HO370 HO373 HO_3 HO_6 HO_8 HB hq_; have HO370 := n0_; have HO373 := n1_; have HO_3 := n2_; have HO_6 := n3_; have HO_8 := n4_; have HB := n5_; clear n0_ n1_ n2_ n3_ n4_ n5_))
           have n0_ := AM_ (Kd.R_drew HO_3.out)
           have n1_ := AM_ (Kd.R_drew HO_6.out)
           have n2_ := AM_ (Kd.R_drew HO_8.out)
           have n3_ := AM_ (Kd.R_drew HO370.out)
           have n4_ := AM_ (Kd.R_drew HO373.out)
           have n5_ := AM_ (below_drew1 HB.out)
           clear HO_3
           clear HO_6
           clear HO_8
           clear HO370
           clear HO373
           clear HB
           have HO_3 := n0_
           have HO_6 := n1_
           have HO_8 := n2_
           have HO370 := n3_
           have HO373 := n4_
           have HB := n5_
           clear n0_ n1_ n2_ n3_ n4_ n5_
           have p375 : 0 ≤ (0 : Int) := (by omega)
           have q375 : 0 < (t368.length : Int) := of_decide_eq_true (by first | (with_reducible assumption) | assumption)
           obtain ⟨ad375, e375, hx375_0⟩ := Kd.at_int (Kd.R_reads' HO370.out).2.2 0 p375 q375
           cases e375
           have qi375 : (0 < t368.length) = True := eq_true (by omega)
           (try rw [show ((0 : Int)).toNat = 0 from rfl] at hx375_0)
           (try rw [Addr.add_zero'] at hx375_0)
           replace p375 := eq_true p375
           replace q375 := eq_true q375
           refine start_ (n := 35) (S := fun w' => w'.cell? ad375 = some (.int .i64 (rd t368 0))) (ds := []) (bs 0 35) (by kernel_rfl) rfl rfl (hx375_0) (fun hHeld => ?_); refine with_tabW laws_FnWaits.tab11 laws_FnWaits.bits11 (fun HT_ HW_ => ?_)
           generalize w40.drew = w57 at HO_3 HO_6 HO_8 HO370 HO373 HB hx375_0 hHeld ⊢
           refine pure_ (i := 0) (N := some 72) (v := ?_) (a' := ?_) (bs 1 35) rfl rfl (any_of HT_.out (by kernel_rfl)) (fun _ _ _ h => h) (Or.inl ⟨by rfl, ?_⟩) ?_ ?_
           rotate_left
           ·intro w'
            go_simp
            with_reducible rfl
           rotate_left
           ·simp only [pA, pS, pZ, pK, i64_w, i32_w]
            rfl
           refine pure_ (i := 1) (N := some 73) (v := ?_) (a' := ?_) (bs 3 35) rfl rfl (any_of HT_.out (by kernel_rfl)) (fun _ _ _ h => h) (Or.inl ⟨by rfl, ?_⟩) ?_ ?_
           rotate_left
           ·intro w'
            go_simp
            with_reducible rfl
           rotate_left
           ·simp only [pA, pS, pZ, pK, i64_w, i32_w]
            rfl
           refine pure_ (i := 2) (N := some 74) (v := ?_) (a' := ?_) (bs 7 35) rfl rfl (any_of HT_.out (by kernel_rfl)) (fun _ _ _ h => h) (Or.inl ⟨by rfl, ?_⟩) ?_ ?_
           rotate_left
           ·intro w'
            go_simp
            with_reducible rfl
           rotate_left
           ·simp only [pA, pS, pZ, pK, i64_w, i32_w]
            rfl
           refine pure_ (i := 3) (N := some 75) (v := ?_) (a' := ?_) (bs 15 35) rfl rfl (any_of HT_.out (by kernel_rfl)) (fun _ _ _ h => h) (Or.inl ⟨by rfl, ?_⟩) ?_ ?_
           rotate_left
           ·intro w'
            go_simp
            with_reducible rfl
           rotate_left
           ·simp only [pA, pS, pZ, pK, i64_w, i32_w]
            rfl
           refine pure_ (i := 4) (N := some 76) (v := ?_) (a' := ?_) (bs 31 35) rfl rfl (any_of HT_.out (by kernel_rfl)) (fun _ _ _ h => h) (Or.inl ⟨by rfl, ?_⟩) ?_ ?_
           rotate_left
           ·intro w'
            go_simp
            with_reducible rfl
           rotate_left
           ·simp only [pA, pS, pZ, pK, i64_w, i32_w]
            rfl
           refine pure_ (i := 5) (N := some 77) (v := ?_) (a' := ?_) (bs 63 35) rfl rfl (any_of HT_.out (by kernel_rfl)) (fun _ _ _ h => h) (Or.inl ⟨by rfl, ?_⟩) ?_ ?_
           rotate_left
           ·intro w'
            go_simp
            with_reducible rfl
           rotate_left
           ·simp only [pA, pS, pZ, pK, i64_w, i32_w]
            rfl
           refine pure_ (i := 6) (N := some 78) (v := ?_) (a' := ?_) (bs 127 35) rfl rfl (any_of HT_.out (by kernel_rfl)) (fun _ _ _ h => h) (Or.inl ⟨by rfl, ?_⟩) ?_ ?_
           rotate_left
           ·intro w'
            go_simp
            with_reducible rfl
           rotate_left
           ·simp only [pA, pS, pZ, pK, i64_w, i32_w]
            rfl
           refine pure_ (i := 7) (N := some 79) (v := ?_) (a' := ?_) (bs 255 35) rfl rfl (any_of HT_.out (by kernel_rfl)) (fun _ _ _ h => h) (Or.inl ⟨by rfl, ?_⟩) ?_ ?_
           rotate_left
           ·intro w'
            go_simp
            with_reducible rfl
           rotate_left
           ·simp only [pA, pS, pZ, pK, i64_w, i32_w]
            rfl
           refine pure_ (i := 9) (N := some 81) (v := ?_) (a' := ?_) (bs 767 35) rfl rfl (any_of HT_.out (by kernel_rfl)) (fun _ _ _ h => h) (Or.inl ⟨by rfl, ?_⟩) ?_ ?_
           rotate_left
           ·intro w'
            go_simp
            with_reducible rfl
           rotate_left
           ·simp only [pA, pS, pZ, pK, i64_w, i32_w]
            rfl
           refine take_ (i := 8) (N := some 80) (v := ?_) (a' := ?_) (bs 1023 35) rfl rfl (take_ofW HT_.out HW_.out (by kernel_rfl)) (fun _ _ _ h => h) (Or.inl ⟨by rfl, ?_⟩) hHeld ?_ ?_
           rotate_left
           ·intro w' s0
            go_simp
            with_reducible rfl
           rotate_left
           ·simp only [pA, pS, pZ, pK, i64_w, i32_w]
            rfl
           refine pure_ (i := 10) (N := some 82) (v := ?_) (a' := ?_) (bs 2047 35) rfl rfl (any_of HT_.out (by kernel_rfl)) (fun _ _ _ h => h) (Or.inl ⟨by rfl, ?_⟩) ?_ ?_
           rotate_left
           ·intro w'
            go_simp
            with_reducible rfl
           rotate_left
           ·simp only [pA, pS, pZ, pK, i64_w, i32_w]
            rfl
           refine pure_ (i := 11) (N := some 83) (v := ?_) (a' := ?_) (bs 4095 35) rfl rfl (any_of HT_.out (by kernel_rfl)) (fun _ _ _ h => h) (Or.inl ⟨by rfl, ?_⟩) ?_ ?_
           rotate_left
           ·intro w'
            go_simp
            with_reducible rfl
           rotate_left
           ·simp only [pA, pS, pZ, pK, i64_w, i32_w]
            rfl
           refine pure_ (i := 12) (N := some 84) (v := ?_) (a' := ?_) (bs 8191 35) rfl rfl (any_of HT_.out (by kernel_rfl)) (fun _ _ _ h => h) (Or.inl ⟨by rfl, ?_⟩) ?_ ?_
           rotate_left
           ·intro w'
            go_simp
            with_reducible rfl
           rotate_left
           ·simp only [pA, pS, pZ, pK, i64_w, i32_w]
            rfl
           refine pure_ (i := 13) (N := some 85) (v := undef) (a' := ?_) (bs 16383 35) rfl rfl (any_of HT_.out (by kernel_rfl)) (fun _ _ _ h => h) (Or.inr ⟨by rfl, rfl⟩) ?_ ?_
           rotate_left
           ·simp only [pA, pS, pZ, pK, i64_w, i32_w]
            rfl
           refine pure_ (i := 14) (N := some 86) (v := undef) (a' := ?_) (bs 32767 35) rfl rfl (any_of HT_.out (by kernel_rfl)) (fun _ _ _ h => h) (Or.inr ⟨by rfl, rfl⟩) ?_ ?_
           rotate_left
           ·simp only [pA, pS, pZ, pK, i64_w, i32_w]
            rfl
           refine pure_ (i := 15) (N := some 87) (v := undef) (a' := ?_) (bs 65535 35) rfl rfl (any_of HT_.out (by kernel_rfl)) (fun _ _ _ h => h) (Or.inr ⟨by rfl, rfl⟩) ?_ ?_
           rotate_left
           ·simp only [pA, pS, pZ, pK, i64_w, i32_w]
            rfl
           refine pure_ (i := 16) (N := some 88) (v := undef) (a' := ?_) (bs 131071 35) rfl rfl (any_of HT_.out (by kernel_rfl)) (fun _ _ _ h => h) (Or.inr ⟨by rfl, rfl⟩) ?_ ?_
           rotate_left
           ·simp only [pA, pS, pZ, pK, i64_w, i32_w]
            rfl
           refine pure_ (i := 17) (N := some 89) (v := undef) (a' := ?_) (bs 262143 35) rfl rfl (any_of HT_.out (by kernel_rfl)) (fun _ _ _ h => h) (Or.inr ⟨by rfl, rfl⟩) ?_ ?_
           rotate_left
           ·simp only [pA, pS, pZ, pK, i64_w, i32_w]
            rfl
           refine pure_ (i := 18) (N := some 90) (v := ?_) (a' := ?_) (bs 524287 35) rfl rfl (any_of HT_.out (by kernel_rfl)) (fun _ _ _ h => h) (Or.inl ⟨by rfl, ?_⟩) ?_ ?_
           rotate_left
           ·intro w'
            go_simp
            with_reducible rfl
           rotate_left
           ·simp only [pA, pS, pZ, pK, i64_w, i32_w]
            rfl
           refine pure_ (i := 19) (N := some 91) (v := ?_) (a' := ?_) (bs 1048575 35) rfl rfl (any_of HT_.out (by kernel_rfl)) (fun _ _ _ h => h) (Or.inl ⟨by rfl, ?_⟩) ?_ ?_
           rotate_left
           ·intro w'
            go_simp
            with_reducible rfl
           rotate_left
           ·simp only [pA, pS, pZ, pK, i64_w, i32_w]
            rfl
           refine pure_ (i := 20) (N := some 92) (v := undef) (a' := ?_) (bs 2097151 35) rfl rfl (any_of HT_.out (by kernel_rfl)) (fun _ _ _ h => h) (Or.inr ⟨by rfl, rfl⟩) ?_ ?_
           rotate_left
           ·simp only [pA, pS, pZ, pK, i64_w, i32_w]
            rfl
           refine pure_ (i := 21) (N := some 93) (v := undef) (a' := ?_) (bs 4194303 35) rfl rfl (any_of HT_.out (by kernel_rfl)) (fun _ _ _ h => h) (Or.inr ⟨by rfl, rfl⟩) ?_ ?_
           rotate_left
           ·simp only [pA, pS, pZ, pK, i64_w, i32_w]
            rfl
           refine pure_ (i := 22) (N := some 94) (v := undef) (a' := ?_) (bs 8388607 35) rfl rfl (any_of HT_.out (by kernel_rfl)) (fun _ _ _ h => h) (Or.inr ⟨by rfl, rfl⟩) ?_ ?_
           rotate_left
           ·simp only [pA, pS, pZ, pK, i64_w, i32_w]
            rfl
           refine pure_ (i := 23) (N := some 95) (v := undef) (a' := ?_) (bs 16777215 35) rfl rfl (any_of HT_.out (by kernel_rfl)) (fun _ _ _ h => h) (Or.inr ⟨by rfl, rfl⟩) ?_ ?_
           rotate_left
           ·simp only [pA, pS, pZ, pK, i64_w, i32_w]
            rfl
           refine pure_ (i := 24) (N := some 96) (v := undef) (a' := ?_) (bs 33554431 35) rfl rfl (any_of HT_.out (by kernel_rfl)) (fun _ _ _ h => h) (Or.inr ⟨by rfl, rfl⟩) ?_ ?_
           rotate_left
           ·simp only [pA, pS, pZ, pK, i64_w, i32_w]
            rfl
           refine pure_ (i := 25) (N := some 97) (v := undef) (a' := ?_) (bs 67108863 35) rfl rfl (any_of HT_.out (by kernel_rfl)) (fun _ _ _ h => h) (Or.inr ⟨by rfl, rfl⟩) ?_ ?_
           rotate_left
           ·simp only [pA, pS, pZ, pK, i64_w, i32_w]
            rfl
           refine pure_ (i := 26) (N := some 98) (v := undef) (a' := ?_) (bs 134217727 35) rfl rfl (any_of HT_.out (by kernel_rfl)) (fun _ _ _ h => h) (Or.inr ⟨by rfl, rfl⟩) ?_ ?_
           rotate_left
           ·simp only [pA, pS, pZ, pK, i64_w, i32_w]
            rfl
           refine pure_ (i := 27) (N := some 99) (v := undef) (a' := ?_) (bs 268435455 35) rfl rfl (any_of HT_.out (by kernel_rfl)) (fun _ _ _ h => h) (Or.inr ⟨by rfl, rfl⟩) ?_ ?_
           rotate_left
           ·simp only [pA, pS, pZ, pK, i64_w, i32_w]
            rfl
           refine pure_ (i := 28) (N := some 100) (v := undef) (a' := ?_) (bs 536870911 35) rfl rfl (any_of HT_.out (by kernel_rfl)) (fun _ _ _ h => h) (Or.inr ⟨by rfl, rfl⟩) ?_ ?_
           rotate_left
           ·simp only [pA, pS, pZ, pK, i64_w, i32_w]
            rfl
           refine pure_ (i := 29) (N := some 101) (v := undef) (a' := ?_) (bs 1073741823 35) rfl rfl (any_of HT_.out (by kernel_rfl)) (fun _ _ _ h => h) (Or.inr ⟨by rfl, rfl⟩) ?_ ?_
           rotate_left
           ·simp only [pA, pS, pZ, pK, i64_w, i32_w]
            rfl
           refine pure_ (i := 30) (N := some 102) (v := undef) (a' := ?_) (bs 2147483647 35) rfl rfl (any_of HT_.out (by kernel_rfl)) (fun _ _ _ h => h) (Or.inr ⟨by rfl, rfl⟩) ?_ ?_
           rotate_left
           ·simp only [pA, pS, pZ, pK, i64_w, i32_w]
            rfl
           refine pure_ (i := 31) (N := some 103) (v := undef) (a' := ?_) (bs 4294967295 35) rfl rfl (any_of HT_.out (by kernel_rfl)) (fun _ _ _ h => h) (Or.inr ⟨by rfl, rfl⟩) ?_ ?_
           rotate_left
           ·simp only [pA, pS, pZ, pK, i64_w, i32_w]
            rfl
           refine pure_ (i := 32) (N := some 104) (v := undef) (a' := ?_) (bs 8589934591 35) rfl rfl (any_of HT_.out (by kernel_rfl)) (fun _ _ _ h => h) (Or.inr ⟨by rfl, rfl⟩) ?_ ?_
           rotate_left
           ·simp only [pA, pS, pZ, pK, i64_w, i32_w]
            rfl
           refine pure_ (i := 33) (N := some 105) (v := ?_) (a' := ?_) (bs 17179869183 35) rfl rfl (any_of HT_.out (by kernel_rfl)) (fun _ _ _ h => h) (Or.inl ⟨by rfl, ?_⟩) ?_ ?_
           rotate_left
           ·intro w'
            go_simp
            with_reducible rfl
           rotate_left
           ·simp only [pA, pS, pZ, pK, i64_w, i32_w]
            rfl
           refine pure_ (i := 34) (N := some 106) (v := ?_) (a' := ?_) (bs 34359738367 35) rfl rfl (any_of HT_.out (by kernel_rfl)) (fun _ _ _ h => h) (Or.inl ⟨by rfl, ?_⟩) ?_ ?_
           rotate_left
           ·intro w'
            go_simp
            with_reducible rfl
           rotate_left
           ·simp only [pA, pS, pZ, pK, i64_w, i32_w]
            rfl
           refine done_ (done_of HT_.out (by kernel_rfl)) ?_
           try go_wp2
           go_meet
           case rel => exact ⟨_, (true), (by first | rfl | (simp; done) | (simp [*]; done)), H', ⟨by have := HJ6.out; first | omega | exact Nat.le_refl _⟩, ⟨by (with_reducible repeat (first | apply Kd.R_alloc | apply Kd.R_drewN | apply Kd.R_drew)); exact Kd.R_mono HO_6.out (fun _ hk => hk.2)⟩, ⟨by (with_reducible repeat (first | apply Kd.R_alloc | apply Kd.R_drewN | apply Kd.R_drew)); exact Kd.R_mono HO_8.out (fun _ hk => hk.2)⟩, ⟨by exact BL HB.out rfl rfl rfl rfl⟩⟩
         ·rw [if_neg c46] at H
          exact absurd H (by simp)
       ·replace c43 := Bool.eq_false_iff.mpr c43
        subst c43
        have H1 : (laws_FnWaits.j1 kj6 t352 t356 t360 false) = some r := by rw [if_neg (show ¬ (false = true) by decide)] at H; exact H
        clear H
        have H := H1
        clear H1
        have H' := AM_ H
        clear H
        try go_wp2
        (try (rw [drewN_self w40]; generalize hq_ : World.drewN w40 _ = w40; have n0_ : Aside0 (Kd.R (Kd.int .i64) 3 w40 w.heap.size (fun k_ => some k_ ≠ (.slice Ao42 t371.length co42 : Value).ownBlock) (.slice Ao41 t368.length co41) t368) := ⟨by rw [← hq_]; exact (by (with_reducible repeat (first | apply Kd.R_alloc | apply Kd.R_drewN | apply Kd.R_drew)); exact Kd.R_mono HO370.out (fun _ hk => hk.2))⟩; have n1_ : Aside0 (Kd.R (Kd.int .i64) 3 w40 w.heap.size (fun k_ => some k_ ≠ (.slice Ao41 t368.length co41 : Value).ownBlock) (.slice Ao42 t371.length co42) t371) := ⟨by rw [← hq_]; exact (by (with_reducible repeat (first | apply Kd.R_alloc | apply Kd.R_drewN | apply Kd.R_drew)); exact Kd.R_mono HO373.out (fun _ hk => hk.2))⟩; have n2_ : Aside0 (Kd.R k36 36 w40 w.heap.size (fun k_ => some k_ ≠ (.slice Ao37 t356.length co37 : Value).ownBlock ∧ some k_ ≠ (.slice Ao39 t360.length co39 : Value).ownBlock) (.slice Ao9 t351.length co9) t351) := ⟨by rw [← hq_]; exact (by exact RL HO_3.out rfl)⟩; have n3_ : Aside0 (Kd.R k36 36 w40 w.heap.size (fun k_ => some k_ ≠ (.slice Ao9 t351.length co9 : Value).ownBlock ∧ some k_ ≠ (.slice Ao39 t360.length co39 : Value).ownBlock) (.slice Ao37 t356.length co37) t356) := ⟨by rw [← hq_]; exact (by exact RL HO_6.out rfl)⟩; have n4_ : Aside0 (Kd.R k36 36 w40 w.heap.size (fun k_ => some k_ ≠ (.slice Ao9 t351.length co9 : Value).ownBlock ∧ some k_ ≠ (.slice Ao37 t356.length co37 : Value).ownBlock) (.slice Ao39 t360.length co39) t360) := ⟨by rw [← hq_]; exact (by exact RL HO_8.out rfl)⟩; have n5_ : Aside0 (Below w.heap.size w w40) := ⟨by rw [← hq_]; exact (by exact BL HB.out rfl rfl rfl rfl)⟩; clear HO370 HO373 HO_3 HO_6 HO_8 HB hq_; have HO370 := n0_; have HO373 := n1_; have HO_3 := n2_; have HO_6 := n3_; have HO_8 := n4_; have HB := n5_; clear n0_ n1_ n2_ n3_ n4_ n5_))
        have n0_ := AM_ (Kd.R_drew HO_3.out)
        have n1_ := AM_ (Kd.R_drew HO_6.out)
        have n2_ := AM_ (Kd.R_drew HO_8.out)
        have n3_ := AM_ (Kd.R_drew HO370.out)
        have n4_ := AM_ (Kd.R_drew HO373.out)
        have n5_ := AM_ (below_drew1 HB.out)
        clear HO_3
        clear HO_6
        clear HO_8
        clear HO370
        clear HO373
        clear HB
        have HO_3 := n0_
        have HO_6 := n1_
        have HO_8 := n2_
        have HO370 := n3_
        have HO373 := n4_
        have HB := n5_
        clear n0_ n1_ n2_ n3_ n4_ n5_
        refine start_ (n := 35) (S := fun w' => True) (ds := []) (bs 0 35) (by kernel_rfl) rfl rfl trivial (fun hHeld => ?_); refine with_tabW laws_FnWaits.tab11 laws_FnWaits.bits11 (fun HT_ HW_ => ?_)
        generalize w40.drew = w58 at HO_3 HO_6 HO_8 HO370 HO373 HB hHeld ⊢
        refine pure_ (i := 0) (N := some 72) (v := ?_) (a' := ?_) (bs 1 35) rfl rfl (any_of HT_.out (by kernel_rfl)) (fun _ _ _ h => h) (Or.inl ⟨by rfl, ?_⟩) ?_ ?_
        rotate_left
        ·intro w'
         go_simp
         with_reducible rfl
        rotate_left
        ·simp only [pA, pS, pZ, pK, i64_w, i32_w]
         rfl
        refine pure_ (i := 1) (N := some 73) (v := ?_) (a' := ?_) (bs 3 35) rfl rfl (any_of HT_.out (by kernel_rfl)) (fun _ _ _ h => h) (Or.inl ⟨by rfl, ?_⟩) ?_ ?_
        rotate_left
        ·intro w'
         go_simp
         with_reducible rfl
        rotate_left
        ·simp only [pA, pS, pZ, pK, i64_w, i32_w]
         rfl
        refine pure_ (i := 2) (N := some 74) (v := undef) (a' := ?_) (bs 7 35) rfl rfl (any_of HT_.out (by kernel_rfl)) (fun _ _ _ h => h) (Or.inr ⟨by rfl, rfl⟩) ?_ ?_
        rotate_left
        ·simp only [pA, pS, pZ, pK, i64_w, i32_w]
         rfl
        refine pure_ (i := 3) (N := some 75) (v := undef) (a' := ?_) (bs 15 35) rfl rfl (any_of HT_.out (by kernel_rfl)) (fun _ _ _ h => h) (Or.inr ⟨by rfl, rfl⟩) ?_ ?_
        rotate_left
        ·simp only [pA, pS, pZ, pK, i64_w, i32_w]
         rfl
        refine pure_ (i := 4) (N := some 76) (v := undef) (a' := ?_) (bs 31 35) rfl rfl (any_of HT_.out (by kernel_rfl)) (fun _ _ _ h => h) (Or.inr ⟨by rfl, rfl⟩) ?_ ?_
        rotate_left
        ·simp only [pA, pS, pZ, pK, i64_w, i32_w]
         rfl
        refine pure_ (i := 5) (N := some 77) (v := undef) (a' := ?_) (bs 63 35) rfl rfl (any_of HT_.out (by kernel_rfl)) (fun _ _ _ h => h) (Or.inr ⟨by rfl, rfl⟩) ?_ ?_
        rotate_left
        ·simp only [pA, pS, pZ, pK, i64_w, i32_w]
         rfl
        refine pure_ (i := 6) (N := some 78) (v := undef) (a' := ?_) (bs 127 35) rfl rfl (any_of HT_.out (by kernel_rfl)) (fun _ _ _ h => h) (Or.inr ⟨by rfl, rfl⟩) ?_ ?_
        rotate_left
        ·simp only [pA, pS, pZ, pK, i64_w, i32_w]
         rfl
        refine pure_ (i := 7) (N := some 79) (v := undef) (a' := ?_) (bs 255 35) rfl rfl (any_of HT_.out (by kernel_rfl)) (fun _ _ _ h => h) (Or.inr ⟨by rfl, rfl⟩) ?_ ?_
        rotate_left
        ·simp only [pA, pS, pZ, pK, i64_w, i32_w]
         rfl
        refine pure_ (i := 8) (N := some 80) (v := undef) (a' := ?_) (bs 511 35) rfl rfl (any_of HT_.out (by kernel_rfl)) (fun _ _ _ h => h) (Or.inr ⟨by rfl, rfl⟩) ?_ ?_
        rotate_left
        ·simp only [pA, pS, pZ, pK, i64_w, i32_w]
         rfl
        refine pure_ (i := 9) (N := some 81) (v := undef) (a' := ?_) (bs 1023 35) rfl rfl (any_of HT_.out (by kernel_rfl)) (fun _ _ _ h => h) (Or.inr ⟨by rfl, rfl⟩) ?_ ?_
        rotate_left
        ·simp only [pA, pS, pZ, pK, i64_w, i32_w]
         rfl
        refine pure_ (i := 10) (N := some 82) (v := undef) (a' := ?_) (bs 2047 35) rfl rfl (any_of HT_.out (by kernel_rfl)) (fun _ _ _ h => h) (Or.inr ⟨by rfl, rfl⟩) ?_ ?_
        rotate_left
        ·simp only [pA, pS, pZ, pK, i64_w, i32_w]
         rfl
        refine pure_ (i := 11) (N := some 83) (v := undef) (a' := ?_) (bs 4095 35) rfl rfl (any_of HT_.out (by kernel_rfl)) (fun _ _ _ h => h) (Or.inr ⟨by rfl, rfl⟩) ?_ ?_
        rotate_left
        ·simp only [pA, pS, pZ, pK, i64_w, i32_w]
         rfl
        refine pure_ (i := 12) (N := some 84) (v := undef) (a' := ?_) (bs 8191 35) rfl rfl (any_of HT_.out (by kernel_rfl)) (fun _ _ _ h => h) (Or.inr ⟨by rfl, rfl⟩) ?_ ?_
        rotate_left
        ·simp only [pA, pS, pZ, pK, i64_w, i32_w]
         rfl
        refine pure_ (i := 13) (N := some 85) (v := undef) (a' := ?_) (bs 16383 35) rfl rfl (any_of HT_.out (by kernel_rfl)) (fun _ _ _ h => h) (Or.inr ⟨by rfl, rfl⟩) ?_ ?_
        rotate_left
        ·simp only [pA, pS, pZ, pK, i64_w, i32_w]
         rfl
        refine pure_ (i := 14) (N := some 86) (v := undef) (a' := ?_) (bs 32767 35) rfl rfl (any_of HT_.out (by kernel_rfl)) (fun _ _ _ h => h) (Or.inr ⟨by rfl, rfl⟩) ?_ ?_
        rotate_left
        ·simp only [pA, pS, pZ, pK, i64_w, i32_w]
         rfl
        refine pure_ (i := 15) (N := some 87) (v := undef) (a' := ?_) (bs 65535 35) rfl rfl (any_of HT_.out (by kernel_rfl)) (fun _ _ _ h => h) (Or.inr ⟨by rfl, rfl⟩) ?_ ?_
        rotate_left
        ·simp only [pA, pS, pZ, pK, i64_w, i32_w]
         rfl
        refine pure_ (i := 16) (N := some 88) (v := undef) (a' := ?_) (bs 131071 35) rfl rfl (any_of HT_.out (by kernel_rfl)) (fun _ _ _ h => h) (Or.inr ⟨by rfl, rfl⟩) ?_ ?_
        rotate_left
        ·simp only [pA, pS, pZ, pK, i64_w, i32_w]
         rfl
        refine pure_ (i := 17) (N := some 89) (v := undef) (a' := ?_) (bs 262143 35) rfl rfl (any_of HT_.out (by kernel_rfl)) (fun _ _ _ h => h) (Or.inr ⟨by rfl, rfl⟩) ?_ ?_
        rotate_left
        ·simp only [pA, pS, pZ, pK, i64_w, i32_w]
         rfl
        refine pure_ (i := 18) (N := some 90) (v := undef) (a' := ?_) (bs 524287 35) rfl rfl (any_of HT_.out (by kernel_rfl)) (fun _ _ _ h => h) (Or.inr ⟨by rfl, rfl⟩) ?_ ?_
        rotate_left
        ·simp only [pA, pS, pZ, pK, i64_w, i32_w]
         rfl
        refine pure_ (i := 19) (N := some 91) (v := undef) (a' := ?_) (bs 1048575 35) rfl rfl (any_of HT_.out (by kernel_rfl)) (fun _ _ _ h => h) (Or.inr ⟨by rfl, rfl⟩) ?_ ?_
        rotate_left
        ·simp only [pA, pS, pZ, pK, i64_w, i32_w]
         rfl
        refine pure_ (i := 20) (N := some 92) (v := undef) (a' := ?_) (bs 2097151 35) rfl rfl (any_of HT_.out (by kernel_rfl)) (fun _ _ _ h => h) (Or.inr ⟨by rfl, rfl⟩) ?_ ?_
        rotate_left
        ·simp only [pA, pS, pZ, pK, i64_w, i32_w]
         rfl
        refine pure_ (i := 21) (N := some 93) (v := undef) (a' := ?_) (bs 4194303 35) rfl rfl (any_of HT_.out (by kernel_rfl)) (fun _ _ _ h => h) (Or.inr ⟨by rfl, rfl⟩) ?_ ?_
        rotate_left
        ·simp only [pA, pS, pZ, pK, i64_w, i32_w]
         rfl
        refine pure_ (i := 22) (N := some 94) (v := undef) (a' := ?_) (bs 8388607 35) rfl rfl (any_of HT_.out (by kernel_rfl)) (fun _ _ _ h => h) (Or.inr ⟨by rfl, rfl⟩) ?_ ?_
        rotate_left
        ·simp only [pA, pS, pZ, pK, i64_w, i32_w]
         rfl
        refine pure_ (i := 23) (N := some 95) (v := undef) (a' := ?_) (bs 16777215 35) rfl rfl (any_of HT_.out (by kernel_rfl)) (fun _ _ _ h => h) (Or.inr ⟨by rfl, rfl⟩) ?_ ?_
        rotate_left
        ·simp only [pA, pS, pZ, pK, i64_w, i32_w]
         rfl
        refine pure_ (i := 24) (N := some 96) (v := undef) (a' := ?_) (bs 33554431 35) rfl rfl (any_of HT_.out (by kernel_rfl)) (fun _ _ _ h => h) (Or.inr ⟨by rfl, rfl⟩) ?_ ?_
        rotate_left
        ·simp only [pA, pS, pZ, pK, i64_w, i32_w]
         rfl
        refine pure_ (i := 25) (N := some 97) (v := undef) (a' := ?_) (bs 67108863 35) rfl rfl (any_of HT_.out (by kernel_rfl)) (fun _ _ _ h => h) (Or.inr ⟨by rfl, rfl⟩) ?_ ?_
        rotate_left
        ·simp only [pA, pS, pZ, pK, i64_w, i32_w]
         rfl
        refine pure_ (i := 26) (N := some 98) (v := undef) (a' := ?_) (bs 134217727 35) rfl rfl (any_of HT_.out (by kernel_rfl)) (fun _ _ _ h => h) (Or.inr ⟨by rfl, rfl⟩) ?_ ?_
        rotate_left
        ·simp only [pA, pS, pZ, pK, i64_w, i32_w]
         rfl
        refine pure_ (i := 27) (N := some 99) (v := undef) (a' := ?_) (bs 268435455 35) rfl rfl (any_of HT_.out (by kernel_rfl)) (fun _ _ _ h => h) (Or.inr ⟨by rfl, rfl⟩) ?_ ?_
        rotate_left
        ·simp only [pA, pS, pZ, pK, i64_w, i32_w]
         rfl
        refine pure_ (i := 28) (N := some 100) (v := undef) (a' := ?_) (bs 536870911 35) rfl rfl (any_of HT_.out (by kernel_rfl)) (fun _ _ _ h => h) (Or.inr ⟨by rfl, rfl⟩) ?_ ?_
        rotate_left
        ·simp only [pA, pS, pZ, pK, i64_w, i32_w]
         rfl
        refine pure_ (i := 29) (N := some 101) (v := undef) (a' := ?_) (bs 1073741823 35) rfl rfl (any_of HT_.out (by kernel_rfl)) (fun _ _ _ h => h) (Or.inr ⟨by rfl, rfl⟩) ?_ ?_
        rotate_left
        ·simp only [pA, pS, pZ, pK, i64_w, i32_w]
         rfl
        refine pure_ (i := 30) (N := some 102) (v := undef) (a' := ?_) (bs 2147483647 35) rfl rfl (any_of HT_.out (by kernel_rfl)) (fun _ _ _ h => h) (Or.inr ⟨by rfl, rfl⟩) ?_ ?_
        rotate_left
        ·simp only [pA, pS, pZ, pK, i64_w, i32_w]
         rfl
        refine pure_ (i := 31) (N := some 103) (v := undef) (a' := ?_) (bs 4294967295 35) rfl rfl (any_of HT_.out (by kernel_rfl)) (fun _ _ _ h => h) (Or.inr ⟨by rfl, rfl⟩) ?_ ?_
        rotate_left
        ·simp only [pA, pS, pZ, pK, i64_w, i32_w]
         rfl
        refine pure_ (i := 32) (N := some 104) (v := undef) (a' := ?_) (bs 8589934591 35) rfl rfl (any_of HT_.out (by kernel_rfl)) (fun _ _ _ h => h) (Or.inr ⟨by rfl, rfl⟩) ?_ ?_
        rotate_left
        ·simp only [pA, pS, pZ, pK, i64_w, i32_w]
         rfl
        refine pure_ (i := 33) (N := some 105) (v := undef) (a' := ?_) (bs 17179869183 35) rfl rfl (any_of HT_.out (by kernel_rfl)) (fun _ _ _ h => h) (Or.inr ⟨by rfl, rfl⟩) ?_ ?_
        rotate_left
        ·simp only [pA, pS, pZ, pK, i64_w, i32_w]
         rfl
        refine pure_ (i := 34) (N := some 106) (v := ?_) (a' := ?_) (bs 34359738367 35) rfl rfl (any_of HT_.out (by kernel_rfl)) (fun _ _ _ h => h) (Or.inl ⟨by rfl, ?_⟩) ?_ ?_
        rotate_left
        ·intro w'
         go_simp
         with_reducible rfl
        rotate_left
        ·simp only [pA, pS, pZ, pK, i64_w, i32_w]
         rfl
        refine done_ (done_of HT_.out (by kernel_rfl)) ?_
        try go_wp2
        go_meet
        case rel => exact ⟨_, (false), (by first | rfl | (simp; done) | (simp [*]; done)), H', ⟨by have := HJ6.out; first | omega | exact Nat.le_refl _⟩, ⟨by (with_reducible repeat (first | apply Kd.R_alloc | apply Kd.R_drewN | apply Kd.R_drew)); exact Kd.R_mono HO_6.out (fun _ hk => hk.2)⟩, ⟨by (with_reducible repeat (first | apply Kd.R_alloc | apply Kd.R_drewN | apply Kd.R_drew)); exact Kd.R_mono HO_8.out (fun _ hk => hk.2)⟩, ⟨by exact BL HB.out rfl rfl rfl rfl⟩⟩
      case rest =>
       clear HC36
       try clear p2
       try clear p3
       try clear q3
       try clear hx3
       try clear qi3
       try clear c4
       try clear p37
       try clear q37
       try clear hx37
       try clear qi37
       try clear c43
       try clear c46
       try clear c47
       try clear c47b0
       try clear c47b1
       try clear c48
       try clear hx375_0
       try clear p375
       try clear q375
       obtain ⟨kq, x106_35, rfl, HA, HJ35, HO_6, HO_8, HB⟩ := hcut
       cases kq with
       | zero => exact absurd HA.out (by simp [laws_FnWaits.j1])
       | succ kj35 =>
        have H := HA.out
        clear HA
        simp only [laws_FnWaits.j1] at H
        by_cases c59 : x106_35 = true
        ·subst c59
         have H1 : (some false) = some r := by rw [if_pos rfl] at H; exact H
         clear H
         have H := H1
         clear H1
         obtain rfl := Option.some.inj H
         go_wp2
         go_ret
         exact ⟨by first | rfl | (simp [errW_none, errW_some] <;> rfl) | (simp [*, errW_none, errW_some] <;> rfl), by exact BL HB.out rfl rfl rfl rfl⟩
        ·replace c59 := Bool.eq_false_iff.mpr c59
         subst c59
         have H1 : ((impl_ClearWaits.f kj35 t356 t352).bind fun t379 => (laws_FnWaits.l0 kj35 t352 t360 t379 0)) = some r := by rw [if_neg (show ¬ (false = true) by decide)] at H; exact H
         clear H
         have H := H1
         clear H1
         replace H := Option.bind_eq_some_iff.mp H
         obtain ⟨t379, A600, H⟩ := H
         replace H : (laws_FnWaits.l0 kj35 t352 t360 t379 0) = some r := H
         have A60 := AM_ A600
         clear A600
         have H' := AM_ H
         clear H
         go_wp2_with (first | ((with_reducible refine gate_callee (f := 25) rfl ?_); refine goesL_ (some 109) rfl rfl Try.func25 (by kernel_rfl) rfl #[.slice Ao37 t356.length co37, .int .i64 t352] rfl (by (try simp only [List.map_toArray, List.map_cons, List.map_nil]); first | done | rfl | (simp only [List.length_drop, List.length_take]; rfl)) ?_; (with_reducible refine (impl_ClearWaits.calls kj35 _ _ t356 t352 t379 _ ?side1 ?side2 A60.out).mono ?_); (case side1 => exact Kd.C_below (Kd.R_reads' HO_6.out).2.2 (BL (Below.refl _ _) rfl rfl rfl rfl)); (case side2 => exact (Kd.R_reads' HO_6.out).2.1); rintro e w61 ⟨v380, rfl, ho0, hb⟩; refine ⟨_, rfl, ?_⟩; have n0_ := AM_ (Kd.R_elder' (by exact RL HO_6.out rfl) (Kd.R_base ho0) hb); have n1_ := AM_ (Kd.R_elder' (by exact RL HO_8.out rfl) (Kd.R_base ho0) hb); have n2_ := AM_ (Kd.R_lower (Kd.R_new' (Kd.R_new' ho0 (Kd.R_lt (by exact RL HO_6.out rfl))) (Kd.R_lt (by exact RL HO_8.out rfl))) (below_size (by exact BL HB.out rfl rfl rfl rfl))); have n3_ := AM_ (below_step (by exact BL HB.out rfl rfl rfl rfl) hb); clear HO_6; clear HO_8; clear HB; have HO_6 := n0_; have HO_8 := n1_; have HO381 := n2_; have HB := n3_; clear n0_ n1_ n2_ n3_; (try clear hb); (try clear hb2); (try clear hk); (try clear hi); (try clear ho0)))
         go_loopg [12] kj35 (fun kq v12 w' => ∃ (x12_3 : Int), v12 = .int .i64 x12_3 ∧ Aside0 (laws_FnWaits.l0 kq t352 t360 t379 x12_3 = some r) ∧ Aside0 (kq ≤ kj35) ∧ Aside0 (Kd.R k36 36 w' w.heap.size (fun k_ => some k_ ≠ (v380 : Value).ownBlock) (.slice Ao39 t360.length co39) t360) ∧ Aside0 (Kd.R k36 36 w' w.heap.size (fun k_ => some k_ ≠ ((.slice Ao39 t360.length co39) : Value).ownBlock) v380 t379) ∧ Aside0 (Below w.heap.size w w'))
         case atStart => exact ⟨(0), (by first | rfl | (simp; done) | (simp [*]; done)), H', ⟨Nat.le_refl _⟩, ⟨by (with_reducible repeat (first | apply Kd.R_alloc | apply Kd.R_drewN | apply Kd.R_drew)); exact Kd.R_mono HO_8.out (fun _ hk => hk.2)⟩, ⟨by (with_reducible repeat (first | apply Kd.R_alloc | apply Kd.R_drewN | apply Kd.R_drew)); exact Kd.R_mono HO381.out (fun _ hk => hk.2)⟩, ⟨by exact BL HB.out rfl rfl rfl rfl⟩⟩
         case round =>
          clear H'
          try clear c2
          try clear p2
          try clear p3
          try clear q3
          try clear hx3
          try clear qi3
          try clear c4
          try clear c5
          try clear c25
          try clear p37
          try clear q37
          try clear hx37
          try clear qi37
          try clear c43
          try clear c46
          try clear c47
          try clear c47b0
          try clear c47b1
          try clear c48
          try clear c59
          try clear hx375_0
          try clear p2
          try clear p3
          try clear p37
          try clear p375
          try clear q3
          try clear q37
          try clear q375
          obtain ⟨x12_3, rfl, HA, HK3, HO_8, HO_11, HB⟩ := hrel
          cases gk with
          | zero => exact absurd HA.out (by simp [laws_FnWaits.l0])
          | succ k3 =>
           have H := HA.out
           clear HA
           simp only [laws_FnWaits.l0] at H
           by_cases c62 : x12_3 < (t379.length : Int)
           ·rw [if_pos c62] at H
            have c62b0 : decide (x12_3 < (t379.length : Int)) = true := decide_eq_true c62
            clear c62
            by_cases c63 : 0 ≤ x12_3
            ·rw [if_pos c63] at H
             have c63b0 : decide (0 ≤ x12_3) = true := decide_eq_true c63
             clear c63
             by_cases c64 : ((rd_T36 t379 x12_3).f0) = t352
             ·rw [if_pos c64] at H
              have c64b0 : (((rd_T36 t379 x12_3).f0) == t352) = true := beq_iff_eq.mpr c64
              have c64b1 : (((rd_T36 t379 x12_3).f0) != t352) = false := bne_eq_false_iff_eq.mpr c64
              clear c64
              obtain rfl := Option.some.inj H
              obtain ⟨Ao65, co65, eo65⟩ := Kd.R_slice HO_11.out
              subst eo65
              have p382 : 0 ≤ (x12_3 : Int) := of_decide_eq_true (by first | (with_reducible assumption) | assumption)
              have q382 : x12_3 < (t379.length : Int) := of_decide_eq_true (by first | (with_reducible assumption) | assumption)
              obtain ⟨ad382, e382, hx382_0, hx382_1⟩ := at_T36 (Kd.R_reads' HO_11.out).2.2 x12_3 p382 q382
              cases e382
              replace p382 := eq_true p382
              replace q382 := eq_true q382
              go_wp2
              go_ret
              exact ⟨by first | rfl | (simp [errW_none, errW_some] <;> rfl) | (simp [*, errW_none, errW_some] <;> rfl), by exact BL HB.out rfl rfl rfl rfl⟩
             ·rw [if_neg c64] at H
              have c64b0 : (((rd_T36 t379 x12_3).f0) == t352) = false := beq_eq_false_iff_ne.mpr c64
              have c64b1 : (((rd_T36 t379 x12_3).f0) != t352) = true := bne_iff_ne.mpr c64
              by_cases c66 : ((rd_T36 t379 x12_3).f1) = t352
              ·rw [if_pos c66] at H
               have c66b0 : (((rd_T36 t379 x12_3).f1) == t352) = true := beq_iff_eq.mpr c66
               have c66b1 : (((rd_T36 t379 x12_3).f1) != t352) = false := bne_eq_false_iff_eq.mpr c66
               clear c66
               obtain rfl := Option.some.inj H
               obtain ⟨Ao67, co67, eo67⟩ := Kd.R_slice HO_11.out
               subst eo67
               have p382 : 0 ≤ (x12_3 : Int) := of_decide_eq_true (by first | (with_reducible assumption) | assumption)
               have q382 : x12_3 < (t379.length : Int) := of_decide_eq_true (by first | (with_reducible assumption) | assumption)
               obtain ⟨ad382, e382, hx382_0, hx382_1⟩ := at_T36 (Kd.R_reads' HO_11.out).2.2 x12_3 p382 q382
               cases e382
               replace p382 := eq_true p382
               replace q382 := eq_true q382
               have p383 : 0 ≤ (x12_3 : Int) := of_decide_eq_true (by first | (with_reducible assumption) | assumption)
               have q383 : x12_3 < (t379.length : Int) := of_decide_eq_true (by first | (with_reducible assumption) | assumption)
               obtain ⟨ad383, e383, hx383_0, hx383_1⟩ := at_T36 (Kd.R_reads' HO_11.out).2.2 x12_3 p383 q383
               obtain rfl : ad382 = ad383 := (by injection e383)
               replace p383 := eq_true p383
               replace q383 := eq_true q383
               go_wp2
               go_ret
               exact ⟨by first | rfl | (simp [errW_none, errW_some] <;> rfl) | (simp [*, errW_none, errW_some] <;> rfl), by exact BL HB.out rfl rfl rfl rfl⟩
              ·rw [if_neg c66] at H
               have c66b0 : (((rd_T36 t379 x12_3).f1) == t352) = false := beq_eq_false_iff_ne.mpr c66
               have c66b1 : (((rd_T36 t379 x12_3).f1) != t352) = true := bne_iff_ne.mpr c66
               have H' := AM_ H
               clear H
               obtain ⟨Ao68, co68, eo68⟩ := Kd.R_slice HO_11.out
               subst eo68
               have p382 : 0 ≤ (x12_3 : Int) := of_decide_eq_true (by first | (with_reducible assumption) | assumption)
               have q382 : x12_3 < (t379.length : Int) := of_decide_eq_true (by first | (with_reducible assumption) | assumption)
               obtain ⟨ad382, e382, hx382_0, hx382_1⟩ := at_T36 (Kd.R_reads' HO_11.out).2.2 x12_3 p382 q382
               cases e382
               replace p382 := eq_true p382
               replace q382 := eq_true q382
               have p383 : 0 ≤ (x12_3 : Int) := of_decide_eq_true (by first | (with_reducible assumption) | assumption)
               have q383 : x12_3 < (t379.length : Int) := of_decide_eq_true (by first | (with_reducible assumption) | assumption)
               obtain ⟨ad383, e383, hx383_0, hx383_1⟩ := at_T36 (Kd.R_reads' HO_11.out).2.2 x12_3 p383 q383
               obtain rfl : ad382 = ad383 := (by injection e383)
               replace p383 := eq_true p383
               replace q383 := eq_true q383
               go_wp2
               go_roundg k3
               case measure => have := HJ6.out; have := HJ35.out; have := HK3.out; omega
               case rel => exact ⟨(wrap64 (x12_3 + 1)), (by first | rfl | (simp; done) | (simp [*]; done)), H', ⟨by have := HJ6.out; have := HJ35.out; have := HK3.out; omega⟩, ⟨by exact RL HO_8.out rfl⟩, ⟨by exact RL HO_11.out rfl⟩, ⟨by exact BL HB.out rfl rfl rfl rfl⟩⟩
            ·rw [if_neg c63] at H
             exact absurd H (by simp)
           ·rw [if_neg c62] at H
            have c62b0 : decide (x12_3 < (t379.length : Int)) = false := decide_eq_false c62
            clear c62
            replace H := Option.bind_eq_some_iff.mp H
            obtain ⟨t384, A690, H⟩ := H
            replace H : (some ((t379.length : Int) == (t384.length : Int))) = some r := H
            have A69 := AM_ A690
            clear A690
            obtain rfl := Option.some.inj H
            obtain ⟨Ao70, co70, eo70⟩ := Kd.R_slice HO_11.out
            subst eo70
            go_wp2_with (first | ((with_reducible refine gate_callee (f := 26) rfl ?_); refine goesL_ (some 136) rfl rfl Try.func26 (by kernel_rfl) rfl #[.slice Ao39 t360.length co39, .int .i64 t352] rfl (by (try simp only [List.map_toArray, List.map_cons, List.map_nil]); first | done | rfl | (simp only [List.length_drop, List.length_take]; rfl)) ?_; (with_reducible refine (spec_ClearWaits.calls k3 _ _ t360 t352 t384 _ ?side1 ?side2 A69.out).mono ?_); (case side1 => exact Kd.C_below (Kd.R_reads' HO_8.out).2.2 (BL (Below.refl _ _) rfl rfl rfl rfl)); (case side2 => exact (Kd.R_reads' HO_8.out).2.1); rintro e w71 ⟨v385, rfl, ho0, hb⟩; refine ⟨_, rfl, ?_⟩; have n0_ := AM_ (Kd.R_elder' (by exact RL HO_8.out rfl) (Kd.R_base ho0) hb); have n1_ := AM_ (Kd.R_elder' (by exact RL HO_11.out rfl) (Kd.R_base ho0) hb); have n2_ := AM_ (Kd.R_lower (Kd.R_new' (Kd.R_new' ho0 (Kd.R_lt (by exact RL HO_8.out rfl))) (Kd.R_lt (by exact RL HO_11.out rfl))) (below_size (by exact BL HB.out rfl rfl rfl rfl))); have n3_ := AM_ (below_step (by exact BL HB.out rfl rfl rfl rfl) hb); clear HO_8; clear HO_11; clear HB; have HO_8 := n0_; have HO_11 := n1_; have HO386 := n2_; have HB := n3_; clear n0_ n1_ n2_ n3_; (try clear hb); (try clear hb2); (try clear hk); (try clear hi); (try clear ho0); obtain ⟨Ao72, co72, eo72⟩ := Kd.R_slice HO386.out; subst eo72))
            go_ret
            exact ⟨by first | rfl | (simp [errW_none, errW_some] <;> rfl) | (simp [*, errW_none, errW_some] <;> rfl), by exact BL HB.out rfl rfl rfl rfl⟩
     ·replace c35 := Bool.eq_false_iff.mpr c35
      subst c35
      have H1 : (some false) = some r := by rw [if_neg (show ¬ (false = true) by decide)] at H; exact H
      clear H
      have H := H1
      clear H1
      obtain rfl := Option.some.inj H
      obtain ⟨Ao73, co73, eo73⟩ := Kd.R_slice HO_6.out
      subst eo73
      go_wp2_with (first | ((with_reducible refine gate_callee (f := 22) rfl ?_); refine goesL_ (some 65) rfl rfl Try.func22 (by kernel_rfl) rfl #[.slice Ao73 t356.length co73, .int .i64 t352] rfl (by (try simp only [List.map_toArray, List.map_cons, List.map_nil]); first | done | rfl | (simp only [List.length_drop, List.length_take]; rfl)) ?_; (with_reducible refine (impl_WaitChain.calls kj6 _ _ t356 t352 t368 _ ?side1 ?side2 A32.out).mono ?_); (case side1 => exact Kd.C_below (Kd.R_reads' HO_6.out).2.2 (BL (Below.refl _ _) rfl rfl rfl rfl)); (case side2 => exact (Kd.R_reads' HO_6.out).2.1); rintro e w74 ⟨v369, rfl, ho0, hb⟩; refine ⟨_, rfl, ?_⟩; have n0_ := AM_ (Kd.R_below (by exact RL HO_3.out rfl) hb); have n1_ := AM_ (Kd.R_below (by exact RL HO_6.out rfl) hb); have n2_ := AM_ (Kd.R_below (by exact RL HO_8.out rfl) hb); have n3_ := AM_ (Kd.R_lower ho0 (below_size (by exact BL HB.out rfl rfl rfl rfl))); have n4_ := AM_ (below_step (by exact BL HB.out rfl rfl rfl rfl) hb); clear HO_3; clear HO_6; clear HO_8; clear HB; have HO_3 := n0_; have HO_6 := n1_; have HO_8 := n2_; have HO370 := n3_; have HB := n4_; clear n0_ n1_ n2_ n3_ n4_; (try clear hb); (try clear hb2); (try clear hk); (try clear hi); (try clear ho0); obtain ⟨Ao75, co75, eo75⟩ := Kd.R_slice HO_8.out; subst eo75) | ((with_reducible refine gate_callee (f := 24) rfl ?_); refine goesL_ (some 69) rfl rfl Try.func24 (by kernel_rfl) rfl #[.slice Ao75 t360.length co75, .int .i64 t352] rfl (by (try simp only [List.map_toArray, List.map_cons, List.map_nil]); first | done | rfl | (simp only [List.length_drop, List.length_take]; rfl)) ?_; (with_reducible refine (spec_WaitChain.calls kj6 _ _ t360 t352 t371 _ ?side1 ?side2 A33.out).mono ?_); (case side1 => exact Kd.C_below (Kd.R_reads' HO_8.out).2.2 (BL (Below.refl _ _) rfl rfl rfl rfl)); (case side2 => exact (Kd.R_reads' HO_8.out).2.1); rintro e w76 ⟨v372, rfl, ho0, hb⟩; refine ⟨_, rfl, ?_⟩; have n0_ := AM_ (Kd.R_below (by exact RL HO_3.out rfl) hb); have n1_ := AM_ (Kd.R_below (by exact RL HO_6.out rfl) hb); have n2_ := AM_ (Kd.R_below (by exact RL HO_8.out rfl) hb); have n3_ := AM_ (Kd.R_elder' (by exact RL HO370.out rfl) (Kd.R_base ho0) hb); have n4_ := AM_ (Kd.R_lower (Kd.R_new' ho0 (Kd.R_lt (by exact RL HO370.out rfl))) (below_size (by exact BL HB.out rfl rfl rfl rfl))); have n5_ := AM_ (below_step (by exact BL HB.out rfl rfl rfl rfl) hb); clear HO_3; clear HO_6; clear HO_8; clear HO370; clear HB; have HO_3 := n0_; have HO_6 := n1_; have HO_8 := n2_; have HO370 := n3_; have HO373 := n4_; have HB := n5_; clear n0_ n1_ n2_ n3_ n4_ n5_; (try clear hb); (try clear hb2); (try clear hk); (try clear hi); (try clear ho0); obtain ⟨Ao77, co77, eo77⟩ := Kd.R_slice HO370.out; subst eo77; obtain ⟨Ao78, co78, eo78⟩ := Kd.R_slice HO373.out; subst eo78) | ((with_reducible refine gate_callee (f := 23) rfl ?_); refine goesL_ (some 70) rfl rfl Try.func23 (by kernel_rfl) rfl #[.slice Ao77 t368.length co77, .slice Ao78 t371.length co78] rfl (by (try simp only [List.map_toArray, List.map_cons, List.map_nil]); first | done | rfl | (simp only [List.length_drop, List.length_take]; rfl)) ?_; (with_reducible refine (laws_sameInts.calls kj6 _ _ t368 _ _ t371 false _ ?side1 ?side2 ?side3 ?side4 A34.out).mono ?_); (case side1 => exact Kd.C_below (Kd.R_reads' HO370.out).2.2 (BL (Below.refl _ _) rfl rfl rfl rfl)); (case side2 => exact (Kd.R_reads' HO370.out).2.1); (case side3 => exact Kd.C_below (Kd.R_reads' HO373.out).2.2 (BL (Below.refl _ _) rfl rfl rfl rfl)); (case side4 => exact (Kd.R_reads' HO373.out).2.1); rintro e w' ⟨rfl, ⟨nd, rfl⟩⟩; refine ⟨_, rfl, ?_⟩))
      go_ret
      exact ⟨by first | rfl | (simp [errW_none, errW_some] <;> rfl) | (simp [*, errW_none, errW_some] <;> rfl), by exact BL HB.out rfl rfl rfl rfl⟩

/-- THE ONE PURE STATEMENT of laws_FnWaits: yours. -/
def laws_FnWaits.Pure : Prop := ∀ (l0 : List Int), l0.length ≤ maxLen → l0.length * 1 ≤ 140737488351232 → (∀ x ∈ l0, (Lit.int .u8 x).wf = true) → ∃ k, laws_FnWaits.f k l0 = some true
theorem laws_FnWaits.walk (P : laws_FnWaits.Pure) (a0 : Option Addr) (len0 cap0 : Nat) (z0 : List Int) (w : World) (w0 : (a0 = none ∧ len0 = 0 ∧ cap0 = 0 ∧ z0 = []) ∨ ∃ x, a0 = some x ∧ len0 ≤ cap0 ∧ cap0 ≤ maxLen ∧ z0.length = cap0 ∧ (∀ i, i < z0.length → w.cell? (x.add i) = some (.int .u8 (z0.getD i 0))) ∧ ∀ n ∈ z0, (Lit.int .u8 n).wf = true) (y0 : len0 * 1 ≤ 140737488351232) :
  Calls Try.prog 3 #[.slice a0 len0 cap0] w fun e w' => e = .returned (.bool true) ∧ Below w.heap.size w w' := by
 obtain ⟨l0, rfl, hr0, hm0, hw0, hc0⟩ := ReadsInt.ofRowC w0
 obtain ⟨k, h⟩ := P l0 hm0 y0 hw0
 refine (laws_FnWaits.calls k _ _ l0 true w (Kd.C_of_reads (d := (0 : Int)) (h1 := fun _ => rfl) hr0) hc0 h).mono ?_
 rintro e w' ⟨rfl, hd⟩
 exact ⟨rfl, hd⟩

end Go.Proofs.Ytakpkmlbklahhaa.PFnWaits
