-- Printed by a program of mine (wip/myprint.py), which runs the printer of the kit with contracts of mine beside it.
import Derived.Test.YtpiaeinfneoioaaPFnIndexesx0
import Derived.Test.YtpiaeinfneoioaaPFnIndexesx1
import Derived.Test.YtpiaeinfneoioaaPFnIndexesx2
import Derived.Test.YtpiaeinfneoioaaPFnIndexesx3
import Derived.Test.YtpiaeinfneoioaaPFnIndexesx4
import Derived.Test.YtpiaeinfneoioaaPFnIndexesx5
import Derived.Test.YtpiaeinfneoioaaPFnIndexesx6
import Derived.Test.YtpiaeinfneoioaaPFnIndexesx7
import Derived.Test.YtpiaeinfneoioaaPFnIndexesx8
namespace Go.Proofs.Ytpiaeinfneoioaa.PFnIndexes
open Go.RowKit Go.Proofs.YtpiaeinfneoioaaW.PrintWords Go.Proofs.YtpiaeinfneoioaaW.PrintLast Go.Proofs.YtpiaeinfneoioaaW.PrintMore
attribute [local go_sem] max2_int min2_int max_two min_two max_three min_three max_four min_four   -- for this text's walks alone
set_option linter.unusedVariables false
set_option linter.unusedSimpArgs false

attribute [local go_sem high] eqA77
/-! ### laws_FnIndexes: function 14 -/
mutual
def laws_FnIndexes.j0 : Nat → List Int → List (S77) → List (S77) → Bool → List (S77) → Bool → Option (Bool)
 | 0, _, _, _, _, _, _ => none
 | k + 1, x0, x3, x5, x6, x7, x54 => if x54 = true then (some false) else (laws_FnIndexes.l0 k x0 x3 x5 x6 x7 0)
def laws_FnIndexes.l0 : Nat → List Int → List (S77) → List (S77) → Bool → List (S77) → Int → Option (Bool)
 | 0, _, _, _, _, _, _ => none
 | k + 1, x0, x3, x5, x6, x7, x9 => if x9 < (x5.length : Int) then (if 0 ≤ x9 then (if x9 < (x7.length : Int) then (if (!(((rd_T77 x5 x9).f0) == ((rd_T77 x7 x9).f0)) || (!(((rd_T77 x5 x9).f1) == ((rd_T77 x7 x9).f1)) || (!(((rd_T77 x5 x9).f2) == ((rd_T77 x7 x9).f2))))) = true then (some false) else (laws_FnIndexes.l0 k x0 x3 x5 x6 x7 (wrap64 (x9 + 1)))) else (none)) else (none)) else (if x6 = true then (if (x5.length : Int) = (wrap64 ((x3.length : Int) + 1)) then ((impl_IsIndex.f k x5).bind fun t381 => (laws_FnIndexes.j2 k x0 (!t381))) else (laws_FnIndexes.j2 k x0 true)) else (laws_FnIndexes.j2 k x0 false))
def laws_FnIndexes.j2 : Nat → List Int → Bool → Option (Bool)
 | 0, _, _ => none
 | k + 1, x0, x83 => if x83 = true then (some false) else ((spec_DrawScanIsFresh.f k x0).bind fun bt382 => ((impl_ScanIsFresh.f k bt382.1 bt382.2.1 bt382.2.2.1 bt382.2.2.2).bind fun t390 => ((spec_ScanIsFresh.f k bt382.1 bt382.2.1 bt382.2.2.1 bt382.2.2.2).bind fun t391 => (if (t390 != t391) = true then (some false) else ((spec_IsIndex.f k bt382.1).bind fun t392 => (if t392 = true then ((spec_NodesFor.f k bt382.1 bt382.2.2.1 bt382.2.2.2).bind fun t393 => ((impl_NodesFor.f k bt382.1 bt382.2.2.1 bt382.2.2.2).bind fun t396 => (if (t396.length : Int) = (t393.length : Int) then ((impl_ScanIsFresh.f k bt382.1 t393 bt382.2.2.1 bt382.2.2.2).bind fun t399 => (laws_FnIndexes.j3 k bt382.1 bt382.2.2.1 bt382.2.2.2 t393 (!t399))) else (laws_FnIndexes.j3 k bt382.1 bt382.2.2.1 bt382.2.2.2 t393 true)))) else (some (!t390))))))))
def laws_FnIndexes.j3 : Nat → List (S77) → Int → Int → List (S77) → Bool → Option (Bool)
 | 0, _, _, _, _, _ => none
 | k + 1, x10, x12, x13, x15, x128 => if x128 = true then (some false) else (laws_FnIndexes.l1 k x10 x12 x13 x15 0 0)
def laws_FnIndexes.l1 : Nat → List (S77) → Int → Int → List (S77) → Int → Int → Option (Bool)
 | 0, _, _, _, _, _, _ => none
 | k + 1, x10, x12, x13, x15, x17, x18 => if x18 < (x15.length : Int) then (if 0 ≤ x18 then (laws_FnIndexes.l1 k x10 x12 x13 x15 (mx x17 ((rd_T77 x15 x18).f2)) (wrap64 (x18 + 1))) else (none)) else (if x17 = 999 then (some true) else ((impl_MarkIndex.f k x10 x12 (wrap64 (x17 + 1))).bind fun t401 => ((impl_ScanIsFresh.f k t401 x15 x12 x13).bind fun t404 => (some (!t404)))))
end
def laws_FnIndexes.f (k : Nat) (l0 : List Int) : Option (Bool) := (laws_big.f l0).bind fun t364 => (if t364 = true then (some true) else ((spec_DrawSplitNode.f k l0).bind fun bt365 => ((impl_SplitNode.f k bt365.1 bt365.2).bind fun bt369 => ((spec_SplitNode.f k bt365.1 bt365.2).bind fun bt373 => (if (bt369.2 != bt373.2) = true then (laws_FnIndexes.j0 k l0 bt365.1 bt369.1 bt369.2 bt373.1 true) else (if (bt369.1.length : Int) = (bt373.1.length : Int) then ((impl_IsIndex.f k bt365.1).bind fun t377 => ((spec_IsIndex.f k bt365.1).bind fun t378 => (laws_FnIndexes.j0 k l0 bt365.1 bt369.1 bt369.2 bt373.1 (t377 != t378)))) else (laws_FnIndexes.j0 k l0 bt365.1 bt369.1 bt369.2 bt373.1 true)))))))
theorem laws_FnIndexes.mono_l : ∀ k, (∀ y0 y1 y2 y3 y4 y5, LeO (laws_FnIndexes.j0 k y0 y1 y2 y3 y4 y5) (laws_FnIndexes.j0 (k + 1) y0 y1 y2 y3 y4 y5)) ∧ (∀ y0 y1 y2 y3 y4 y5, LeO (laws_FnIndexes.l0 k y0 y1 y2 y3 y4 y5) (laws_FnIndexes.l0 (k + 1) y0 y1 y2 y3 y4 y5)) ∧ (∀ y0 y1, LeO (laws_FnIndexes.j2 k y0 y1) (laws_FnIndexes.j2 (k + 1) y0 y1)) ∧ (∀ y0 y1 y2 y3 y4, LeO (laws_FnIndexes.j3 k y0 y1 y2 y3 y4) (laws_FnIndexes.j3 (k + 1) y0 y1 y2 y3 y4)) ∧ (∀ y0 y1 y2 y3 y4 y5, LeO (laws_FnIndexes.l1 k y0 y1 y2 y3 y4 y5) (laws_FnIndexes.l1 (k + 1) y0 y1 y2 y3 y4 y5))
 | 0 => ⟨fun _ _ _ _ _ _ r h => by simp [laws_FnIndexes.j0] at h, fun _ _ _ _ _ _ r h => by simp [laws_FnIndexes.l0] at h, fun _ _ r h => by simp [laws_FnIndexes.j2] at h, fun _ _ _ _ _ r h => by simp [laws_FnIndexes.j3] at h, fun _ _ _ _ _ _ r h => by simp [laws_FnIndexes.l1] at h⟩
 | k + 1 => by
  obtain ⟨ih0, ih1, ih2, ih3, ih4⟩ := laws_FnIndexes.mono_l k
  refine ⟨?_, ?_, ?_, ?_, ?_⟩
  ·intro y0 y1 y2 y3 y4 y5
   unfold laws_FnIndexes.j0
   repeat' first
   | (with_reducible exact ih0 _ _ _ _ _ _)
   | (with_reducible exact ih1 _ _ _ _ _ _)
   | (with_reducible exact ih2 _ _)
   | (with_reducible exact ih3 _ _ _ _ _)
   | (with_reducible exact ih4 _ _ _ _ _ _)
   | (with_reducible exact impl_IsIndex.mono _ _)
   | (with_reducible exact impl_MarkIndex.mono _ _ _ _)
   | (with_reducible exact impl_NodesFor.mono _ _ _ _)
   | (with_reducible exact impl_ScanIsFresh.mono _ _ _ _ _)
   | (with_reducible exact impl_SplitNode.mono _ _ _)
   | (with_reducible exact spec_DrawScanIsFresh.mono _ _)
   | (with_reducible exact spec_DrawSplitNode.mono _ _)
   | (with_reducible exact spec_IsIndex.mono _ _)
   | (with_reducible exact spec_NodesFor.mono _ _ _ _)
   | (with_reducible exact spec_ScanIsFresh.mono _ _ _ _ _)
   | (with_reducible exact spec_SplitNode.mono _ _ _)
   | (with_reducible exact LeO.refl _)
   | (with_reducible exact LeO.none _)
   | (with_reducible refine LeO.ite ?_ ?_)
   | (with_reducible refine LeO.bind ?_ (fun _ => ?_))
   | exact ih0 _ _ _ _ _ _
   | exact ih1 _ _ _ _ _ _
   | exact ih2 _ _
   | exact ih3 _ _ _ _ _
   | exact ih4 _ _ _ _ _ _
   | exact impl_IsIndex.mono _ _
   | exact impl_MarkIndex.mono _ _ _ _
   | exact impl_NodesFor.mono _ _ _ _
   | exact impl_ScanIsFresh.mono _ _ _ _ _
   | exact impl_SplitNode.mono _ _ _
   | exact spec_DrawScanIsFresh.mono _ _
   | exact spec_DrawSplitNode.mono _ _
   | exact spec_IsIndex.mono _ _
   | exact spec_NodesFor.mono _ _ _ _
   | exact spec_ScanIsFresh.mono _ _ _ _ _
   | exact spec_SplitNode.mono _ _ _
   | exact LeO.none _
   | refine LeO.ite ?_ ?_
   | refine LeO.bind ?_ (fun _ => ?_)
  ·intro y0 y1 y2 y3 y4 y5
   unfold laws_FnIndexes.l0
   repeat' first
   | (with_reducible exact ih0 _ _ _ _ _ _)
   | (with_reducible exact ih1 _ _ _ _ _ _)
   | (with_reducible exact ih2 _ _)
   | (with_reducible exact ih3 _ _ _ _ _)
   | (with_reducible exact ih4 _ _ _ _ _ _)
   | (with_reducible exact impl_IsIndex.mono _ _)
   | (with_reducible exact impl_MarkIndex.mono _ _ _ _)
   | (with_reducible exact impl_NodesFor.mono _ _ _ _)
   | (with_reducible exact impl_ScanIsFresh.mono _ _ _ _ _)
   | (with_reducible exact impl_SplitNode.mono _ _ _)
   | (with_reducible exact spec_DrawScanIsFresh.mono _ _)
   | (with_reducible exact spec_DrawSplitNode.mono _ _)
   | (with_reducible exact spec_IsIndex.mono _ _)
   | (with_reducible exact spec_NodesFor.mono _ _ _ _)
   | (with_reducible exact spec_ScanIsFresh.mono _ _ _ _ _)
   | (with_reducible exact spec_SplitNode.mono _ _ _)
   | (with_reducible exact LeO.refl _)
   | (with_reducible exact LeO.none _)
   | (with_reducible refine LeO.ite ?_ ?_)
   | (with_reducible refine LeO.bind ?_ (fun _ => ?_))
   | exact ih0 _ _ _ _ _ _
   | exact ih1 _ _ _ _ _ _
   | exact ih2 _ _
   | exact ih3 _ _ _ _ _
   | exact ih4 _ _ _ _ _ _
   | exact impl_IsIndex.mono _ _
   | exact impl_MarkIndex.mono _ _ _ _
   | exact impl_NodesFor.mono _ _ _ _
   | exact impl_ScanIsFresh.mono _ _ _ _ _
   | exact impl_SplitNode.mono _ _ _
   | exact spec_DrawScanIsFresh.mono _ _
   | exact spec_DrawSplitNode.mono _ _
   | exact spec_IsIndex.mono _ _
   | exact spec_NodesFor.mono _ _ _ _
   | exact spec_ScanIsFresh.mono _ _ _ _ _
   | exact spec_SplitNode.mono _ _ _
   | exact LeO.none _
   | refine LeO.ite ?_ ?_
   | refine LeO.bind ?_ (fun _ => ?_)
  ·intro y0 y1
   unfold laws_FnIndexes.j2
   repeat' first
   | (with_reducible exact ih0 _ _ _ _ _ _)
   | (with_reducible exact ih1 _ _ _ _ _ _)
   | (with_reducible exact ih2 _ _)
   | (with_reducible exact ih3 _ _ _ _ _)
   | (with_reducible exact ih4 _ _ _ _ _ _)
   | (with_reducible exact impl_IsIndex.mono _ _)
   | (with_reducible exact impl_MarkIndex.mono _ _ _ _)
   | (with_reducible exact impl_NodesFor.mono _ _ _ _)
   | (with_reducible exact impl_ScanIsFresh.mono _ _ _ _ _)
   | (with_reducible exact impl_SplitNode.mono _ _ _)
   | (with_reducible exact spec_DrawScanIsFresh.mono _ _)
   | (with_reducible exact spec_DrawSplitNode.mono _ _)
   | (with_reducible exact spec_IsIndex.mono _ _)
   | (with_reducible exact spec_NodesFor.mono _ _ _ _)
   | (with_reducible exact spec_ScanIsFresh.mono _ _ _ _ _)
   | (with_reducible exact spec_SplitNode.mono _ _ _)
   | (with_reducible exact LeO.refl _)
   | (with_reducible exact LeO.none _)
   | (with_reducible refine LeO.ite ?_ ?_)
   | (with_reducible refine LeO.bind ?_ (fun _ => ?_))
   | exact ih0 _ _ _ _ _ _
   | exact ih1 _ _ _ _ _ _
   | exact ih2 _ _
   | exact ih3 _ _ _ _ _
   | exact ih4 _ _ _ _ _ _
   | exact impl_IsIndex.mono _ _
   | exact impl_MarkIndex.mono _ _ _ _
   | exact impl_NodesFor.mono _ _ _ _
   | exact impl_ScanIsFresh.mono _ _ _ _ _
   | exact impl_SplitNode.mono _ _ _
   | exact spec_DrawScanIsFresh.mono _ _
   | exact spec_DrawSplitNode.mono _ _
   | exact spec_IsIndex.mono _ _
   | exact spec_NodesFor.mono _ _ _ _
   | exact spec_ScanIsFresh.mono _ _ _ _ _
   | exact spec_SplitNode.mono _ _ _
   | exact LeO.none _
   | refine LeO.ite ?_ ?_
   | refine LeO.bind ?_ (fun _ => ?_)
  ·intro y0 y1 y2 y3 y4
   unfold laws_FnIndexes.j3
   repeat' first
   | (with_reducible exact ih0 _ _ _ _ _ _)
   | (with_reducible exact ih1 _ _ _ _ _ _)
   | (with_reducible exact ih2 _ _)
   | (with_reducible exact ih3 _ _ _ _ _)
   | (with_reducible exact ih4 _ _ _ _ _ _)
   | (with_reducible exact impl_IsIndex.mono _ _)
   | (with_reducible exact impl_MarkIndex.mono _ _ _ _)
   | (with_reducible exact impl_NodesFor.mono _ _ _ _)
   | (with_reducible exact impl_ScanIsFresh.mono _ _ _ _ _)
   | (with_reducible exact impl_SplitNode.mono _ _ _)
   | (with_reducible exact spec_DrawScanIsFresh.mono _ _)
   | (with_reducible exact spec_DrawSplitNode.mono _ _)
   | (with_reducible exact spec_IsIndex.mono _ _)
   | (with_reducible exact spec_NodesFor.mono _ _ _ _)
   | (with_reducible exact spec_ScanIsFresh.mono _ _ _ _ _)
   | (with_reducible exact spec_SplitNode.mono _ _ _)
   | (with_reducible exact LeO.refl _)
   | (with_reducible exact LeO.none _)
   | (with_reducible refine LeO.ite ?_ ?_)
   | (with_reducible refine LeO.bind ?_ (fun _ => ?_))
   | exact ih0 _ _ _ _ _ _
   | exact ih1 _ _ _ _ _ _
   | exact ih2 _ _
   | exact ih3 _ _ _ _ _
   | exact ih4 _ _ _ _ _ _
   | exact impl_IsIndex.mono _ _
   | exact impl_MarkIndex.mono _ _ _ _
   | exact impl_NodesFor.mono _ _ _ _
   | exact impl_ScanIsFresh.mono _ _ _ _ _
   | exact impl_SplitNode.mono _ _ _
   | exact spec_DrawScanIsFresh.mono _ _
   | exact spec_DrawSplitNode.mono _ _
   | exact spec_IsIndex.mono _ _
   | exact spec_NodesFor.mono _ _ _ _
   | exact spec_ScanIsFresh.mono _ _ _ _ _
   | exact spec_SplitNode.mono _ _ _
   | exact LeO.none _
   | refine LeO.ite ?_ ?_
   | refine LeO.bind ?_ (fun _ => ?_)
  ·intro y0 y1 y2 y3 y4 y5
   unfold laws_FnIndexes.l1
   repeat' first
   | (with_reducible exact ih0 _ _ _ _ _ _)
   | (with_reducible exact ih1 _ _ _ _ _ _)
   | (with_reducible exact ih2 _ _)
   | (with_reducible exact ih3 _ _ _ _ _)
   | (with_reducible exact ih4 _ _ _ _ _ _)
   | (with_reducible exact impl_IsIndex.mono _ _)
   | (with_reducible exact impl_MarkIndex.mono _ _ _ _)
   | (with_reducible exact impl_NodesFor.mono _ _ _ _)
   | (with_reducible exact impl_ScanIsFresh.mono _ _ _ _ _)
   | (with_reducible exact impl_SplitNode.mono _ _ _)
   | (with_reducible exact spec_DrawScanIsFresh.mono _ _)
   | (with_reducible exact spec_DrawSplitNode.mono _ _)
   | (with_reducible exact spec_IsIndex.mono _ _)
   | (with_reducible exact spec_NodesFor.mono _ _ _ _)
   | (with_reducible exact spec_ScanIsFresh.mono _ _ _ _ _)
   | (with_reducible exact spec_SplitNode.mono _ _ _)
   | (with_reducible exact LeO.refl _)
   | (with_reducible exact LeO.none _)
   | (with_reducible refine LeO.ite ?_ ?_)
   | (with_reducible refine LeO.bind ?_ (fun _ => ?_))
   | exact ih0 _ _ _ _ _ _
   | exact ih1 _ _ _ _ _ _
   | exact ih2 _ _
   | exact ih3 _ _ _ _ _
   | exact ih4 _ _ _ _ _ _
   | exact impl_IsIndex.mono _ _
   | exact impl_MarkIndex.mono _ _ _ _
   | exact impl_NodesFor.mono _ _ _ _
   | exact impl_ScanIsFresh.mono _ _ _ _ _
   | exact impl_SplitNode.mono _ _ _
   | exact spec_DrawScanIsFresh.mono _ _
   | exact spec_DrawSplitNode.mono _ _
   | exact spec_IsIndex.mono _ _
   | exact spec_NodesFor.mono _ _ _ _
   | exact spec_ScanIsFresh.mono _ _ _ _ _
   | exact spec_SplitNode.mono _ _ _
   | exact LeO.none _
   | refine LeO.ite ?_ ?_
   | refine LeO.bind ?_ (fun _ => ?_)
theorem laws_FnIndexes.mono : ∀ a0 k, LeO (laws_FnIndexes.f k a0) (laws_FnIndexes.f (k + 1) a0) := by
 intro a0 k
 obtain ⟨ih0, ih1, ih2, ih3, ih4⟩ := laws_FnIndexes.mono_l k
 unfold laws_FnIndexes.f
 repeat' first
   | (with_reducible exact ih0 _ _ _ _ _ _)
   | (with_reducible exact ih1 _ _ _ _ _ _)
   | (with_reducible exact ih2 _ _)
   | (with_reducible exact ih3 _ _ _ _ _)
   | (with_reducible exact ih4 _ _ _ _ _ _)
   | (with_reducible exact impl_IsIndex.mono _ _)
   | (with_reducible exact impl_MarkIndex.mono _ _ _ _)
   | (with_reducible exact impl_NodesFor.mono _ _ _ _)
   | (with_reducible exact impl_ScanIsFresh.mono _ _ _ _ _)
   | (with_reducible exact impl_SplitNode.mono _ _ _)
   | (with_reducible exact spec_DrawScanIsFresh.mono _ _)
   | (with_reducible exact spec_DrawSplitNode.mono _ _)
   | (with_reducible exact spec_IsIndex.mono _ _)
   | (with_reducible exact spec_NodesFor.mono _ _ _ _)
   | (with_reducible exact spec_ScanIsFresh.mono _ _ _ _ _)
   | (with_reducible exact spec_SplitNode.mono _ _ _)
   | (with_reducible exact LeO.refl _)
   | (with_reducible exact LeO.none _)
   | (with_reducible refine LeO.ite ?_ ?_)
   | (with_reducible refine LeO.bind ?_ (fun _ => ?_))
   | exact ih0 _ _ _ _ _ _
   | exact ih1 _ _ _ _ _ _
   | exact ih2 _ _
   | exact ih3 _ _ _ _ _
   | exact ih4 _ _ _ _ _ _
   | exact impl_IsIndex.mono _ _
   | exact impl_MarkIndex.mono _ _ _ _
   | exact impl_NodesFor.mono _ _ _ _
   | exact impl_ScanIsFresh.mono _ _ _ _ _
   | exact impl_SplitNode.mono _ _ _
   | exact spec_DrawScanIsFresh.mono _ _
   | exact spec_DrawSplitNode.mono _ _
   | exact spec_IsIndex.mono _ _
   | exact spec_NodesFor.mono _ _ _ _
   | exact spec_ScanIsFresh.mono _ _ _ _ _
   | exact spec_SplitNode.mono _ _ _
   | exact LeO.none _
   | refine LeO.ite ?_ ?_
   | refine LeO.bind ?_ (fun _ => ?_)
set_option maxHeartbeats 8000000 in
set_option maxRecDepth 100000 in
theorem laws_FnIndexes.calls (k : Nat) (A0 : Option Addr) (c0 : Nat) (l0 : List Int) (r : Bool) (w : World) (hr0 : Kd.C (Kd.int .u8) w A0 l0.length l0) (hc0 : l0.length ≤ c0) (h : laws_FnIndexes.f k l0 = some r) :
  Calls Try.prog 14 #[.slice A0 l0.length c0] w fun e w' => e = .returned (.bool r) ∧ Below w.heap.size w w' := by
 have hu77 := Try.underlying77
 have HR0 := AM_ hr0
 have HC0 := AM_ hc0
 clear hr0 hc0
 have HB := AM_ (Below.refl w.heap.size w)
 have H : ((laws_big.f l0).bind fun t364 => (if t364 = true then (some true) else ((spec_DrawSplitNode.f k l0).bind fun bt365 => ((impl_SplitNode.f k bt365.1 bt365.2).bind fun bt369 => ((spec_SplitNode.f k bt365.1 bt365.2).bind fun bt373 => (if (bt369.2 != bt373.2) = true then (laws_FnIndexes.j0 k l0 bt365.1 bt369.1 bt369.2 bt373.1 true) else (if (bt369.1.length : Int) = (bt373.1.length : Int) then ((impl_IsIndex.f k bt365.1).bind fun t377 => ((spec_IsIndex.f k bt365.1).bind fun t378 => (laws_FnIndexes.j0 k l0 bt365.1 bt369.1 bt369.2 bt373.1 (t377 != t378)))) else (laws_FnIndexes.j0 k l0 bt365.1 bt369.1 bt369.2 bt373.1 true)))))))) = some r := h
 clear h
 replace H := Option.bind_eq_some_iff.mp H
 obtain ⟨t364, A20, H⟩ := H
 replace H : (if t364 = true then (some true) else ((spec_DrawSplitNode.f k l0).bind fun bt365 => ((impl_SplitNode.f k bt365.1 bt365.2).bind fun bt369 => ((spec_SplitNode.f k bt365.1 bt365.2).bind fun bt373 => (if (bt369.2 != bt373.2) = true then (laws_FnIndexes.j0 k l0 bt365.1 bt369.1 bt369.2 bt373.1 true) else (if (bt369.1.length : Int) = (bt373.1.length : Int) then ((impl_IsIndex.f k bt365.1).bind fun t377 => ((spec_IsIndex.f k bt365.1).bind fun t378 => (laws_FnIndexes.j0 k l0 bt365.1 bt369.1 bt369.2 bt373.1 (t377 != t378)))) else (laws_FnIndexes.j0 k l0 bt365.1 bt369.1 bt369.2 bt373.1 true))))))) = some r := H
 have A2 := AM_ A20
 clear A20
 by_cases c3 : t364 = true
 ·subst c3
  have H1 : (some true) = some r := by rw [if_pos rfl] at H; exact H
  clear H
  have H := H1
  clear H1
  obtain rfl := Option.some.inj H
  go_enter Try.func14, Try.ntmps14
  go_wp2_with (first | (go_at_call 37; (with_reducible refine (laws_big.calls _ _ l0 true _ ?side1 ?side2 A2.out).mono ?_); (case side1 => repeat (first | exact HR0.out | (with_reducible refine Kd.C_alloc ?_ _) | (with_reducible refine Kd.C_drewN ?_ _) | (with_reducible refine Kd.C_drew ?_))); (case side2 => exact HC0.out); rintro e w' ⟨rfl, ⟨nd, rfl⟩⟩; (try first | exact ⟨rfl, _, World.drewN_drewN _ _ _⟩ | exact ⟨rfl, _, Eq.trans (World.drewN_drewN _ _ _) (congrArg (World.drewN _) (Nat.add_assoc _ _ _))⟩)))
  repeat (go_quiet (first | (go_at_call 37; (with_reducible refine (laws_big.calls _ _ l0 true _ ?side1 ?side2 A2.out).mono ?_); (case side1 => repeat (first | exact HR0.out | (with_reducible refine Kd.C_alloc ?_ _) | (with_reducible refine Kd.C_drewN ?_ _) | (with_reducible refine Kd.C_drew ?_))); (case side2 => exact HC0.out); rintro e w' ⟨rfl, ⟨nd, rfl⟩⟩; (try first | exact ⟨rfl, _, World.drewN_drewN _ _ _⟩ | exact ⟨rfl, _, Eq.trans (World.drewN_drewN _ _ _) (congrArg (World.drewN _) (Nat.add_assoc _ _ _))⟩))); try go_wp2_with (first | (go_at_call 37; (with_reducible refine (laws_big.calls _ _ l0 true _ ?side1 ?side2 A2.out).mono ?_); (case side1 => repeat (first | exact HR0.out | (with_reducible refine Kd.C_alloc ?_ _) | (with_reducible refine Kd.C_drewN ?_ _) | (with_reducible refine Kd.C_drew ?_))); (case side2 => exact HC0.out); rintro e w' ⟨rfl, ⟨nd, rfl⟩⟩; (try first | exact ⟨rfl, _, World.drewN_drewN _ _ _⟩ | exact ⟨rfl, _, Eq.trans (World.drewN_drewN _ _ _) (congrArg (World.drewN _) (Nat.add_assoc _ _ _))⟩))))
  go_ret
  exact ⟨by first | rfl | (simp [errW_none, errW_some] <;> rfl) | (simp [*, errW_none, errW_some] <;> rfl), by exact BL HB.out rfl rfl rfl rfl⟩
 ·replace c3 := Bool.eq_false_iff.mpr c3
  subst c3
  have H1 : ((spec_DrawSplitNode.f k l0).bind fun bt365 => ((impl_SplitNode.f k bt365.1 bt365.2).bind fun bt369 => ((spec_SplitNode.f k bt365.1 bt365.2).bind fun bt373 => (if (bt369.2 != bt373.2) = true then (laws_FnIndexes.j0 k l0 bt365.1 bt369.1 bt369.2 bt373.1 true) else (if (bt369.1.length : Int) = (bt373.1.length : Int) then ((impl_IsIndex.f k bt365.1).bind fun t377 => ((spec_IsIndex.f k bt365.1).bind fun t378 => (laws_FnIndexes.j0 k l0 bt365.1 bt369.1 bt369.2 bt373.1 (t377 != t378)))) else (laws_FnIndexes.j0 k l0 bt365.1 bt369.1 bt369.2 bt373.1 true)))))) = some r := by rw [if_neg (show ¬ (false = true) by decide)] at H; exact H
  clear H
  have H := H1
  clear H1
  replace H := Option.bind_eq_some_iff.mp H
  obtain ⟨⟨t365, t366⟩, A40, H⟩ := H
  replace H : ((impl_SplitNode.f k t365 t366).bind fun bt369 => ((spec_SplitNode.f k t365 t366).bind fun bt373 => (if (bt369.2 != bt373.2) = true then (laws_FnIndexes.j0 k l0 t365 bt369.1 bt369.2 bt373.1 true) else (if (bt369.1.length : Int) = (bt373.1.length : Int) then ((impl_IsIndex.f k t365).bind fun t377 => ((spec_IsIndex.f k t365).bind fun t378 => (laws_FnIndexes.j0 k l0 t365 bt369.1 bt369.2 bt373.1 (t377 != t378)))) else (laws_FnIndexes.j0 k l0 t365 bt369.1 bt369.2 bt373.1 true))))) = some r := H
  have A4 := AM_ A40
  clear A40
  replace H := Option.bind_eq_some_iff.mp H
  obtain ⟨⟨t369, t370⟩, A50, H⟩ := H
  replace H : ((spec_SplitNode.f k t365 t366).bind fun bt373 => (if (t370 != bt373.2) = true then (laws_FnIndexes.j0 k l0 t365 t369 t370 bt373.1 true) else (if (t369.length : Int) = (bt373.1.length : Int) then ((impl_IsIndex.f k t365).bind fun t377 => ((spec_IsIndex.f k t365).bind fun t378 => (laws_FnIndexes.j0 k l0 t365 t369 t370 bt373.1 (t377 != t378)))) else (laws_FnIndexes.j0 k l0 t365 t369 t370 bt373.1 true)))) = some r := H
  have A5 := AM_ A50
  clear A50
  replace H := Option.bind_eq_some_iff.mp H
  obtain ⟨⟨t373, t374⟩, A60, H⟩ := H
  replace H : (if (t370 != t374) = true then (laws_FnIndexes.j0 k l0 t365 t369 t370 t373 true) else (if (t369.length : Int) = (t373.length : Int) then ((impl_IsIndex.f k t365).bind fun t377 => ((spec_IsIndex.f k t365).bind fun t378 => (laws_FnIndexes.j0 k l0 t365 t369 t370 t373 (t377 != t378)))) else (laws_FnIndexes.j0 k l0 t365 t369 t370 t373 true))) = some r := H
  have A6 := AM_ A60
  clear A60
  have HC7 := AM_ H
  clear H
  go_enter Try.func14, Try.ntmps14
  go_upto_region 6 with (first | (go_at_call 37; (with_reducible refine (laws_big.calls _ _ l0 false _ ?side1 ?side2 A2.out).mono ?_); (case side1 => repeat (first | exact HR0.out | (with_reducible refine Kd.C_alloc ?_ _) | (with_reducible refine Kd.C_drewN ?_ _) | (with_reducible refine Kd.C_drew ?_))); (case side2 => exact HC0.out); rintro e w' ⟨rfl, ⟨nd, rfl⟩⟩; (try first | exact ⟨rfl, _, World.drewN_drewN _ _ _⟩ | exact ⟨rfl, _, Eq.trans (World.drewN_drewN _ _ _) (congrArg (World.drewN _) (Nat.add_assoc _ _ _))⟩)) | (go_at_call 80; (with_reducible refine (spec_DrawSplitNode.calls k _ _ l0 t365 t366 _ ?side1 ?side2 A4.out).mono ?_); (case side1 => repeat (first | exact HR0.out | (with_reducible refine Kd.C_alloc ?_ _) | (with_reducible refine Kd.C_drewN ?_ _) | (with_reducible refine Kd.C_drew ?_))); (case side2 => exact HC0.out); rintro e w8 ⟨v367, rfl, ho0, hb⟩; have n0_ := AM_ (Kd.Q_lower ho0 (below_size (by exact BL HB.out rfl rfl rfl rfl))); have n1_ := AM_ (below_step (by exact BL HB.out rfl rfl rfl rfl) hb); clear HB; have HO368 := n0_; have HB := n1_; clear n0_ n1_; (try clear hb); (try clear hb2); (try clear hk); (try clear hi); (try clear ho0); obtain ⟨Ao9, co9, eo9, _⟩ := Kd.Q_slice HO368.out; subst eo9) | (go_at_call 81; (with_reducible refine (impl_SplitNode.calls k _ _ t365 t366 t369 t370 _ ?side1 ?side2 A5.out).mono ?_); (case side1 => exact Kd.C_below (Kd.Q_reads' HO368.out).2.2 (BL (Below.refl _ _) rfl rfl rfl rfl)); (case side2 => exact (Kd.Q_reads' HO368.out).2.1); rintro e w10 ⟨v371, rfl, ho0, hb⟩; have n0_ := AM_ (Kd.Q_elder' (by (with_reducible repeat (first | apply Kd.Q_alloc | apply Kd.Q_drewN | apply Kd.Q_drew)); exact HO368.out) (Kd.R_base ho0) hb); have n1_ := AM_ (Kd.R_lower (Kd.R_new' ho0 (Kd.Q_lt (by (with_reducible repeat (first | apply Kd.Q_alloc | apply Kd.Q_drewN | apply Kd.Q_drew)); exact HO368.out))) (below_size (by exact BL HB.out rfl rfl rfl rfl))); have n2_ := AM_ (below_step (by exact BL HB.out rfl rfl rfl rfl) hb); clear HO368; clear HB; have HO368 := n0_; have HO372 := n1_; have HB := n2_; clear n0_ n1_ n2_; (try clear hb); (try clear hb2); (try clear hk); (try clear hi); (try clear ho0)) | (go_at_call 82; (with_reducible refine (spec_SplitNode.calls k _ _ t365 t366 t373 t374 _ ?side1 ?side2 A6.out).mono ?_); (case side1 => exact Kd.C_below (Kd.Q_reads' HO368.out).2.2 (BL (Below.refl _ _) rfl rfl rfl rfl)); (case side2 => exact (Kd.Q_reads' HO368.out).2.1); rintro e w11 ⟨v375, rfl, ho0, hb⟩; have n0_ := AM_ (Kd.Q_elder' (by (with_reducible repeat (first | apply Kd.Q_alloc | apply Kd.Q_drewN | apply Kd.Q_drew)); exact HO368.out) (Kd.R_base ho0) hb); have n1_ := AM_ (Kd.R_elder' (by exact RL HO372.out rfl) (Kd.R_base ho0) hb); have n2_ := AM_ (Kd.R_lower (Kd.R_new' (Kd.R_new' ho0 (Kd.Q_lt (by (with_reducible repeat (first | apply Kd.Q_alloc | apply Kd.Q_drewN | apply Kd.Q_drew)); exact HO368.out))) (Kd.R_lt (by exact RL HO372.out rfl))) (below_size (by exact BL HB.out rfl rfl rfl rfl))); have n3_ := AM_ (below_step (by exact BL HB.out rfl rfl rfl rfl) hb); clear HO368; clear HO372; clear HB; have HO368 := n0_; have HO372 := n1_; have HO376 := n2_; have HB := n3_; clear n0_ n1_ n2_ n3_; (try clear hb); (try clear hb2); (try clear hk); (try clear hi); (try clear ho0)))
  repeat (go_quiet (first | (go_at_call 37; (with_reducible refine (laws_big.calls _ _ l0 false _ ?side1 ?side2 A2.out).mono ?_); (case side1 => repeat (first | exact HR0.out | (with_reducible refine Kd.C_alloc ?_ _) | (with_reducible refine Kd.C_drewN ?_ _) | (with_reducible refine Kd.C_drew ?_))); (case side2 => exact HC0.out); rintro e w' ⟨rfl, ⟨nd, rfl⟩⟩; (try first | exact ⟨rfl, _, World.drewN_drewN _ _ _⟩ | exact ⟨rfl, _, Eq.trans (World.drewN_drewN _ _ _) (congrArg (World.drewN _) (Nat.add_assoc _ _ _))⟩)) | (go_at_call 80; (with_reducible refine (spec_DrawSplitNode.calls k _ _ l0 t365 t366 _ ?side1 ?side2 A4.out).mono ?_); (case side1 => repeat (first | exact HR0.out | (with_reducible refine Kd.C_alloc ?_ _) | (with_reducible refine Kd.C_drewN ?_ _) | (with_reducible refine Kd.C_drew ?_))); (case side2 => exact HC0.out); rintro e w8 ⟨v367, rfl, ho0, hb⟩; have n0_ := AM_ (Kd.Q_lower ho0 (below_size (by exact BL HB.out rfl rfl rfl rfl))); have n1_ := AM_ (below_step (by exact BL HB.out rfl rfl rfl rfl) hb); clear HB; have HO368 := n0_; have HB := n1_; clear n0_ n1_; (try clear hb); (try clear hb2); (try clear hk); (try clear hi); (try clear ho0); obtain ⟨Ao9, co9, eo9, _⟩ := Kd.Q_slice HO368.out; subst eo9) | (go_at_call 81; (with_reducible refine (impl_SplitNode.calls k _ _ t365 t366 t369 t370 _ ?side1 ?side2 A5.out).mono ?_); (case side1 => exact Kd.C_below (Kd.Q_reads' HO368.out).2.2 (BL (Below.refl _ _) rfl rfl rfl rfl)); (case side2 => exact (Kd.Q_reads' HO368.out).2.1); rintro e w10 ⟨v371, rfl, ho0, hb⟩; have n0_ := AM_ (Kd.Q_elder' (by (with_reducible repeat (first | apply Kd.Q_alloc | apply Kd.Q_drewN | apply Kd.Q_drew)); exact HO368.out) (Kd.R_base ho0) hb); have n1_ := AM_ (Kd.R_lower (Kd.R_new' ho0 (Kd.Q_lt (by (with_reducible repeat (first | apply Kd.Q_alloc | apply Kd.Q_drewN | apply Kd.Q_drew)); exact HO368.out))) (below_size (by exact BL HB.out rfl rfl rfl rfl))); have n2_ := AM_ (below_step (by exact BL HB.out rfl rfl rfl rfl) hb); clear HO368; clear HB; have HO368 := n0_; have HO372 := n1_; have HB := n2_; clear n0_ n1_ n2_; (try clear hb); (try clear hb2); (try clear hk); (try clear hi); (try clear ho0)) | (go_at_call 82; (with_reducible refine (spec_SplitNode.calls k _ _ t365 t366 t373 t374 _ ?side1 ?side2 A6.out).mono ?_); (case side1 => exact Kd.C_below (Kd.Q_reads' HO368.out).2.2 (BL (Below.refl _ _) rfl rfl rfl rfl)); (case side2 => exact (Kd.Q_reads' HO368.out).2.1); rintro e w11 ⟨v375, rfl, ho0, hb⟩; have n0_ := AM_ (Kd.Q_elder' (by (with_reducible repeat (first | apply Kd.Q_alloc | apply Kd.Q_drewN | apply Kd.Q_drew)); exact HO368.out) (Kd.R_base ho0) hb); have n1_ := AM_ (Kd.R_elder' (by exact RL HO372.out rfl) (Kd.R_base ho0) hb); have n2_ := AM_ (Kd.R_lower (Kd.R_new' (Kd.R_new' ho0 (Kd.Q_lt (by (with_reducible repeat (first | apply Kd.Q_alloc | apply Kd.Q_drewN | apply Kd.Q_drew)); exact HO368.out))) (Kd.R_lt (by exact RL HO372.out rfl))) (below_size (by exact BL HB.out rfl rfl rfl rfl))); have n3_ := AM_ (below_step (by exact BL HB.out rfl rfl rfl rfl) hb); clear HO368; clear HO372; clear HB; have HO368 := n0_; have HO372 := n1_; have HO376 := n2_; have HB := n3_; clear n0_ n1_ n2_ n3_; (try clear hb); (try clear hb2); (try clear hk); (try clear hi); (try clear ho0))); go_upto_region 6 with (first | (go_at_call 37; (with_reducible refine (laws_big.calls _ _ l0 false _ ?side1 ?side2 A2.out).mono ?_); (case side1 => repeat (first | exact HR0.out | (with_reducible refine Kd.C_alloc ?_ _) | (with_reducible refine Kd.C_drewN ?_ _) | (with_reducible refine Kd.C_drew ?_))); (case side2 => exact HC0.out); rintro e w' ⟨rfl, ⟨nd, rfl⟩⟩; (try first | exact ⟨rfl, _, World.drewN_drewN _ _ _⟩ | exact ⟨rfl, _, Eq.trans (World.drewN_drewN _ _ _) (congrArg (World.drewN _) (Nat.add_assoc _ _ _))⟩)) | (go_at_call 80; (with_reducible refine (spec_DrawSplitNode.calls k _ _ l0 t365 t366 _ ?side1 ?side2 A4.out).mono ?_); (case side1 => repeat (first | exact HR0.out | (with_reducible refine Kd.C_alloc ?_ _) | (with_reducible refine Kd.C_drewN ?_ _) | (with_reducible refine Kd.C_drew ?_))); (case side2 => exact HC0.out); rintro e w8 ⟨v367, rfl, ho0, hb⟩; have n0_ := AM_ (Kd.Q_lower ho0 (below_size (by exact BL HB.out rfl rfl rfl rfl))); have n1_ := AM_ (below_step (by exact BL HB.out rfl rfl rfl rfl) hb); clear HB; have HO368 := n0_; have HB := n1_; clear n0_ n1_; (try clear hb); (try clear hb2); (try clear hk); (try clear hi); (try clear ho0); obtain ⟨Ao9, co9, eo9, _⟩ := Kd.Q_slice HO368.out; subst eo9) | (go_at_call 81; (with_reducible refine (impl_SplitNode.calls k _ _ t365 t366 t369 t370 _ ?side1 ?side2 A5.out).mono ?_); (case side1 => exact Kd.C_below (Kd.Q_reads' HO368.out).2.2 (BL (Below.refl _ _) rfl rfl rfl rfl)); (case side2 => exact (Kd.Q_reads' HO368.out).2.1); rintro e w10 ⟨v371, rfl, ho0, hb⟩; have n0_ := AM_ (Kd.Q_elder' (by (with_reducible repeat (first | apply Kd.Q_alloc | apply Kd.Q_drewN | apply Kd.Q_drew)); exact HO368.out) (Kd.R_base ho0) hb); have n1_ := AM_ (Kd.R_lower (Kd.R_new' ho0 (Kd.Q_lt (by (with_reducible repeat (first | apply Kd.Q_alloc | apply Kd.Q_drewN | apply Kd.Q_drew)); exact HO368.out))) (below_size (by exact BL HB.out rfl rfl rfl rfl))); have n2_ := AM_ (below_step (by exact BL HB.out rfl rfl rfl rfl) hb); clear HO368; clear HB; have HO368 := n0_; have HO372 := n1_; have HB := n2_; clear n0_ n1_ n2_; (try clear hb); (try clear hb2); (try clear hk); (try clear hi); (try clear ho0)) | (go_at_call 82; (with_reducible refine (spec_SplitNode.calls k _ _ t365 t366 t373 t374 _ ?side1 ?side2 A6.out).mono ?_); (case side1 => exact Kd.C_below (Kd.Q_reads' HO368.out).2.2 (BL (Below.refl _ _) rfl rfl rfl rfl)); (case side2 => exact (Kd.Q_reads' HO368.out).2.1); rintro e w11 ⟨v375, rfl, ho0, hb⟩; have n0_ := AM_ (Kd.Q_elder' (by (with_reducible repeat (first | apply Kd.Q_alloc | apply Kd.Q_drewN | apply Kd.Q_drew)); exact HO368.out) (Kd.R_base ho0) hb); have n1_ := AM_ (Kd.R_elder' (by exact RL HO372.out rfl) (Kd.R_base ho0) hb); have n2_ := AM_ (Kd.R_lower (Kd.R_new' (Kd.R_new' ho0 (Kd.Q_lt (by (with_reducible repeat (first | apply Kd.Q_alloc | apply Kd.Q_drewN | apply Kd.Q_drew)); exact HO368.out))) (Kd.R_lt (by exact RL HO372.out rfl))) (below_size (by exact BL HB.out rfl rfl rfl rfl))); have n3_ := AM_ (below_step (by exact BL HB.out rfl rfl rfl rfl) hb); clear HO368; clear HO372; clear HB; have HO368 := n0_; have HO372 := n1_; have HO376 := n2_; have HB := n3_; clear n0_ n1_ n2_ n3_; (try clear hb); (try clear hb2); (try clear hk); (try clear hi); (try clear ho0))))
  (try simp only [pA, pS, pZ, pK])
  go_cut [54] (fun v54 wc => ∃ (kq : Nat) (x54_6 : Bool), v54 = .bool x54_6 ∧ Aside0 (laws_FnIndexes.j0 kq l0 t365 t369 t370 t373 x54_6 = some r) ∧ Aside0 (kq ≤ k) ∧ Aside0 (Kd.Q k77 77 wc w.heap.size (fun k_ => some k_ ≠ (v371 : Value).ownBlock ∧ some k_ ≠ (v375 : Value).ownBlock) (.slice Ao9 t365.length co9) t365) ∧ Aside0 (Kd.R k77 77 wc w.heap.size (fun k_ => some k_ ≠ ((.slice Ao9 t365.length co9) : Value).ownBlock ∧ some k_ ≠ (v375 : Value).ownBlock) v371 t369) ∧ Aside0 (Kd.R k77 77 wc w.heap.size (fun k_ => some k_ ≠ ((.slice Ao9 t365.length co9) : Value).ownBlock ∧ some k_ ≠ (v371 : Value).ownBlock) v375 t373) ∧ Aside0 (Below w.heap.size w wc))
  case first =>
   have H := HC7.out
   clear HC7
   by_cases c12 : (t370 != t374) = true
   ·rw [if_pos c12] at H
    have c12b0 : (t370 != t374) = true := c12
    (try (have c12b1 : decide (t370 = t374) = false := by simpa using c12))
    (try (have c12b2 : (t370 == t374) = false := by simpa using c12))
    (try (have c12b3 : ¬ (t370 = t374) := by simpa using c12))
    clear c12
    (first | rw [c12b0] | (simp only [i64_w, i32_w]; rw [c12b0]) | skip)
    have H' := AM_ H
    clear H
    go_wp2
    repeat (go_quiet (fail); try go_wp2)
    go_meet
    case rel => exact ⟨_, (true), (by first | rfl | (simp; done) | (simp [*]; done)), H', ⟨by first | omega | exact Nat.le_refl _⟩, ⟨by (with_reducible repeat (first | apply Kd.Q_alloc | apply Kd.Q_drewN | apply Kd.Q_drew)); exact Kd.Q_mono HO368.out (fun _ hk => ⟨hk.1.2, hk.2⟩)⟩, ⟨by (with_reducible repeat (first | apply Kd.R_alloc | apply Kd.R_drewN | apply Kd.R_drew)); exact Kd.R_mono HO372.out (fun _ hk => ⟨hk.1.2, hk.2⟩)⟩, ⟨by (with_reducible repeat (first | apply Kd.R_alloc | apply Kd.R_drewN | apply Kd.R_drew)); exact Kd.R_mono HO376.out (fun _ hk => ⟨hk.1.2, hk.2⟩)⟩, ⟨by exact BL HB.out rfl rfl rfl rfl⟩⟩
   ·rw [if_neg c12] at H
    have c12b0 : (t370 != t374) = false := by simpa using c12
    (try (have c12b1 : decide (t370 = t374) = true := by simpa using c12))
    (try (have c12b2 : (t370 == t374) = true := by simpa using c12))
    clear c12
    (first | rw [c12b0] | (simp only [i64_w, i32_w]; rw [c12b0]) | skip)
    by_cases c13 : (t369.length : Int) = (t373.length : Int)
    ·rw [if_pos c13] at H
     have c13b0 : ((t369.length : Int) == (t373.length : Int)) = true := beq_iff_eq.mpr c13
     have c13b1 : ((t369.length : Int) != (t373.length : Int)) = false := bne_eq_false_iff_eq.mpr c13
     have c13b2 : (t369.length == t373.length) = true := by first | simpa using c13 | (simp at c13 ⊢; omega)
     clear c13
     replace H := Option.bind_eq_some_iff.mp H
     obtain ⟨t377, A140, H⟩ := H
     replace H : ((spec_IsIndex.f k t365).bind fun t378 => (laws_FnIndexes.j0 k l0 t365 t369 t370 t373 (t377 != t378))) = some r := H
     have A14 := AM_ A140
     clear A140
     replace H := Option.bind_eq_some_iff.mp H
     obtain ⟨t378, A150, H⟩ := H
     replace H : (laws_FnIndexes.j0 k l0 t365 t369 t370 t373 (t377 != t378)) = some r := H
     have A15 := AM_ A150
     clear A150
     have H' := AM_ H
     clear H
     obtain ⟨Ao16, co16, eo16⟩ := Kd.R_slice HO372.out
     subst eo16
     obtain ⟨Ao17, co17, eo17⟩ := Kd.R_slice HO376.out
     subst eo17
     go_wp2_with (first | (go_at_call 56; (with_reducible refine (impl_IsIndex.calls k _ _ t365 t377 _ ?side1 ?side2 A14.out).mono ?_); (case side1 => exact Kd.C_below (Kd.Q_reads' HO368.out).2.2 (BL (Below.refl _ _) rfl rfl rfl rfl)); (case side2 => exact (Kd.Q_reads' HO368.out).2.1); rintro e w18 ⟨rfl, hb⟩; have n0_ := AM_ (Kd.Q_below (by (with_reducible repeat (first | apply Kd.Q_alloc | apply Kd.Q_drewN | apply Kd.Q_drew)); exact HO368.out) hb); have n1_ := AM_ (Kd.R_below (by exact RL HO372.out rfl) hb); have n2_ := AM_ (Kd.R_below (by exact RL HO376.out rfl) hb); have n3_ := AM_ (below_step (by exact BL HB.out rfl rfl rfl rfl) hb); clear HO368; clear HO372; clear HO376; clear HB; have HO368 := n0_; have HO372 := n1_; have HO376 := n2_; have HB := n3_; clear n0_ n1_ n2_ n3_; (try clear hb); (try clear hb2); (try clear hk); (try clear hi)) | (go_at_call 83; (with_reducible refine (spec_IsIndex.calls k _ _ t365 t378 _ ?side1 ?side2 A15.out).mono ?_); (case side1 => exact Kd.C_below (Kd.Q_reads' HO368.out).2.2 (BL (Below.refl _ _) rfl rfl rfl rfl)); (case side2 => exact (Kd.Q_reads' HO368.out).2.1); rintro e w19 ⟨rfl, hb⟩; have n0_ := AM_ (Kd.Q_below (by (with_reducible repeat (first | apply Kd.Q_alloc | apply Kd.Q_drewN | apply Kd.Q_drew)); exact HO368.out) hb); have n1_ := AM_ (Kd.R_below (by exact RL HO372.out rfl) hb); have n2_ := AM_ (Kd.R_below (by exact RL HO376.out rfl) hb); have n3_ := AM_ (below_step (by exact BL HB.out rfl rfl rfl rfl) hb); clear HO368; clear HO372; clear HO376; clear HB; have HO368 := n0_; have HO372 := n1_; have HO376 := n2_; have HB := n3_; clear n0_ n1_ n2_ n3_; (try clear hb); (try clear hb2); (try clear hk); (try clear hi)))
     repeat (go_quiet (first | (go_at_call 56; (with_reducible refine (impl_IsIndex.calls k _ _ t365 t377 _ ?side1 ?side2 A14.out).mono ?_); (case side1 => exact Kd.C_below (Kd.Q_reads' HO368.out).2.2 (BL (Below.refl _ _) rfl rfl rfl rfl)); (case side2 => exact (Kd.Q_reads' HO368.out).2.1); rintro e w18 ⟨rfl, hb⟩; have n0_ := AM_ (Kd.Q_below (by (with_reducible repeat (first | apply Kd.Q_alloc | apply Kd.Q_drewN | apply Kd.Q_drew)); exact HO368.out) hb); have n1_ := AM_ (Kd.R_below (by exact RL HO372.out rfl) hb); have n2_ := AM_ (Kd.R_below (by exact RL HO376.out rfl) hb); have n3_ := AM_ (below_step (by exact BL HB.out rfl rfl rfl rfl) hb); clear HO368; clear HO372; clear HO376; clear HB; have HO368 := n0_; have HO372 := n1_; have HO376 := n2_; have HB := n3_; clear n0_ n1_ n2_ n3_; (try clear hb); (try clear hb2); (try clear hk); (try clear hi)) | (go_at_call 83; (with_reducible refine (spec_IsIndex.calls k _ _ t365 t378 _ ?side1 ?side2 A15.out).mono ?_); (case side1 => exact Kd.C_below (Kd.Q_reads' HO368.out).2.2 (BL (Below.refl _ _) rfl rfl rfl rfl)); (case side2 => exact (Kd.Q_reads' HO368.out).2.1); rintro e w19 ⟨rfl, hb⟩; have n0_ := AM_ (Kd.Q_below (by (with_reducible repeat (first | apply Kd.Q_alloc | apply Kd.Q_drewN | apply Kd.Q_drew)); exact HO368.out) hb); have n1_ := AM_ (Kd.R_below (by exact RL HO372.out rfl) hb); have n2_ := AM_ (Kd.R_below (by exact RL HO376.out rfl) hb); have n3_ := AM_ (below_step (by exact BL HB.out rfl rfl rfl rfl) hb); clear HO368; clear HO372; clear HO376; clear HB; have HO368 := n0_; have HO372 := n1_; have HO376 := n2_; have HB := n3_; clear n0_ n1_ n2_ n3_; (try clear hb); (try clear hb2); (try clear hk); (try clear hi))); try go_wp2_with (first | (go_at_call 56; (with_reducible refine (impl_IsIndex.calls k _ _ t365 t377 _ ?side1 ?side2 A14.out).mono ?_); (case side1 => exact Kd.C_below (Kd.Q_reads' HO368.out).2.2 (BL (Below.refl _ _) rfl rfl rfl rfl)); (case side2 => exact (Kd.Q_reads' HO368.out).2.1); rintro e w18 ⟨rfl, hb⟩; have n0_ := AM_ (Kd.Q_below (by (with_reducible repeat (first | apply Kd.Q_alloc | apply Kd.Q_drewN | apply Kd.Q_drew)); exact HO368.out) hb); have n1_ := AM_ (Kd.R_below (by exact RL HO372.out rfl) hb); have n2_ := AM_ (Kd.R_below (by exact RL HO376.out rfl) hb); have n3_ := AM_ (below_step (by exact BL HB.out rfl rfl rfl rfl) hb); clear HO368; clear HO372; clear HO376; clear HB; have HO368 := n0_; have HO372 := n1_; have HO376 := n2_; have HB := n3_; clear n0_ n1_ n2_ n3_; (try clear hb); (try clear hb2); (try clear hk); (try clear hi)) | (go_at_call 83; (with_reducible refine (spec_IsIndex.calls k _ _ t365 t378 _ ?side1 ?side2 A15.out).mono ?_); (case side1 => exact Kd.C_below (Kd.Q_reads' HO368.out).2.2 (BL (Below.refl _ _) rfl rfl rfl rfl)); (case side2 => exact (Kd.Q_reads' HO368.out).2.1); rintro e w19 ⟨rfl, hb⟩; have n0_ := AM_ (Kd.Q_below (by (with_reducible repeat (first | apply Kd.Q_alloc | apply Kd.Q_drewN | apply Kd.Q_drew)); exact HO368.out) hb); have n1_ := AM_ (Kd.R_below (by exact RL HO372.out rfl) hb); have n2_ := AM_ (Kd.R_below (by exact RL HO376.out rfl) hb); have n3_ := AM_ (below_step (by exact BL HB.out rfl rfl rfl rfl) hb); clear HO368; clear HO372; clear HO376; clear HB; have HO368 := n0_; have HO372 := n1_; have HO376 := n2_; have HB := n3_; clear n0_ n1_ n2_ n3_; (try clear hb); (try clear hb2); (try clear hk); (try clear hi))))
     go_meet
     case rel => exact ⟨_, ((t377 != t378)), (by first | rfl | (simp; done) | (simp [*]; done)), H', ⟨by first | omega | exact Nat.le_refl _⟩, ⟨by (with_reducible repeat (first | apply Kd.Q_alloc | apply Kd.Q_drewN | apply Kd.Q_drew)); exact Kd.Q_mono HO368.out (fun _ hk => ⟨hk.1.2, hk.2⟩)⟩, ⟨by (with_reducible repeat (first | apply Kd.R_alloc | apply Kd.R_drewN | apply Kd.R_drew)); exact Kd.R_mono HO372.out (fun _ hk => ⟨hk.1.2, hk.2⟩)⟩, ⟨by (with_reducible repeat (first | apply Kd.R_alloc | apply Kd.R_drewN | apply Kd.R_drew)); exact Kd.R_mono HO376.out (fun _ hk => ⟨hk.1.2, hk.2⟩)⟩, ⟨by exact BL HB.out rfl rfl rfl rfl⟩⟩
    ·rw [if_neg c13] at H
     have c13b0 : ((t369.length : Int) == (t373.length : Int)) = false := beq_eq_false_iff_ne.mpr c13
     have c13b1 : ((t369.length : Int) != (t373.length : Int)) = true := bne_iff_ne.mpr c13
     have c13b2 : (t369.length == t373.length) = false := by first | simpa using c13 | (simp at c13 ⊢; omega)
     have H' := AM_ H
     clear H
     obtain ⟨Ao20, co20, eo20⟩ := Kd.R_slice HO372.out
     subst eo20
     obtain ⟨Ao21, co21, eo21⟩ := Kd.R_slice HO376.out
     subst eo21
     go_wp2
     repeat (go_quiet (fail); try go_wp2)
     go_meet
     case rel => exact ⟨_, (true), (by first | rfl | (simp; done) | (simp [*]; done)), H', ⟨by first | omega | exact Nat.le_refl _⟩, ⟨by (with_reducible repeat (first | apply Kd.Q_alloc | apply Kd.Q_drewN | apply Kd.Q_drew)); exact Kd.Q_mono HO368.out (fun _ hk => ⟨hk.1.2, hk.2⟩)⟩, ⟨by (with_reducible repeat (first | apply Kd.R_alloc | apply Kd.R_drewN | apply Kd.R_drew)); exact Kd.R_mono HO372.out (fun _ hk => ⟨hk.1.2, hk.2⟩)⟩, ⟨by (with_reducible repeat (first | apply Kd.R_alloc | apply Kd.R_drewN | apply Kd.R_drew)); exact Kd.R_mono HO376.out (fun _ hk => ⟨hk.1.2, hk.2⟩)⟩, ⟨by exact BL HB.out rfl rfl rfl rfl⟩⟩
  case rest =>
   clear HC7
   try clear c1
   try clear p2
   try clear c3
   try clear c12
   try clear c12b0
   try clear c12b1
   try clear c12b2
   try clear c13
   try clear c13b0
   try clear c13b1
   try clear c13b2
   try clear c14
   obtain ⟨kq, x54_6, rfl, HA, HJ6, HO_3, HO_5, HO_7, HB⟩ := hcut
   cases kq with
   | zero => exact absurd HA.out (by simp [laws_FnIndexes.j0])
   | succ kj6 =>
    have H := HA.out
    clear HA
    simp only [laws_FnIndexes.j0] at H
    by_cases c22 : x54_6 = true
    ·subst c22
     have H1 : (some false) = some r := by rw [if_pos rfl] at H; exact H
     clear H
     have H := H1
     clear H1
     obtain rfl := Option.some.inj H
     go_wp2
     repeat (go_quiet (fail); try go_wp2)
     go_ret
     exact ⟨by first | rfl | (simp [errW_none, errW_some] <;> rfl) | (simp [*, errW_none, errW_some] <;> rfl), by exact BL HB.out rfl rfl rfl rfl⟩
    ·replace c22 := Bool.eq_false_iff.mpr c22
     subst c22
     have H1 : (laws_FnIndexes.l0 kj6 l0 t365 t369 t370 t373 0) = some r := by rw [if_neg (show ¬ (false = true) by decide)] at H; exact H
     clear H
     have H := H1
     clear H1
     have H' := AM_ H
     clear H
     go_wp2
     repeat (go_quiet (fail); try go_wp2)
     go_loopg [9] kj6 (fun kq v9 w' => ∃ (x9_2 : Int), v9 = .int .i64 x9_2 ∧ Aside0 (laws_FnIndexes.l0 kq l0 t365 t369 t370 t373 x9_2 = some r) ∧ Aside0 (kq ≤ kj6) ∧ Aside0 (Kd.Q k77 77 w' w.heap.size (fun k_ => some k_ ≠ (v371 : Value).ownBlock ∧ some k_ ≠ (v375 : Value).ownBlock) (.slice Ao9 t365.length co9) t365) ∧ Aside0 (Kd.R k77 77 w' w.heap.size (fun k_ => some k_ ≠ ((.slice Ao9 t365.length co9) : Value).ownBlock ∧ some k_ ≠ (v375 : Value).ownBlock) v371 t369) ∧ Aside0 (Kd.R k77 77 w' w.heap.size (fun k_ => some k_ ≠ ((.slice Ao9 t365.length co9) : Value).ownBlock ∧ some k_ ≠ (v371 : Value).ownBlock) v375 t373) ∧ Aside0 (Below w.heap.size w w'))
     case atStart => exact ⟨(0), (by first | rfl | (simp; done) | (simp [*]; done)), H', ⟨Nat.le_refl _⟩, ⟨by (with_reducible repeat (first | apply Kd.Q_alloc | apply Kd.Q_drewN | apply Kd.Q_drew)); exact HO_3.out⟩, ⟨by exact RL HO_5.out rfl⟩, ⟨by exact RL HO_7.out rfl⟩, ⟨by exact BL HB.out rfl rfl rfl rfl⟩⟩
     case round =>
      clear H'
      try clear c1
      try clear c2
      try clear p2
      try clear c3
      try clear c12
      try clear c12b0
      try clear c12b1
      try clear c12b2
      try clear c13
      try clear c13b0
      try clear c13b1
      try clear c13b2
      try clear c14
      try clear c22
      try clear p2
      obtain ⟨x9_2, rfl, HA, HK2, HO_3, HO_5, HO_7, HB⟩ := hrel
      cases gk with
      | zero => exact absurd HA.out (by simp [laws_FnIndexes.l0])
      | succ k2 =>
       have H := HA.out
       clear HA
       simp only [laws_FnIndexes.l0] at H
       by_cases c23 : x9_2 < (t369.length : Int)
       ·rw [if_pos c23] at H
        have c23b0 : decide (x9_2 < (t369.length : Int)) = true := decide_eq_true c23
        clear c23
        by_cases c24 : 0 ≤ x9_2
        ·rw [if_pos c24] at H
         have c24b0 : decide (0 ≤ x9_2) = true := decide_eq_true c24
         clear c24
         by_cases c25 : x9_2 < (t373.length : Int)
         ·rw [if_pos c25] at H
          have c25b0 : decide (x9_2 < (t373.length : Int)) = true := decide_eq_true c25
          clear c25
          by_cases c26 : (!(((rd_T77 t369 x9_2).f0) == ((rd_T77 t373 x9_2).f0)) || (!(((rd_T77 t369 x9_2).f1) == ((rd_T77 t373 x9_2).f1)) || (!(((rd_T77 t369 x9_2).f2) == ((rd_T77 t373 x9_2).f2))))) = true
          ·rw [if_pos c26] at H
           have c26b0 : (!(((rd_T77 t369 x9_2).f0) == ((rd_T77 t373 x9_2).f0)) || (!(((rd_T77 t369 x9_2).f1) == ((rd_T77 t373 x9_2).f1)) || (!(((rd_T77 t369 x9_2).f2) == ((rd_T77 t373 x9_2).f2))))) = true := c26
           clear c26
           obtain rfl := Option.some.inj H
           obtain ⟨Ao27, co27, eo27⟩ := Kd.R_slice HO_5.out
           subst eo27
           have p379 : 0 ≤ (x9_2 : Int) := of_decide_eq_true (by first | (with_reducible assumption) | assumption)
           have q379 : x9_2 < (t369.length : Int) := of_decide_eq_true (by first | (with_reducible assumption) | assumption)
           obtain ⟨ad379, e379, hx379_0, hx379_1, hx379_2⟩ := at_T77 (Kd.R_reads' HO_5.out).2.2 x9_2 p379 q379
           cases e379
           replace p379 := eq_true p379
           replace q379 := eq_true q379
           obtain ⟨Ao28, co28, eo28⟩ := Kd.R_slice HO_7.out
           subst eo28
           have p380 : 0 ≤ (x9_2 : Int) := of_decide_eq_true (by first | (with_reducible assumption) | assumption)
           have q380 : x9_2 < (t373.length : Int) := of_decide_eq_true (by first | (with_reducible assumption) | assumption)
           obtain ⟨ad380, e380, hx380_0, hx380_1, hx380_2⟩ := at_T77 (Kd.R_reads' HO_7.out).2.2 x9_2 p380 q380
           cases e380
           replace p380 := eq_true p380
           replace q380 := eq_true q380
           go_wp2
           repeat (go_quiet (fail); try go_wp2)
           go_ret
           exact ⟨by first | rfl | (simp [errW_none, errW_some] <;> rfl) | (simp [*, errW_none, errW_some] <;> rfl), by exact BL HB.out rfl rfl rfl rfl⟩
          ·rw [if_neg c26] at H
           have c26b0 : (!(((rd_T77 t369 x9_2).f0) == ((rd_T77 t373 x9_2).f0)) || (!(((rd_T77 t369 x9_2).f1) == ((rd_T77 t373 x9_2).f1)) || (!(((rd_T77 t369 x9_2).f2) == ((rd_T77 t373 x9_2).f2))))) = false := by simpa using c26
           clear c26
           have H' := AM_ H
           clear H
           obtain ⟨Ao29, co29, eo29⟩ := Kd.R_slice HO_5.out
           subst eo29
           have p379 : 0 ≤ (x9_2 : Int) := of_decide_eq_true (by first | (with_reducible assumption) | assumption)
           have q379 : x9_2 < (t369.length : Int) := of_decide_eq_true (by first | (with_reducible assumption) | assumption)
           obtain ⟨ad379, e379, hx379_0, hx379_1, hx379_2⟩ := at_T77 (Kd.R_reads' HO_5.out).2.2 x9_2 p379 q379
           cases e379
           replace p379 := eq_true p379
           replace q379 := eq_true q379
           obtain ⟨Ao30, co30, eo30⟩ := Kd.R_slice HO_7.out
           subst eo30
           have p380 : 0 ≤ (x9_2 : Int) := of_decide_eq_true (by first | (with_reducible assumption) | assumption)
           have q380 : x9_2 < (t373.length : Int) := of_decide_eq_true (by first | (with_reducible assumption) | assumption)
           obtain ⟨ad380, e380, hx380_0, hx380_1, hx380_2⟩ := at_T77 (Kd.R_reads' HO_7.out).2.2 x9_2 p380 q380
           cases e380
           replace p380 := eq_true p380
           replace q380 := eq_true q380
           go_wp2
           repeat (go_quiet (fail); try go_wp2)
           go_roundg k2
           case measure => have := HJ6.out; have := HK2.out; omega
           case rel => exact ⟨(wrap64 (x9_2 + 1)), (by first | rfl | (simp; done) | (simp [*]; done)), H', ⟨by have := HJ6.out; have := HK2.out; omega⟩, ⟨by (with_reducible repeat (first | apply Kd.Q_alloc | apply Kd.Q_drewN | apply Kd.Q_drew)); exact HO_3.out⟩, ⟨by exact RL HO_5.out rfl⟩, ⟨by exact RL HO_7.out rfl⟩, ⟨by exact BL HB.out rfl rfl rfl rfl⟩⟩
         ·rw [if_neg c25] at H
          exact absurd H (by simp)
        ·rw [if_neg c24] at H
         exact absurd H (by simp)
       ·rw [if_neg c23] at H
        have c23b0 : decide (x9_2 < (t369.length : Int)) = false := decide_eq_false c23
        clear c23
        have HC31 := AM_ H
        clear H
        obtain ⟨Ao32, co32, eo32⟩ := Kd.R_slice HO_5.out
        subst eo32
        go_upto_region 13 with (fail)
        repeat (go_quiet (fail); go_upto_region 13 with (fail))
        go_cut [83] (fun v83 wc => ∃ (kq : Nat) (x83_30 : Bool), v83 = .bool x83_30 ∧ Aside0 (laws_FnIndexes.j2 kq l0 x83_30 = some r) ∧ Aside0 (kq ≤ k2) ∧ Aside0 (Below w.heap.size w wc))
        case first =>
         have H := HC31.out
         clear HC31
         by_cases c33 : t370 = true
         ·subst c33
          have H1 : (if (t369.length : Int) = (wrap64 ((t365.length : Int) + 1)) then ((impl_IsIndex.f k2 t369).bind fun t381 => (laws_FnIndexes.j2 k2 l0 (!t381))) else (laws_FnIndexes.j2 k2 l0 true)) = some r := by rw [if_pos rfl] at H; exact H
          clear H
          have H := H1
          clear H1
          by_cases c34 : (t369.length : Int) = (wrap64 ((t365.length : Int) + 1))
          ·rw [if_pos c34] at H
           have c34b0 : ((t369.length : Int) == (wrap64 ((t365.length : Int) + 1))) = true := beq_iff_eq.mpr c34
           have c34b1 : ((t369.length : Int) != (wrap64 ((t365.length : Int) + 1))) = false := bne_eq_false_iff_eq.mpr c34
           clear c34
           (first | rw [c34b0] | (simp only [i64_w, i32_w]; rw [c34b0]) | skip)
           replace H := Option.bind_eq_some_iff.mp H
           obtain ⟨t381, A350, H⟩ := H
           replace H : (laws_FnIndexes.j2 k2 l0 (!t381)) = some r := H
           have A35 := AM_ A350
           clear A350
           have H' := AM_ H
           clear H
           go_wp2_with (first | (go_at_call 56; (with_reducible refine (impl_IsIndex.calls k2 _ _ t369 t381 _ ?side1 ?side2 A35.out).mono ?_); (case side1 => exact Kd.C_below (Kd.R_reads' HO_5.out).2.2 (BL (Below.refl _ _) rfl rfl rfl rfl)); (case side2 => exact (Kd.R_reads' HO_5.out).2.1); rintro e w36 ⟨rfl, hb⟩; have n0_ := AM_ (Kd.Q_below (by (with_reducible repeat (first | apply Kd.Q_alloc | apply Kd.Q_drewN | apply Kd.Q_drew)); exact HO_3.out) hb); have n1_ := AM_ (Kd.R_below (by exact RL HO_5.out rfl) hb); have n2_ := AM_ (Kd.R_below (by exact RL HO_7.out rfl) hb); have n3_ := AM_ (below_step (by exact BL HB.out rfl rfl rfl rfl) hb); clear HO_3; clear HO_5; clear HO_7; clear HB; have HO_3 := n0_; have HO_5 := n1_; have HO_7 := n2_; have HB := n3_; clear n0_ n1_ n2_ n3_; (try clear hb); (try clear hb2); (try clear hk); (try clear hi)))
           repeat (go_quiet (first | (go_at_call 56; (with_reducible refine (impl_IsIndex.calls k2 _ _ t369 t381 _ ?side1 ?side2 A35.out).mono ?_); (case side1 => exact Kd.C_below (Kd.R_reads' HO_5.out).2.2 (BL (Below.refl _ _) rfl rfl rfl rfl)); (case side2 => exact (Kd.R_reads' HO_5.out).2.1); rintro e w36 ⟨rfl, hb⟩; have n0_ := AM_ (Kd.Q_below (by (with_reducible repeat (first | apply Kd.Q_alloc | apply Kd.Q_drewN | apply Kd.Q_drew)); exact HO_3.out) hb); have n1_ := AM_ (Kd.R_below (by exact RL HO_5.out rfl) hb); have n2_ := AM_ (Kd.R_below (by exact RL HO_7.out rfl) hb); have n3_ := AM_ (below_step (by exact BL HB.out rfl rfl rfl rfl) hb); clear HO_3; clear HO_5; clear HO_7; clear HB; have HO_3 := n0_; have HO_5 := n1_; have HO_7 := n2_; have HB := n3_; clear n0_ n1_ n2_ n3_; (try clear hb); (try clear hb2); (try clear hk); (try clear hi))); try go_wp2_with (first | (go_at_call 56; (with_reducible refine (impl_IsIndex.calls k2 _ _ t369 t381 _ ?side1 ?side2 A35.out).mono ?_); (case side1 => exact Kd.C_below (Kd.R_reads' HO_5.out).2.2 (BL (Below.refl _ _) rfl rfl rfl rfl)); (case side2 => exact (Kd.R_reads' HO_5.out).2.1); rintro e w36 ⟨rfl, hb⟩; have n0_ := AM_ (Kd.Q_below (by (with_reducible repeat (first | apply Kd.Q_alloc | apply Kd.Q_drewN | apply Kd.Q_drew)); exact HO_3.out) hb); have n1_ := AM_ (Kd.R_below (by exact RL HO_5.out rfl) hb); have n2_ := AM_ (Kd.R_below (by exact RL HO_7.out rfl) hb); have n3_ := AM_ (below_step (by exact BL HB.out rfl rfl rfl rfl) hb); clear HO_3; clear HO_5; clear HO_7; clear HB; have HO_3 := n0_; have HO_5 := n1_; have HO_7 := n2_; have HB := n3_; clear n0_ n1_ n2_ n3_; (try clear hb); (try clear hb2); (try clear hk); (try clear hi))))
           go_meet
           case rel => exact ⟨_, (!t381), (by first | rfl | (simp; done) | (simp [*]; done)), H', ⟨by have := HJ6.out; have := HK2.out; first | omega | exact Nat.le_refl _⟩, ⟨by exact BL HB.out rfl rfl rfl rfl⟩⟩
          ·rw [if_neg c34] at H
           have c34b0 : ((t369.length : Int) == (wrap64 ((t365.length : Int) + 1))) = false := beq_eq_false_iff_ne.mpr c34
           have c34b1 : ((t369.length : Int) != (wrap64 ((t365.length : Int) + 1))) = true := bne_iff_ne.mpr c34
           (first | rw [c34b0] | (simp only [i64_w, i32_w]; rw [c34b0]) | skip)
           have H' := AM_ H
           clear H
           go_wp2
           repeat (go_quiet (fail); try go_wp2)
           go_meet
           case rel => exact ⟨_, (true), (by first | rfl | (simp; done) | (simp [*]; done)), H', ⟨by have := HJ6.out; have := HK2.out; first | omega | exact Nat.le_refl _⟩, ⟨by exact BL HB.out rfl rfl rfl rfl⟩⟩
         ·replace c33 := Bool.eq_false_iff.mpr c33
          subst c33
          have H1 : (laws_FnIndexes.j2 k2 l0 false) = some r := by rw [if_neg (show ¬ (false = true) by decide)] at H; exact H
          clear H
          have H := H1
          clear H1
          have H' := AM_ H
          clear H
          go_wp2
          repeat (go_quiet (fail); try go_wp2)
          go_meet
          case rel => exact ⟨_, (false), (by first | rfl | (simp; done) | (simp [*]; done)), H', ⟨by have := HJ6.out; have := HK2.out; first | omega | exact Nat.le_refl _⟩, ⟨by exact BL HB.out rfl rfl rfl rfl⟩⟩
        case rest =>
         clear HC31
         try clear c1
         try clear c2
         try clear p2
         try clear c3
         try clear p3
         try clear q3
         try clear hx3
         try clear p6
         try clear c12
         try clear c12b0
         try clear c12b1
         try clear c12b2
         try clear c13
         try clear c13b0
         try clear c13b1
         try clear c13b2
         try clear c14
         try clear c22
         try clear c23
         try clear c23b0
         try clear c24
         try clear c24b0
         try clear c25
         try clear c25b0
         try clear c26
         try clear c26b0
         try clear c33
         try clear c34
         try clear c34b0
         try clear c34b1
         try clear hx379_0
         try clear hx379_1
         try clear hx379_2
         try clear hx380_0
         try clear hx380_1
         try clear hx380_2
         try clear p2
         try clear p379
         try clear p380
         try clear q379
         try clear q380
         obtain ⟨kq, x83_30, rfl, HA, HJ30, HB⟩ := hcut
         cases kq with
         | zero => exact absurd HA.out (by simp [laws_FnIndexes.j2])
         | succ kj30 =>
          have H := HA.out
          clear HA
          simp only [laws_FnIndexes.j2] at H
          by_cases c37 : x83_30 = true
          ·subst c37
           have H1 : (some false) = some r := by rw [if_pos rfl] at H; exact H
           clear H
           have H := H1
           clear H1
           obtain rfl := Option.some.inj H
           go_wp2
           repeat (go_quiet (fail); try go_wp2)
           go_ret
           exact ⟨by first | rfl | (simp [errW_none, errW_some] <;> rfl) | (simp [*, errW_none, errW_some] <;> rfl), by exact BL HB.out rfl rfl rfl rfl⟩
          ·replace c37 := Bool.eq_false_iff.mpr c37
           subst c37
           have H1 : ((spec_DrawScanIsFresh.f kj30 l0).bind fun bt382 => ((impl_ScanIsFresh.f kj30 bt382.1 bt382.2.1 bt382.2.2.1 bt382.2.2.2).bind fun t390 => ((spec_ScanIsFresh.f kj30 bt382.1 bt382.2.1 bt382.2.2.1 bt382.2.2.2).bind fun t391 => (if (t390 != t391) = true then (some false) else ((spec_IsIndex.f kj30 bt382.1).bind fun t392 => (if t392 = true then ((spec_NodesFor.f kj30 bt382.1 bt382.2.2.1 bt382.2.2.2).bind fun t393 => ((impl_NodesFor.f kj30 bt382.1 bt382.2.2.1 bt382.2.2.2).bind fun t396 => (if (t396.length : Int) = (t393.length : Int) then ((impl_ScanIsFresh.f kj30 bt382.1 t393 bt382.2.2.1 bt382.2.2.2).bind fun t399 => (laws_FnIndexes.j3 kj30 bt382.1 bt382.2.2.1 bt382.2.2.2 t393 (!t399))) else (laws_FnIndexes.j3 kj30 bt382.1 bt382.2.2.1 bt382.2.2.2 t393 true)))) else (some (!t390)))))))) = some r := by rw [if_neg (show ¬ (false = true) by decide)] at H; exact H
           clear H
           have H := H1
           clear H1
           replace H := Option.bind_eq_some_iff.mp H
           obtain ⟨⟨t382, t383, t384, t385⟩, A380, H⟩ := H
           replace H : ((impl_ScanIsFresh.f kj30 t382 t383 t384 t385).bind fun t390 => ((spec_ScanIsFresh.f kj30 t382 t383 t384 t385).bind fun t391 => (if (t390 != t391) = true then (some false) else ((spec_IsIndex.f kj30 t382).bind fun t392 => (if t392 = true then ((spec_NodesFor.f kj30 t382 t384 t385).bind fun t393 => ((impl_NodesFor.f kj30 t382 t384 t385).bind fun t396 => (if (t396.length : Int) = (t393.length : Int) then ((impl_ScanIsFresh.f kj30 t382 t393 t384 t385).bind fun t399 => (laws_FnIndexes.j3 kj30 t382 t384 t385 t393 (!t399))) else (laws_FnIndexes.j3 kj30 t382 t384 t385 t393 true)))) else (some (!t390))))))) = some r := H
           have A38 := AM_ A380
           clear A380
           replace H := Option.bind_eq_some_iff.mp H
           obtain ⟨t390, A390, H⟩ := H
           replace H : ((spec_ScanIsFresh.f kj30 t382 t383 t384 t385).bind fun t391 => (if (t390 != t391) = true then (some false) else ((spec_IsIndex.f kj30 t382).bind fun t392 => (if t392 = true then ((spec_NodesFor.f kj30 t382 t384 t385).bind fun t393 => ((impl_NodesFor.f kj30 t382 t384 t385).bind fun t396 => (if (t396.length : Int) = (t393.length : Int) then ((impl_ScanIsFresh.f kj30 t382 t393 t384 t385).bind fun t399 => (laws_FnIndexes.j3 kj30 t382 t384 t385 t393 (!t399))) else (laws_FnIndexes.j3 kj30 t382 t384 t385 t393 true)))) else (some (!t390)))))) = some r := H
           have A39 := AM_ A390
           clear A390
           replace H := Option.bind_eq_some_iff.mp H
           obtain ⟨t391, A400, H⟩ := H
           replace H : (if (t390 != t391) = true then (some false) else ((spec_IsIndex.f kj30 t382).bind fun t392 => (if t392 = true then ((spec_NodesFor.f kj30 t382 t384 t385).bind fun t393 => ((impl_NodesFor.f kj30 t382 t384 t385).bind fun t396 => (if (t396.length : Int) = (t393.length : Int) then ((impl_ScanIsFresh.f kj30 t382 t393 t384 t385).bind fun t399 => (laws_FnIndexes.j3 kj30 t382 t384 t385 t393 (!t399))) else (laws_FnIndexes.j3 kj30 t382 t384 t385 t393 true)))) else (some (!t390))))) = some r := H
           have A40 := AM_ A400
           clear A400
           by_cases c41 : (t390 != t391) = true
           ·rw [if_pos c41] at H
            have c41b0 : (t390 != t391) = true := c41
            (try (have c41b1 : decide (t390 = t391) = false := by simpa using c41))
            (try (have c41b2 : (t390 == t391) = false := by simpa using c41))
            (try (have c41b3 : ¬ (t390 = t391) := by simpa using c41))
            clear c41
            obtain rfl := Option.some.inj H
            go_wp2_with (first | (go_at_call 84; (with_reducible refine (spec_DrawScanIsFresh.calls kj30 _ _ l0 t382 t383 t384 t385 _ ?side1 ?side2 A38.out).mono ?_); (case side1 => exact Kd.C_below (Kd.C_below HR0.out HB.out) (BL (Below.refl _ _) rfl rfl rfl rfl)); (case side2 => exact HC0.out); rintro e w42 ⟨v386, v388, rfl, ho0, ho1, hb⟩; have n0_ := AM_ (Kd.Q_lower ho0 (below_size (by exact BL HB.out rfl rfl rfl rfl))); have n1_ := AM_ (Kd.R_lower ho1 (below_size (by exact BL HB.out rfl rfl rfl rfl))); have n2_ := AM_ (below_step (by exact BL HB.out rfl rfl rfl rfl) hb); clear HB; have HO387 := n0_; have HO389 := n1_; have HB := n2_; clear n0_ n1_ n2_; (try clear hb); (try clear hb2); (try clear hk); (try clear hi); (try clear ho0); (try clear ho1); obtain ⟨Ao43, co43, eo43, _⟩ := Kd.Q_slice HO387.out; subst eo43; obtain ⟨Ao44, co44, eo44⟩ := Kd.R_slice HO389.out; subst eo44) | (go_at_call 85; (with_reducible refine (impl_ScanIsFresh.calls kj30 _ _ t382 _ _ t383 t384 t385 t390 _ ?side1 ?side2 ?side3 ?side4 A39.out).mono ?_); (case side1 => exact Kd.C_below (Kd.Q_reads' HO387.out).2.2 (BL (Below.refl _ _) rfl rfl rfl rfl)); (case side2 => exact (Kd.Q_reads' HO387.out).2.1); (case side3 => exact Kd.C_below (Kd.R_reads' HO389.out).2.2 (BL (Below.refl _ _) rfl rfl rfl rfl)); (case side4 => exact (Kd.R_reads' HO389.out).2.1); rintro e w45 ⟨rfl, hb⟩; have n0_ := AM_ (Kd.Q_below (by (with_reducible repeat (first | apply Kd.Q_alloc | apply Kd.Q_drewN | apply Kd.Q_drew)); exact HO387.out) hb); have n1_ := AM_ (Kd.R_below (by exact RL HO389.out rfl) hb); have n2_ := AM_ (below_step (by exact BL HB.out rfl rfl rfl rfl) hb); clear HO387; clear HO389; clear HB; have HO387 := n0_; have HO389 := n1_; have HB := n2_; clear n0_ n1_ n2_; (try clear hb); (try clear hb2); (try clear hk); (try clear hi)) | (go_at_call 86; (with_reducible refine (spec_ScanIsFresh.calls kj30 _ _ t382 _ _ t383 t384 t385 t391 _ ?side1 ?side2 ?side3 ?side4 A40.out).mono ?_); (case side1 => exact Kd.C_below (Kd.Q_reads' HO387.out).2.2 (BL (Below.refl _ _) rfl rfl rfl rfl)); (case side2 => exact (Kd.Q_reads' HO387.out).2.1); (case side3 => exact Kd.C_below (Kd.R_reads' HO389.out).2.2 (BL (Below.refl _ _) rfl rfl rfl rfl)); (case side4 => exact (Kd.R_reads' HO389.out).2.1); rintro e w46 ⟨rfl, hb⟩; have n0_ := AM_ (Kd.Q_below (by (with_reducible repeat (first | apply Kd.Q_alloc | apply Kd.Q_drewN | apply Kd.Q_drew)); exact HO387.out) hb); have n1_ := AM_ (Kd.R_below (by exact RL HO389.out rfl) hb); have n2_ := AM_ (below_step (by exact BL HB.out rfl rfl rfl rfl) hb); clear HO387; clear HO389; clear HB; have HO387 := n0_; have HO389 := n1_; have HB := n2_; clear n0_ n1_ n2_; (try clear hb); (try clear hb2); (try clear hk); (try clear hi)))
            repeat (go_quiet (first | (go_at_call 84; (with_reducible refine (spec_DrawScanIsFresh.calls kj30 _ _ l0 t382 t383 t384 t385 _ ?side1 ?side2 A38.out).mono ?_); (case side1 => exact Kd.C_below (Kd.C_below HR0.out HB.out) (BL (Below.refl _ _) rfl rfl rfl rfl)); (case side2 => exact HC0.out); rintro e w42 ⟨v386, v388, rfl, ho0, ho1, hb⟩; have n0_ := AM_ (Kd.Q_lower ho0 (below_size (by exact BL HB.out rfl rfl rfl rfl))); have n1_ := AM_ (Kd.R_lower ho1 (below_size (by exact BL HB.out rfl rfl rfl rfl))); have n2_ := AM_ (below_step (by exact BL HB.out rfl rfl rfl rfl) hb); clear HB; have HO387 := n0_; have HO389 := n1_; have HB := n2_; clear n0_ n1_ n2_; (try clear hb); (try clear hb2); (try clear hk); (try clear hi); (try clear ho0); (try clear ho1); obtain ⟨Ao43, co43, eo43, _⟩ := Kd.Q_slice HO387.out; subst eo43; obtain ⟨Ao44, co44, eo44⟩ := Kd.R_slice HO389.out; subst eo44) | (go_at_call 85; (with_reducible refine (impl_ScanIsFresh.calls kj30 _ _ t382 _ _ t383 t384 t385 t390 _ ?side1 ?side2 ?side3 ?side4 A39.out).mono ?_); (case side1 => exact Kd.C_below (Kd.Q_reads' HO387.out).2.2 (BL (Below.refl _ _) rfl rfl rfl rfl)); (case side2 => exact (Kd.Q_reads' HO387.out).2.1); (case side3 => exact Kd.C_below (Kd.R_reads' HO389.out).2.2 (BL (Below.refl _ _) rfl rfl rfl rfl)); (case side4 => exact (Kd.R_reads' HO389.out).2.1); rintro e w45 ⟨rfl, hb⟩; have n0_ := AM_ (Kd.Q_below (by (with_reducible repeat (first | apply Kd.Q_alloc | apply Kd.Q_drewN | apply Kd.Q_drew)); exact HO387.out) hb); have n1_ := AM_ (Kd.R_below (by exact RL HO389.out rfl) hb); have n2_ := AM_ (below_step (by exact BL HB.out rfl rfl rfl rfl) hb); clear HO387; clear HO389; clear HB; have HO387 := n0_; have HO389 := n1_; have HB := n2_; clear n0_ n1_ n2_; (try clear hb); (try clear hb2); (try clear hk); (try clear hi)) | (go_at_call 86; (with_reducible refine (spec_ScanIsFresh.calls kj30 _ _ t382 _ _ t383 t384 t385 t391 _ ?side1 ?side2 ?side3 ?side4 A40.out).mono ?_); (case side1 => exact Kd.C_below (Kd.Q_reads' HO387.out).2.2 (BL (Below.refl _ _) rfl rfl rfl rfl)); (case side2 => exact (Kd.Q_reads' HO387.out).2.1); (case side3 => exact Kd.C_below (Kd.R_reads' HO389.out).2.2 (BL (Below.refl _ _) rfl rfl rfl rfl)); (case side4 => exact (Kd.R_reads' HO389.out).2.1); rintro e w46 ⟨rfl, hb⟩; have n0_ := AM_ (Kd.Q_below (by (with_reducible repeat (first | apply Kd.Q_alloc | apply Kd.Q_drewN | apply Kd.Q_drew)); exact HO387.out) hb); have n1_ := AM_ (Kd.R_below (by exact RL HO389.out rfl) hb); have n2_ := AM_ (below_step (by exact BL HB.out rfl rfl rfl rfl) hb); clear HO387; clear HO389; clear HB; have HO387 := n0_; have HO389 := n1_; have HB := n2_; clear n0_ n1_ n2_; (try clear hb); (try clear hb2); (try clear hk); (try clear hi))); try go_wp2_with (first | (go_at_call 84; (with_reducible refine (spec_DrawScanIsFresh.calls kj30 _ _ l0 t382 t383 t384 t385 _ ?side1 ?side2 A38.out).mono ?_); (case side1 => exact Kd.C_below (Kd.C_below HR0.out HB.out) (BL (Below.refl _ _) rfl rfl rfl rfl)); (case side2 => exact HC0.out); rintro e w42 ⟨v386, v388, rfl, ho0, ho1, hb⟩; have n0_ := AM_ (Kd.Q_lower ho0 (below_size (by exact BL HB.out rfl rfl rfl rfl))); have n1_ := AM_ (Kd.R_lower ho1 (below_size (by exact BL HB.out rfl rfl rfl rfl))); have n2_ := AM_ (below_step (by exact BL HB.out rfl rfl rfl rfl) hb); clear HB; have HO387 := n0_; have HO389 := n1_; have HB := n2_; clear n0_ n1_ n2_; (try clear hb); (try clear hb2); (try clear hk); (try clear hi); (try clear ho0); (try clear ho1); obtain ⟨Ao43, co43, eo43, _⟩ := Kd.Q_slice HO387.out; subst eo43; obtain ⟨Ao44, co44, eo44⟩ := Kd.R_slice HO389.out; subst eo44) | (go_at_call 85; (with_reducible refine (impl_ScanIsFresh.calls kj30 _ _ t382 _ _ t383 t384 t385 t390 _ ?side1 ?side2 ?side3 ?side4 A39.out).mono ?_); (case side1 => exact Kd.C_below (Kd.Q_reads' HO387.out).2.2 (BL (Below.refl _ _) rfl rfl rfl rfl)); (case side2 => exact (Kd.Q_reads' HO387.out).2.1); (case side3 => exact Kd.C_below (Kd.R_reads' HO389.out).2.2 (BL (Below.refl _ _) rfl rfl rfl rfl)); (case side4 => exact (Kd.R_reads' HO389.out).2.1); rintro e w45 ⟨rfl, hb⟩; have n0_ := AM_ (Kd.Q_below (by (with_reducible repeat (first | apply Kd.Q_alloc | apply Kd.Q_drewN | apply Kd.Q_drew)); exact HO387.out) hb); have n1_ := AM_ (Kd.R_below (by exact RL HO389.out rfl) hb); have n2_ := AM_ (below_step (by exact BL HB.out rfl rfl rfl rfl) hb); clear HO387; clear HO389; clear HB; have HO387 := n0_; have HO389 := n1_; have HB := n2_; clear n0_ n1_ n2_; (try clear hb); (try clear hb2); (try clear hk); (try clear hi)) | (go_at_call 86; (with_reducible refine (spec_ScanIsFresh.calls kj30 _ _ t382 _ _ t383 t384 t385 t391 _ ?side1 ?side2 ?side3 ?side4 A40.out).mono ?_); (case side1 => exact Kd.C_below (Kd.Q_reads' HO387.out).2.2 (BL (Below.refl _ _) rfl rfl rfl rfl)); (case side2 => exact (Kd.Q_reads' HO387.out).2.1); (case side3 => exact Kd.C_below (Kd.R_reads' HO389.out).2.2 (BL (Below.refl _ _) rfl rfl rfl rfl)); (case side4 => exact (Kd.R_reads' HO389.out).2.1); rintro e w46 ⟨rfl, hb⟩; have n0_ := AM_ (Kd.Q_below (by (with_reducible repeat (first | apply Kd.Q_alloc | apply Kd.Q_drewN | apply Kd.Q_drew)); exact HO387.out) hb); have n1_ := AM_ (Kd.R_below (by exact RL HO389.out rfl) hb); have n2_ := AM_ (below_step (by exact BL HB.out rfl rfl rfl rfl) hb); clear HO387; clear HO389; clear HB; have HO387 := n0_; have HO389 := n1_; have HB := n2_; clear n0_ n1_ n2_; (try clear hb); (try clear hb2); (try clear hk); (try clear hi))))
            go_ret
            exact ⟨by first | rfl | (simp [errW_none, errW_some] <;> rfl) | (simp [*, errW_none, errW_some] <;> rfl), by exact BL HB.out rfl rfl rfl rfl⟩
           ·rw [if_neg c41] at H
            have c41b0 : (t390 != t391) = false := by simpa using c41
            (try (have c41b1 : decide (t390 = t391) = true := by simpa using c41))
            (try (have c41b2 : (t390 == t391) = true := by simpa using c41))
            clear c41
            replace H := Option.bind_eq_some_iff.mp H
            obtain ⟨t392, A470, H⟩ := H
            replace H : (if t392 = true then ((spec_NodesFor.f kj30 t382 t384 t385).bind fun t393 => ((impl_NodesFor.f kj30 t382 t384 t385).bind fun t396 => (if (t396.length : Int) = (t393.length : Int) then ((impl_ScanIsFresh.f kj30 t382 t393 t384 t385).bind fun t399 => (laws_FnIndexes.j3 kj30 t382 t384 t385 t393 (!t399))) else (laws_FnIndexes.j3 kj30 t382 t384 t385 t393 true)))) else (some (!t390))) = some r := H
            have A47 := AM_ A470
            clear A470
            by_cases c48 : t392 = true
            ·subst c48
             have H1 : ((spec_NodesFor.f kj30 t382 t384 t385).bind fun t393 => ((impl_NodesFor.f kj30 t382 t384 t385).bind fun t396 => (if (t396.length : Int) = (t393.length : Int) then ((impl_ScanIsFresh.f kj30 t382 t393 t384 t385).bind fun t399 => (laws_FnIndexes.j3 kj30 t382 t384 t385 t393 (!t399))) else (laws_FnIndexes.j3 kj30 t382 t384 t385 t393 true)))) = some r := by rw [if_pos rfl] at H; exact H
             clear H
             have H := H1
             clear H1
             replace H := Option.bind_eq_some_iff.mp H
             obtain ⟨t393, A490, H⟩ := H
             replace H : ((impl_NodesFor.f kj30 t382 t384 t385).bind fun t396 => (if (t396.length : Int) = (t393.length : Int) then ((impl_ScanIsFresh.f kj30 t382 t393 t384 t385).bind fun t399 => (laws_FnIndexes.j3 kj30 t382 t384 t385 t393 (!t399))) else (laws_FnIndexes.j3 kj30 t382 t384 t385 t393 true))) = some r := H
             have A49 := AM_ A490
             clear A490
             replace H := Option.bind_eq_some_iff.mp H
             obtain ⟨t396, A500, H⟩ := H
             replace H : (if (t396.length : Int) = (t393.length : Int) then ((impl_ScanIsFresh.f kj30 t382 t393 t384 t385).bind fun t399 => (laws_FnIndexes.j3 kj30 t382 t384 t385 t393 (!t399))) else (laws_FnIndexes.j3 kj30 t382 t384 t385 t393 true)) = some r := H
             have A50 := AM_ A500
             clear A500
             have HC51 := AM_ H
             clear H
             go_upto_region 23 with (first | (go_at_call 84; (with_reducible refine (spec_DrawScanIsFresh.calls kj30 _ _ l0 t382 t383 t384 t385 _ ?side1 ?side2 A38.out).mono ?_); (case side1 => exact Kd.C_below (Kd.C_below HR0.out HB.out) (BL (Below.refl _ _) rfl rfl rfl rfl)); (case side2 => exact HC0.out); rintro e w52 ⟨v386, v388, rfl, ho0, ho1, hb⟩; have n0_ := AM_ (Kd.Q_lower ho0 (below_size (by exact BL HB.out rfl rfl rfl rfl))); have n1_ := AM_ (Kd.R_lower ho1 (below_size (by exact BL HB.out rfl rfl rfl rfl))); have n2_ := AM_ (below_step (by exact BL HB.out rfl rfl rfl rfl) hb); clear HB; have HO387 := n0_; have HO389 := n1_; have HB := n2_; clear n0_ n1_ n2_; (try clear hb); (try clear hb2); (try clear hk); (try clear hi); (try clear ho0); (try clear ho1); obtain ⟨Ao53, co53, eo53, _⟩ := Kd.Q_slice HO387.out; subst eo53; obtain ⟨Ao54, co54, eo54⟩ := Kd.R_slice HO389.out; subst eo54) | (go_at_call 85; (with_reducible refine (impl_ScanIsFresh.calls kj30 _ _ t382 _ _ t383 t384 t385 t390 _ ?side1 ?side2 ?side3 ?side4 A39.out).mono ?_); (case side1 => exact Kd.C_below (Kd.Q_reads' HO387.out).2.2 (BL (Below.refl _ _) rfl rfl rfl rfl)); (case side2 => exact (Kd.Q_reads' HO387.out).2.1); (case side3 => exact Kd.C_below (Kd.R_reads' HO389.out).2.2 (BL (Below.refl _ _) rfl rfl rfl rfl)); (case side4 => exact (Kd.R_reads' HO389.out).2.1); rintro e w55 ⟨rfl, hb⟩; have n0_ := AM_ (Kd.Q_below (by (with_reducible repeat (first | apply Kd.Q_alloc | apply Kd.Q_drewN | apply Kd.Q_drew)); exact HO387.out) hb); have n1_ := AM_ (Kd.R_below (by exact RL HO389.out rfl) hb); have n2_ := AM_ (below_step (by exact BL HB.out rfl rfl rfl rfl) hb); clear HO387; clear HO389; clear HB; have HO387 := n0_; have HO389 := n1_; have HB := n2_; clear n0_ n1_ n2_; (try clear hb); (try clear hb2); (try clear hk); (try clear hi)) | (go_at_call 86; (with_reducible refine (spec_ScanIsFresh.calls kj30 _ _ t382 _ _ t383 t384 t385 t391 _ ?side1 ?side2 ?side3 ?side4 A40.out).mono ?_); (case side1 => exact Kd.C_below (Kd.Q_reads' HO387.out).2.2 (BL (Below.refl _ _) rfl rfl rfl rfl)); (case side2 => exact (Kd.Q_reads' HO387.out).2.1); (case side3 => exact Kd.C_below (Kd.R_reads' HO389.out).2.2 (BL (Below.refl _ _) rfl rfl rfl rfl)); (case side4 => exact (Kd.R_reads' HO389.out).2.1); rintro e w56 ⟨rfl, hb⟩; have n0_ := AM_ (Kd.Q_below (by (with_reducible repeat (first | apply Kd.Q_alloc | apply Kd.Q_drewN | apply Kd.Q_drew)); exact HO387.out) hb); have n1_ := AM_ (Kd.R_below (by exact RL HO389.out rfl) hb); have n2_ := AM_ (below_step (by exact BL HB.out rfl rfl rfl rfl) hb); clear HO387; clear HO389; clear HB; have HO387 := n0_; have HO389 := n1_; have HB := n2_; clear n0_ n1_ n2_; (try clear hb); (try clear hb2); (try clear hk); (try clear hi)) | (go_at_call 83; (with_reducible refine (spec_IsIndex.calls kj30 _ _ t382 true _ ?side1 ?side2 A47.out).mono ?_); (case side1 => exact Kd.C_below (Kd.Q_reads' HO387.out).2.2 (BL (Below.refl _ _) rfl rfl rfl rfl)); (case side2 => exact (Kd.Q_reads' HO387.out).2.1); rintro e w57 ⟨rfl, hb⟩; have n0_ := AM_ (Kd.Q_below (by (with_reducible repeat (first | apply Kd.Q_alloc | apply Kd.Q_drewN | apply Kd.Q_drew)); exact HO387.out) hb); have n1_ := AM_ (Kd.R_below (by exact RL HO389.out rfl) hb); have n2_ := AM_ (below_step (by exact BL HB.out rfl rfl rfl rfl) hb); clear HO387; clear HO389; clear HB; have HO387 := n0_; have HO389 := n1_; have HB := n2_; clear n0_ n1_ n2_; (try clear hb); (try clear hb2); (try clear hk); (try clear hi)) | (go_at_call 87; (with_reducible refine (spec_NodesFor.calls kj30 _ _ t382 t384 t385 t393 _ ?side1 ?side2 A49.out).mono ?_); (case side1 => exact Kd.C_below (Kd.Q_reads' HO387.out).2.2 (BL (Below.refl _ _) rfl rfl rfl rfl)); (case side2 => exact (Kd.Q_reads' HO387.out).2.1); rintro e w58 ⟨v394, rfl, ho0, hb⟩; have n0_ := AM_ (Kd.Q_elder' (by (with_reducible repeat (first | apply Kd.Q_alloc | apply Kd.Q_drewN | apply Kd.Q_drew)); exact HO387.out) (Kd.R_base ho0) hb); have n1_ := AM_ (Kd.R_elder' (by exact RL HO389.out rfl) (Kd.R_base ho0) hb); have n2_ := AM_ (Kd.R_lower (Kd.R_new' (Kd.R_new' ho0 (Kd.Q_lt (by (with_reducible repeat (first | apply Kd.Q_alloc | apply Kd.Q_drewN | apply Kd.Q_drew)); exact HO387.out))) (Kd.R_lt (by exact RL HO389.out rfl))) (below_size (by exact BL HB.out rfl rfl rfl rfl))); have n3_ := AM_ (below_step (by exact BL HB.out rfl rfl rfl rfl) hb); clear HO387; clear HO389; clear HB; have HO387 := n0_; have HO389 := n1_; have HO395 := n2_; have HB := n3_; clear n0_ n1_ n2_ n3_; (try clear hb); (try clear hb2); (try clear hk); (try clear hi); (try clear ho0)) | (go_at_call 55; (with_reducible refine (impl_NodesFor.calls kj30 _ _ t382 t384 t385 t396 _ ?side1 ?side2 A50.out).mono ?_); (case side1 => exact Kd.C_below (Kd.Q_reads' HO387.out).2.2 (BL (Below.refl _ _) rfl rfl rfl rfl)); (case side2 => exact (Kd.Q_reads' HO387.out).2.1); rintro e w59 ⟨v397, rfl, ho0, hb⟩; have n0_ := AM_ (Kd.Q_elder' (by (with_reducible repeat (first | apply Kd.Q_alloc | apply Kd.Q_drewN | apply Kd.Q_drew)); exact HO387.out) (Kd.R_base ho0) hb); have n1_ := AM_ (Kd.R_elder' (by exact RL HO389.out rfl) (Kd.R_base ho0) hb); have n2_ := AM_ (Kd.R_elder' (by exact RL HO395.out rfl) (Kd.R_base ho0) hb); have n3_ := AM_ (Kd.R_lower (Kd.R_new' (Kd.R_new' (Kd.R_new' ho0 (Kd.Q_lt (by (with_reducible repeat (first | apply Kd.Q_alloc | apply Kd.Q_drewN | apply Kd.Q_drew)); exact HO387.out))) (Kd.R_lt (by exact RL HO389.out rfl))) (Kd.R_lt (by exact RL HO395.out rfl))) (below_size (by exact BL HB.out rfl rfl rfl rfl))); have n4_ := AM_ (below_step (by exact BL HB.out rfl rfl rfl rfl) hb); clear HO387; clear HO389; clear HO395; clear HB; have HO387 := n0_; have HO389 := n1_; have HO395 := n2_; have HO398 := n3_; have HB := n4_; clear n0_ n1_ n2_ n3_ n4_; (try clear hb); (try clear hb2); (try clear hk); (try clear hi); (try clear ho0)))
             repeat (go_quiet (first | (go_at_call 84; (with_reducible refine (spec_DrawScanIsFresh.calls kj30 _ _ l0 t382 t383 t384 t385 _ ?side1 ?side2 A38.out).mono ?_); (case side1 => exact Kd.C_below (Kd.C_below HR0.out HB.out) (BL (Below.refl _ _) rfl rfl rfl rfl)); (case side2 => exact HC0.out); rintro e w52 ⟨v386, v388, rfl, ho0, ho1, hb⟩; have n0_ := AM_ (Kd.Q_lower ho0 (below_size (by exact BL HB.out rfl rfl rfl rfl))); have n1_ := AM_ (Kd.R_lower ho1 (below_size (by exact BL HB.out rfl rfl rfl rfl))); have n2_ := AM_ (below_step (by exact BL HB.out rfl rfl rfl rfl) hb); clear HB; have HO387 := n0_; have HO389 := n1_; have HB := n2_; clear n0_ n1_ n2_; (try clear hb); (try clear hb2); (try clear hk); (try clear hi); (try clear ho0); (try clear ho1); obtain ⟨Ao53, co53, eo53, _⟩ := Kd.Q_slice HO387.out; subst eo53; obtain ⟨Ao54, co54, eo54⟩ := Kd.R_slice HO389.out; subst eo54) | (go_at_call 85; (with_reducible refine (impl_ScanIsFresh.calls kj30 _ _ t382 _ _ t383 t384 t385 t390 _ ?side1 ?side2 ?side3 ?side4 A39.out).mono ?_); (case side1 => exact Kd.C_below (Kd.Q_reads' HO387.out).2.2 (BL (Below.refl _ _) rfl rfl rfl rfl)); (case side2 => exact (Kd.Q_reads' HO387.out).2.1); (case side3 => exact Kd.C_below (Kd.R_reads' HO389.out).2.2 (BL (Below.refl _ _) rfl rfl rfl rfl)); (case side4 => exact (Kd.R_reads' HO389.out).2.1); rintro e w55 ⟨rfl, hb⟩; have n0_ := AM_ (Kd.Q_below (by (with_reducible repeat (first | apply Kd.Q_alloc | apply Kd.Q_drewN | apply Kd.Q_drew)); exact HO387.out) hb); have n1_ := AM_ (Kd.R_below (by exact RL HO389.out rfl) hb); have n2_ := AM_ (below_step (by exact BL HB.out rfl rfl rfl rfl) hb); clear HO387; clear HO389; clear HB; have HO387 := n0_; have HO389 := n1_; have HB := n2_; clear n0_ n1_ n2_; (try clear hb); (try clear hb2); (try clear hk); (try clear hi)) | (go_at_call 86; (with_reducible refine (spec_ScanIsFresh.calls kj30 _ _ t382 _ _ t383 t384 t385 t391 _ ?side1 ?side2 ?side3 ?side4 A40.out).mono ?_); (case side1 => exact Kd.C_below (Kd.Q_reads' HO387.out).2.2 (BL (Below.refl _ _) rfl rfl rfl rfl)); (case side2 => exact (Kd.Q_reads' HO387.out).2.1); (case side3 => exact Kd.C_below (Kd.R_reads' HO389.out).2.2 (BL (Below.refl _ _) rfl rfl rfl rfl)); (case side4 => exact (Kd.R_reads' HO389.out).2.1); rintro e w56 ⟨rfl, hb⟩; have n0_ := AM_ (Kd.Q_below (by (with_reducible repeat (first | apply Kd.Q_alloc | apply Kd.Q_drewN | apply Kd.Q_drew)); exact HO387.out) hb); have n1_ := AM_ (Kd.R_below (by exact RL HO389.out rfl) hb); have n2_ := AM_ (below_step (by exact BL HB.out rfl rfl rfl rfl) hb); clear HO387; clear HO389; clear HB; have HO387 := n0_; have HO389 := n1_; have HB := n2_; clear n0_ n1_ n2_; (try clear hb); (try clear hb2); (try clear hk); (try clear hi)) | (go_at_call 83; (with_reducible refine (spec_IsIndex.calls kj30 _ _ t382 true _ ?side1 ?side2 A47.out).mono ?_); (case side1 => exact Kd.C_below (Kd.Q_reads' HO387.out).2.2 (BL (Below.refl _ _) rfl rfl rfl rfl)); (case side2 => exact (Kd.Q_reads' HO387.out).2.1); rintro e w57 ⟨rfl, hb⟩; have n0_ := AM_ (Kd.Q_below (by (with_reducible repeat (first | apply Kd.Q_alloc | apply Kd.Q_drewN | apply Kd.Q_drew)); exact HO387.out) hb); have n1_ := AM_ (Kd.R_below (by exact RL HO389.out rfl) hb); have n2_ := AM_ (below_step (by exact BL HB.out rfl rfl rfl rfl) hb); clear HO387; clear HO389; clear HB; have HO387 := n0_; have HO389 := n1_; have HB := n2_; clear n0_ n1_ n2_; (try clear hb); (try clear hb2); (try clear hk); (try clear hi)) | (go_at_call 87; (with_reducible refine (spec_NodesFor.calls kj30 _ _ t382 t384 t385 t393 _ ?side1 ?side2 A49.out).mono ?_); (case side1 => exact Kd.C_below (Kd.Q_reads' HO387.out).2.2 (BL (Below.refl _ _) rfl rfl rfl rfl)); (case side2 => exact (Kd.Q_reads' HO387.out).2.1); rintro e w58 ⟨v394, rfl, ho0, hb⟩; have n0_ := AM_ (Kd.Q_elder' (by (with_reducible repeat (first | apply Kd.Q_alloc | apply Kd.Q_drewN | apply Kd.Q_drew)); exact HO387.out) (Kd.R_base ho0) hb); have n1_ := AM_ (Kd.R_elder' (by exact RL HO389.out rfl) (Kd.R_base ho0) hb); have n2_ := AM_ (Kd.R_lower (Kd.R_new' (Kd.R_new' ho0 (Kd.Q_lt (by (with_reducible repeat (first | apply Kd.Q_alloc | apply Kd.Q_drewN | apply Kd.Q_drew)); exact HO387.out))) (Kd.R_lt (by exact RL HO389.out rfl))) (below_size (by exact BL HB.out rfl rfl rfl rfl))); have n3_ := AM_ (below_step (by exact BL HB.out rfl rfl rfl rfl) hb); clear HO387; clear HO389; clear HB; have HO387 := n0_; have HO389 := n1_; have HO395 := n2_; have HB := n3_; clear n0_ n1_ n2_ n3_; (try clear hb); (try clear hb2); (try clear hk); (try clear hi); (try clear ho0)) | (go_at_call 55; (with_reducible refine (impl_NodesFor.calls kj30 _ _ t382 t384 t385 t396 _ ?side1 ?side2 A50.out).mono ?_); (case side1 => exact Kd.C_below (Kd.Q_reads' HO387.out).2.2 (BL (Below.refl _ _) rfl rfl rfl rfl)); (case side2 => exact (Kd.Q_reads' HO387.out).2.1); rintro e w59 ⟨v397, rfl, ho0, hb⟩; have n0_ := AM_ (Kd.Q_elder' (by (with_reducible repeat (first | apply Kd.Q_alloc | apply Kd.Q_drewN | apply Kd.Q_drew)); exact HO387.out) (Kd.R_base ho0) hb); have n1_ := AM_ (Kd.R_elder' (by exact RL HO389.out rfl) (Kd.R_base ho0) hb); have n2_ := AM_ (Kd.R_elder' (by exact RL HO395.out rfl) (Kd.R_base ho0) hb); have n3_ := AM_ (Kd.R_lower (Kd.R_new' (Kd.R_new' (Kd.R_new' ho0 (Kd.Q_lt (by (with_reducible repeat (first | apply Kd.Q_alloc | apply Kd.Q_drewN | apply Kd.Q_drew)); exact HO387.out))) (Kd.R_lt (by exact RL HO389.out rfl))) (Kd.R_lt (by exact RL HO395.out rfl))) (below_size (by exact BL HB.out rfl rfl rfl rfl))); have n4_ := AM_ (below_step (by exact BL HB.out rfl rfl rfl rfl) hb); clear HO387; clear HO389; clear HO395; clear HB; have HO387 := n0_; have HO389 := n1_; have HO395 := n2_; have HO398 := n3_; have HB := n4_; clear n0_ n1_ n2_ n3_ n4_; (try clear hb); (try clear hb2); (try clear hk); (try clear hi); (try clear ho0))); go_upto_region 23 with (first | (go_at_call 84; (with_reducible refine (spec_DrawScanIsFresh.calls kj30 _ _ l0 t382 t383 t384 t385 _ ?side1 ?side2 A38.out).mono ?_); (case side1 => exact Kd.C_below (Kd.C_below HR0.out HB.out) (BL (Below.refl _ _) rfl rfl rfl rfl)); (case side2 => exact HC0.out); rintro e w52 ⟨v386, v388, rfl, ho0, ho1, hb⟩; have n0_ := AM_ (Kd.Q_lower ho0 (below_size (by exact BL HB.out rfl rfl rfl rfl))); have n1_ := AM_ (Kd.R_lower ho1 (below_size (by exact BL HB.out rfl rfl rfl rfl))); have n2_ := AM_ (below_step (by exact BL HB.out rfl rfl rfl rfl) hb); clear HB; have HO387 := n0_; have HO389 := n1_; have HB := n2_; clear n0_ n1_ n2_; (try clear hb); (try clear hb2); (try clear hk); (try clear hi); (try clear ho0); (try clear ho1); obtain ⟨Ao53, co53, eo53, _⟩ := Kd.Q_slice HO387.out; subst eo53; obtain ⟨Ao54, co54, eo54⟩ := Kd.R_slice HO389.out; subst eo54) | (go_at_call 85; (with_reducible refine (impl_ScanIsFresh.calls kj30 _ _ t382 _ _ t383 t384 t385 t390 _ ?side1 ?side2 ?side3 ?side4 A39.out).mono ?_); (case side1 => exact Kd.C_below (Kd.Q_reads' HO387.out).2.2 (BL (Below.refl _ _) rfl rfl rfl rfl)); (case side2 => exact (Kd.Q_reads' HO387.out).2.1); (case side3 => exact Kd.C_below (Kd.R_reads' HO389.out).2.2 (BL (Below.refl _ _) rfl rfl rfl rfl)); (case side4 => exact (Kd.R_reads' HO389.out).2.1); rintro e w55 ⟨rfl, hb⟩; have n0_ := AM_ (Kd.Q_below (by (with_reducible repeat (first | apply Kd.Q_alloc | apply Kd.Q_drewN | apply Kd.Q_drew)); exact HO387.out) hb); have n1_ := AM_ (Kd.R_below (by exact RL HO389.out rfl) hb); have n2_ := AM_ (below_step (by exact BL HB.out rfl rfl rfl rfl) hb); clear HO387; clear HO389; clear HB; have HO387 := n0_; have HO389 := n1_; have HB := n2_; clear n0_ n1_ n2_; (try clear hb); (try clear hb2); (try clear hk); (try clear hi)) | (go_at_call 86; (with_reducible refine (spec_ScanIsFresh.calls kj30 _ _ t382 _ _ t383 t384 t385 t391 _ ?side1 ?side2 ?side3 ?side4 A40.out).mono ?_); (case side1 => exact Kd.C_below (Kd.Q_reads' HO387.out).2.2 (BL (Below.refl _ _) rfl rfl rfl rfl)); (case side2 => exact (Kd.Q_reads' HO387.out).2.1); (case side3 => exact Kd.C_below (Kd.R_reads' HO389.out).2.2 (BL (Below.refl _ _) rfl rfl rfl rfl)); (case side4 => exact (Kd.R_reads' HO389.out).2.1); rintro e w56 ⟨rfl, hb⟩; have n0_ := AM_ (Kd.Q_below (by (with_reducible repeat (first | apply Kd.Q_alloc | apply Kd.Q_drewN | apply Kd.Q_drew)); exact HO387.out) hb); have n1_ := AM_ (Kd.R_below (by exact RL HO389.out rfl) hb); have n2_ := AM_ (below_step (by exact BL HB.out rfl rfl rfl rfl) hb); clear HO387; clear HO389; clear HB; have HO387 := n0_; have HO389 := n1_; have HB := n2_; clear n0_ n1_ n2_; (try clear hb); (try clear hb2); (try clear hk); (try clear hi)) | (go_at_call 83; (with_reducible refine (spec_IsIndex.calls kj30 _ _ t382 true _ ?side1 ?side2 A47.out).mono ?_); (case side1 => exact Kd.C_below (Kd.Q_reads' HO387.out).2.2 (BL (Below.refl _ _) rfl rfl rfl rfl)); (case side2 => exact (Kd.Q_reads' HO387.out).2.1); rintro e w57 ⟨rfl, hb⟩; have n0_ := AM_ (Kd.Q_below (by (with_reducible repeat (first | apply Kd.Q_alloc | apply Kd.Q_drewN | apply Kd.Q_drew)); exact HO387.out) hb); have n1_ := AM_ (Kd.R_below (by exact RL HO389.out rfl) hb); have n2_ := AM_ (below_step (by exact BL HB.out rfl rfl rfl rfl) hb); clear HO387; clear HO389; clear HB; have HO387 := n0_; have HO389 := n1_; have HB := n2_; clear n0_ n1_ n2_; (try clear hb); (try clear hb2); (try clear hk); (try clear hi)) | (go_at_call 87; (with_reducible refine (spec_NodesFor.calls kj30 _ _ t382 t384 t385 t393 _ ?side1 ?side2 A49.out).mono ?_); (case side1 => exact Kd.C_below (Kd.Q_reads' HO387.out).2.2 (BL (Below.refl _ _) rfl rfl rfl rfl)); (case side2 => exact (Kd.Q_reads' HO387.out).2.1); rintro e w58 ⟨v394, rfl, ho0, hb⟩; have n0_ := AM_ (Kd.Q_elder' (by (with_reducible repeat (first | apply Kd.Q_alloc | apply Kd.Q_drewN | apply Kd.Q_drew)); exact HO387.out) (Kd.R_base ho0) hb); have n1_ := AM_ (Kd.R_elder' (by exact RL HO389.out rfl) (Kd.R_base ho0) hb); have n2_ := AM_ (Kd.R_lower (Kd.R_new' (Kd.R_new' ho0 (Kd.Q_lt (by (with_reducible repeat (first | apply Kd.Q_alloc | apply Kd.Q_drewN | apply Kd.Q_drew)); exact HO387.out))) (Kd.R_lt (by exact RL HO389.out rfl))) (below_size (by exact BL HB.out rfl rfl rfl rfl))); have n3_ := AM_ (below_step (by exact BL HB.out rfl rfl rfl rfl) hb); clear HO387; clear HO389; clear HB; have HO387 := n0_; have HO389 := n1_; have HO395 := n2_; have HB := n3_; clear n0_ n1_ n2_ n3_; (try clear hb); (try clear hb2); (try clear hk); (try clear hi); (try clear ho0)) | (go_at_call 55; (with_reducible refine (impl_NodesFor.calls kj30 _ _ t382 t384 t385 t396 _ ?side1 ?side2 A50.out).mono ?_); (case side1 => exact Kd.C_below (Kd.Q_reads' HO387.out).2.2 (BL (Below.refl _ _) rfl rfl rfl rfl)); (case side2 => exact (Kd.Q_reads' HO387.out).2.1); rintro e w59 ⟨v397, rfl, ho0, hb⟩; have n0_ := AM_ (Kd.Q_elder' (by (with_reducible repeat (first | apply Kd.Q_alloc | apply Kd.Q_drewN | apply Kd.Q_drew)); exact HO387.out) (Kd.R_base ho0) hb); have n1_ := AM_ (Kd.R_elder' (by exact RL HO389.out rfl) (Kd.R_base ho0) hb); have n2_ := AM_ (Kd.R_elder' (by exact RL HO395.out rfl) (Kd.R_base ho0) hb); have n3_ := AM_ (Kd.R_lower (Kd.R_new' (Kd.R_new' (Kd.R_new' ho0 (Kd.Q_lt (by (with_reducible repeat (first | apply Kd.Q_alloc | apply Kd.Q_drewN | apply Kd.Q_drew)); exact HO387.out))) (Kd.R_lt (by exact RL HO389.out rfl))) (Kd.R_lt (by exact RL HO395.out rfl))) (below_size (by exact BL HB.out rfl rfl rfl rfl))); have n4_ := AM_ (below_step (by exact BL HB.out rfl rfl rfl rfl) hb); clear HO387; clear HO389; clear HO395; clear HB; have HO387 := n0_; have HO389 := n1_; have HO395 := n2_; have HO398 := n3_; have HB := n4_; clear n0_ n1_ n2_ n3_ n4_; (try clear hb); (try clear hb2); (try clear hk); (try clear hi); (try clear ho0))))
             (try simp only [pA, pS, pZ, pK])
             go_cut [128] (fun v128 wc => ∃ (kq : Nat) (x128_50 : Bool), v128 = .bool x128_50 ∧ Aside0 (laws_FnIndexes.j3 kq t382 t384 t385 t393 x128_50 = some r) ∧ Aside0 (kq ≤ kj30) ∧ Aside0 (Kd.Q k77 77 wc w.heap.size (fun k_ => some k_ ≠ (v394 : Value).ownBlock) (.slice Ao53 t382.length co53) t382) ∧ Aside0 (Kd.R k77 77 wc w.heap.size (fun k_ => some k_ ≠ ((.slice Ao53 t382.length co53) : Value).ownBlock) v394 t393) ∧ Aside0 (Below w.heap.size w wc))
             case first =>
              have H := HC51.out
              clear HC51
              by_cases c60 : (t396.length : Int) = (t393.length : Int)
              ·rw [if_pos c60] at H
               have c60b0 : ((t396.length : Int) == (t393.length : Int)) = true := beq_iff_eq.mpr c60
               have c60b1 : ((t396.length : Int) != (t393.length : Int)) = false := bne_eq_false_iff_eq.mpr c60
               have c60b2 : (t396.length == t393.length) = true := by first | simpa using c60 | (simp at c60 ⊢; omega)
               clear c60
               (first | rw [c60b0] | (simp only [i64_w, i32_w]; rw [c60b0]) | skip)
               replace H := Option.bind_eq_some_iff.mp H
               obtain ⟨t399, A610, H⟩ := H
               replace H : (laws_FnIndexes.j3 kj30 t382 t384 t385 t393 (!t399)) = some r := H
               have A61 := AM_ A610
               clear A610
               have H' := AM_ H
               clear H
               obtain ⟨Ao62, co62, eo62⟩ := Kd.R_slice HO398.out
               subst eo62
               obtain ⟨Ao63, co63, eo63⟩ := Kd.R_slice HO395.out
               subst eo63
               go_wp2_with (first | (go_at_call 85; (with_reducible refine (impl_ScanIsFresh.calls kj30 _ _ t382 _ _ t393 t384 t385 t399 _ ?side1 ?side2 ?side3 ?side4 A61.out).mono ?_); (case side1 => exact Kd.C_below (Kd.Q_reads' HO387.out).2.2 (BL (Below.refl _ _) rfl rfl rfl rfl)); (case side2 => exact (Kd.Q_reads' HO387.out).2.1); (case side3 => exact Kd.C_below (Kd.R_reads' HO395.out).2.2 (BL (Below.refl _ _) rfl rfl rfl rfl)); (case side4 => exact (Kd.R_reads' HO395.out).2.1); rintro e w64 ⟨rfl, hb⟩; have n0_ := AM_ (Kd.Q_below (by (with_reducible repeat (first | apply Kd.Q_alloc | apply Kd.Q_drewN | apply Kd.Q_drew)); exact HO387.out) hb); have n1_ := AM_ (Kd.R_below (by exact RL HO389.out rfl) hb); have n2_ := AM_ (Kd.R_below (by exact RL HO395.out rfl) hb); have n3_ := AM_ (Kd.R_below (by exact RL HO398.out rfl) hb); have n4_ := AM_ (below_step (by exact BL HB.out rfl rfl rfl rfl) hb); clear HO387; clear HO389; clear HO395; clear HO398; clear HB; have HO387 := n0_; have HO389 := n1_; have HO395 := n2_; have HO398 := n3_; have HB := n4_; clear n0_ n1_ n2_ n3_ n4_; (try clear hb); (try clear hb2); (try clear hk); (try clear hi)))
               repeat (go_quiet (first | (go_at_call 85; (with_reducible refine (impl_ScanIsFresh.calls kj30 _ _ t382 _ _ t393 t384 t385 t399 _ ?side1 ?side2 ?side3 ?side4 A61.out).mono ?_); (case side1 => exact Kd.C_below (Kd.Q_reads' HO387.out).2.2 (BL (Below.refl _ _) rfl rfl rfl rfl)); (case side2 => exact (Kd.Q_reads' HO387.out).2.1); (case side3 => exact Kd.C_below (Kd.R_reads' HO395.out).2.2 (BL (Below.refl _ _) rfl rfl rfl rfl)); (case side4 => exact (Kd.R_reads' HO395.out).2.1); rintro e w64 ⟨rfl, hb⟩; have n0_ := AM_ (Kd.Q_below (by (with_reducible repeat (first | apply Kd.Q_alloc | apply Kd.Q_drewN | apply Kd.Q_drew)); exact HO387.out) hb); have n1_ := AM_ (Kd.R_below (by exact RL HO389.out rfl) hb); have n2_ := AM_ (Kd.R_below (by exact RL HO395.out rfl) hb); have n3_ := AM_ (Kd.R_below (by exact RL HO398.out rfl) hb); have n4_ := AM_ (below_step (by exact BL HB.out rfl rfl rfl rfl) hb); clear HO387; clear HO389; clear HO395; clear HO398; clear HB; have HO387 := n0_; have HO389 := n1_; have HO395 := n2_; have HO398 := n3_; have HB := n4_; clear n0_ n1_ n2_ n3_ n4_; (try clear hb); (try clear hb2); (try clear hk); (try clear hi))); try go_wp2_with (first | (go_at_call 85; (with_reducible refine (impl_ScanIsFresh.calls kj30 _ _ t382 _ _ t393 t384 t385 t399 _ ?side1 ?side2 ?side3 ?side4 A61.out).mono ?_); (case side1 => exact Kd.C_below (Kd.Q_reads' HO387.out).2.2 (BL (Below.refl _ _) rfl rfl rfl rfl)); (case side2 => exact (Kd.Q_reads' HO387.out).2.1); (case side3 => exact Kd.C_below (Kd.R_reads' HO395.out).2.2 (BL (Below.refl _ _) rfl rfl rfl rfl)); (case side4 => exact (Kd.R_reads' HO395.out).2.1); rintro e w64 ⟨rfl, hb⟩; have n0_ := AM_ (Kd.Q_below (by (with_reducible repeat (first | apply Kd.Q_alloc | apply Kd.Q_drewN | apply Kd.Q_drew)); exact HO387.out) hb); have n1_ := AM_ (Kd.R_below (by exact RL HO389.out rfl) hb); have n2_ := AM_ (Kd.R_below (by exact RL HO395.out rfl) hb); have n3_ := AM_ (Kd.R_below (by exact RL HO398.out rfl) hb); have n4_ := AM_ (below_step (by exact BL HB.out rfl rfl rfl rfl) hb); clear HO387; clear HO389; clear HO395; clear HO398; clear HB; have HO387 := n0_; have HO389 := n1_; have HO395 := n2_; have HO398 := n3_; have HB := n4_; clear n0_ n1_ n2_ n3_ n4_; (try clear hb); (try clear hb2); (try clear hk); (try clear hi))))
               go_meet
               case rel => exact ⟨_, (!t399), (by first | rfl | (simp; done) | (simp [*]; done)), H', ⟨by have := HJ6.out; have := HK2.out; have := HJ30.out; first | omega | exact Nat.le_refl _⟩, ⟨by (with_reducible repeat (first | apply Kd.Q_alloc | apply Kd.Q_drewN | apply Kd.Q_drew)); exact Kd.Q_mono HO387.out (fun _ hk => hk.1.2)⟩, ⟨by (with_reducible repeat (first | apply Kd.R_alloc | apply Kd.R_drewN | apply Kd.R_drew)); exact Kd.R_mono HO395.out (fun _ hk => hk.1.1.2)⟩, ⟨by exact BL HB.out rfl rfl rfl rfl⟩⟩
              ·rw [if_neg c60] at H
               have c60b0 : ((t396.length : Int) == (t393.length : Int)) = false := beq_eq_false_iff_ne.mpr c60
               have c60b1 : ((t396.length : Int) != (t393.length : Int)) = true := bne_iff_ne.mpr c60
               have c60b2 : (t396.length == t393.length) = false := by first | simpa using c60 | (simp at c60 ⊢; omega)
               (first | rw [c60b0] | (simp only [i64_w, i32_w]; rw [c60b0]) | skip)
               have H' := AM_ H
               clear H
               obtain ⟨Ao65, co65, eo65⟩ := Kd.R_slice HO398.out
               subst eo65
               obtain ⟨Ao66, co66, eo66⟩ := Kd.R_slice HO395.out
               subst eo66
               go_wp2
               repeat (go_quiet (fail); try go_wp2)
               go_meet
               case rel => exact ⟨_, (true), (by first | rfl | (simp; done) | (simp [*]; done)), H', ⟨by have := HJ6.out; have := HK2.out; have := HJ30.out; first | omega | exact Nat.le_refl _⟩, ⟨by (with_reducible repeat (first | apply Kd.Q_alloc | apply Kd.Q_drewN | apply Kd.Q_drew)); exact Kd.Q_mono HO387.out (fun _ hk => hk.1.2)⟩, ⟨by (with_reducible repeat (first | apply Kd.R_alloc | apply Kd.R_drewN | apply Kd.R_drew)); exact Kd.R_mono HO395.out (fun _ hk => hk.1.1.2)⟩, ⟨by exact BL HB.out rfl rfl rfl rfl⟩⟩
             case rest =>
              clear HC51
              try clear c1
              try clear c2
              try clear p2
              try clear c3
              try clear p3
              try clear q3
              try clear hx3
              try clear c4
              try clear c6
              try clear p6
              try clear c12
              try clear c12b0
              try clear c12b1
              try clear c12b2
              try clear c13
              try clear c13b0
              try clear c13b1
              try clear c13b2
              try clear c14
              try clear c22
              try clear c23
              try clear c23b0
              try clear c24
              try clear c24b0
              try clear c25
              try clear c25b0
              try clear c26
              try clear c26b0
              try clear c33
              try clear c34
              try clear c34b0
              try clear c34b1
              try clear c37
              try clear p37
              try clear q37
              try clear hx37
              try clear p38
              try clear q38
              try clear hx38
              try clear c41
              try clear c41b0
              try clear c41b1
              try clear c41b2
              try clear c48
              try clear c60
              try clear c60b0
              try clear c60b1
              try clear c60b2
              try clear p64
              try clear hx379_0
              try clear hx379_1
              try clear hx379_2
              try clear hx380_0
              try clear hx380_1
              try clear hx380_2
              try clear p2
              try clear p3
              try clear p379
              try clear p380
              try clear p6
              try clear q3
              try clear q379
              try clear q380
              obtain ⟨kq, x128_50, rfl, HA, HJ50, HO_10, HO_15, HB⟩ := hcut
              cases kq with
              | zero => exact absurd HA.out (by simp [laws_FnIndexes.j3])
              | succ kj50 =>
               have H := HA.out
               clear HA
               simp only [laws_FnIndexes.j3] at H
               by_cases c67 : x128_50 = true
               ·subst c67
                have H1 : (some false) = some r := by rw [if_pos rfl] at H; exact H
                clear H
                have H := H1
                clear H1
                obtain rfl := Option.some.inj H
                go_wp2
                repeat (go_quiet (fail); try go_wp2)
                go_ret
                exact ⟨by first | rfl | (simp [errW_none, errW_some] <;> rfl) | (simp [*, errW_none, errW_some] <;> rfl), by exact BL HB.out rfl rfl rfl rfl⟩
               ·replace c67 := Bool.eq_false_iff.mpr c67
                subst c67
                have H1 : (laws_FnIndexes.l1 kj50 t382 t384 t385 t393 0 0) = some r := by rw [if_neg (show ¬ (false = true) by decide)] at H; exact H
                clear H
                have H := H1
                clear H1
                have H' := AM_ H
                clear H
                go_wp2
                repeat (go_quiet (fail); try go_wp2)
                go_loopg [17, 18] kj50 (fun kq v17 v18 w' => ∃ (x17_5 : Int) (x18_5 : Int), v17 = .int .i64 x17_5 ∧ v18 = .int .i64 x18_5 ∧ Aside0 (laws_FnIndexes.l1 kq t382 t384 t385 t393 x17_5 x18_5 = some r) ∧ Aside0 (kq ≤ kj50) ∧ Aside0 (Kd.Q k77 77 w' w.heap.size (fun k_ => some k_ ≠ (v394 : Value).ownBlock) (.slice Ao53 t382.length co53) t382) ∧ Aside0 (Kd.R k77 77 w' w.heap.size (fun k_ => some k_ ≠ ((.slice Ao53 t382.length co53) : Value).ownBlock) v394 t393) ∧ Aside0 (Below w.heap.size w w'))
                case atStart => exact ⟨(0), (0), (by first | rfl | (simp; done) | (simp [*]; done)), (by first | rfl | (simp; done) | (simp [*]; done)), H', ⟨Nat.le_refl _⟩, ⟨by (with_reducible repeat (first | apply Kd.Q_alloc | apply Kd.Q_drewN | apply Kd.Q_drew)); exact HO_10.out⟩, ⟨by exact RL HO_15.out rfl⟩, ⟨by exact BL HB.out rfl rfl rfl rfl⟩⟩
                case round =>
                 clear H'
                 try clear c1
                 try clear c2
                 try clear p2
                 try clear c3
                 try clear p3
                 try clear q3
                 try clear hx3
                 try clear c4
                 try clear c6
                 try clear p6
                 try clear c12
                 try clear c12b0
                 try clear c12b1
                 try clear c12b2
                 try clear c13
                 try clear c13b0
                 try clear c13b1
                 try clear c13b2
                 try clear c14
                 try clear c22
                 try clear c23
                 try clear c23b0
                 try clear c24
                 try clear c24b0
                 try clear c25
                 try clear c25b0
                 try clear c26
                 try clear c26b0
                 try clear c33
                 try clear c34
                 try clear c34b0
                 try clear c34b1
                 try clear c37
                 try clear p37
                 try clear q37
                 try clear hx37
                 try clear p38
                 try clear q38
                 try clear hx38
                 try clear c41
                 try clear c41b0
                 try clear c41b1
                 try clear c41b2
                 try clear c48
                 try clear c60
                 try clear c60b0
                 try clear c60b1
                 try clear c60b2
                 try clear p64
                 try clear c67
                 try clear hx379_0
                 try clear hx379_1
                 try clear hx379_2
                 try clear hx380_0
                 try clear hx380_1
                 try clear hx380_2
                 try clear p2
                 try clear p3
                 try clear p37
                 try clear p379
                 try clear p38
                 try clear p380
                 try clear p6
                 try clear p64
                 try clear q3
                 try clear q37
                 try clear q379
                 try clear q38
                 try clear q380
                 obtain ⟨x17_5, x18_5, rfl, rfl, HA, HK5, HO_10, HO_15, HB⟩ := hrel
                 cases gk with
                 | zero => exact absurd HA.out (by simp [laws_FnIndexes.l1])
                 | succ k5 =>
                  have H := HA.out
                  clear HA
                  simp only [laws_FnIndexes.l1] at H
                  by_cases c68 : x18_5 < (t393.length : Int)
                  ·rw [if_pos c68] at H
                   have c68b0 : decide (x18_5 < (t393.length : Int)) = true := decide_eq_true c68
                   clear c68
                   by_cases c69 : 0 ≤ x18_5
                   ·rw [if_pos c69] at H
                    have c69b0 : decide (0 ≤ x18_5) = true := decide_eq_true c69
                    clear c69
                    obtain ⟨ji70, hji70⟩ : ∃ j_ : Int, (mx x17_5 ((rd_T77 t393 x18_5).f2)) = j_ := ⟨_, rfl⟩
                    replace H : (laws_FnIndexes.l1 k5 t382 t384 t385 t393 ji70 (wrap64 (x18_5 + 1))) = some r := by first | (rw [hji70] at H; exact H) | (simp only [hji70] at H ⊢; exact H)
                    have hji70_ : (if x17_5 < ((rd_T77 t393 x18_5).f2) then ((rd_T77 t393 x18_5).f2) else x17_5) = ji70 := hji70
                    have H' := AM_ H
                    clear H
                    obtain ⟨Ao71, co71, eo71⟩ := Kd.R_slice HO_15.out
                    subst eo71
                    have p400 : 0 ≤ (x18_5 : Int) := of_decide_eq_true (by first | (with_reducible assumption) | assumption)
                    have q400 : x18_5 < (t393.length : Int) := of_decide_eq_true (by first | (with_reducible assumption) | assumption)
                    obtain ⟨ad400, e400, hx400_0, hx400_1, hx400_2⟩ := at_T77 (Kd.R_reads' HO_15.out).2.2 x18_5 p400 q400
                    cases e400
                    replace p400 := eq_true p400
                    replace q400 := eq_true q400
                    go_wp2
                    repeat (go_quiet (fail); try go_wp2)
                    go_roundg k5
                    case measure => have := HJ6.out; have := HK2.out; have := HJ30.out; have := HJ50.out; have := HK5.out; omega
                    case rel => exact ⟨(ji70), (wrap64 (x18_5 + 1)), (by first | rfl | (simp; done) | (simp only [← hji70] <;> (first | rfl | simp)) | (simp [*]; done)), (by first | rfl | (simp; done) | (simp [*]; done)), H', ⟨by have := HJ6.out; have := HK2.out; have := HJ30.out; have := HJ50.out; have := HK5.out; omega⟩, ⟨by (with_reducible repeat (first | apply Kd.Q_alloc | apply Kd.Q_drewN | apply Kd.Q_drew)); exact HO_10.out⟩, ⟨by exact RL HO_15.out rfl⟩, ⟨by exact BL HB.out rfl rfl rfl rfl⟩⟩
                   ·rw [if_neg c69] at H
                    exact absurd H (by simp)
                  ·rw [if_neg c68] at H
                   have c68b0 : decide (x18_5 < (t393.length : Int)) = false := decide_eq_false c68
                   clear c68
                   by_cases c72 : x17_5 = 999
                   ·rw [if_pos c72] at H
                    have c72b0 : (x17_5 == 999) = true := beq_iff_eq.mpr c72
                    have c72b1 : (x17_5 != 999) = false := bne_eq_false_iff_eq.mpr c72
                    clear c72
                    obtain rfl := Option.some.inj H
                    obtain ⟨Ao73, co73, eo73⟩ := Kd.R_slice HO_15.out
                    subst eo73
                    go_wp2
                    repeat (go_quiet (fail); try go_wp2)
                    go_ret
                    exact ⟨by first | rfl | (simp [errW_none, errW_some] <;> rfl) | (simp [*, errW_none, errW_some] <;> rfl), by exact BL HB.out rfl rfl rfl rfl⟩
                   ·rw [if_neg c72] at H
                    have c72b0 : (x17_5 == 999) = false := beq_eq_false_iff_ne.mpr c72
                    have c72b1 : (x17_5 != 999) = true := bne_iff_ne.mpr c72
                    replace H := Option.bind_eq_some_iff.mp H
                    obtain ⟨t401, A740, H⟩ := H
                    replace H : ((impl_ScanIsFresh.f k5 t401 t393 t384 t385).bind fun t404 => (some (!t404))) = some r := H
                    have A74 := AM_ A740
                    clear A740
                    replace H := Option.bind_eq_some_iff.mp H
                    obtain ⟨t404, A750, H⟩ := H
                    replace H : (some (!t404)) = some r := H
                    have A75 := AM_ A750
                    clear A750
                    obtain rfl := Option.some.inj H
                    obtain ⟨Ao76, co76, eo76⟩ := Kd.R_slice HO_15.out
                    subst eo76
                    go_wp2_with (first | (go_at_call 88; (with_reducible refine (impl_MarkIndex.calls k5 _ _ t382 t384 (wrap64 (x17_5 + 1)) t401 _ ?side1 ?side2 A74.out).mono ?_); (case side1 => exact Kd.C_below (Kd.Q_reads' HO_10.out).2.2 (BL (Below.refl _ _) rfl rfl rfl rfl)); (case side2 => exact (Kd.Q_reads' HO_10.out).2.1); rintro e w77 ⟨v402, rfl, ho0, hb⟩; have n0_ := AM_ (Kd.Q_elder' (by (with_reducible repeat (first | apply Kd.Q_alloc | apply Kd.Q_drewN | apply Kd.Q_drew)); exact HO_10.out) (Kd.R_base ho0) hb); have n1_ := AM_ (Kd.R_elder' (by exact RL HO_15.out rfl) (Kd.R_base ho0) hb); have n2_ := AM_ (Kd.R_lower (Kd.R_new' (Kd.R_new' ho0 (Kd.Q_lt (by (with_reducible repeat (first | apply Kd.Q_alloc | apply Kd.Q_drewN | apply Kd.Q_drew)); exact HO_10.out))) (Kd.R_lt (by exact RL HO_15.out rfl))) (below_size (by exact BL HB.out rfl rfl rfl rfl))); have n3_ := AM_ (below_step (by exact BL HB.out rfl rfl rfl rfl) hb); clear HO_10; clear HO_15; clear HB; have HO_10 := n0_; have HO_15 := n1_; have HO403 := n2_; have HB := n3_; clear n0_ n1_ n2_ n3_; (try clear hb); (try clear hb2); (try clear hk); (try clear hi); (try clear ho0); obtain ⟨Ao78, co78, eo78⟩ := Kd.R_slice HO403.out; subst eo78) | (go_at_call 85; (with_reducible refine (impl_ScanIsFresh.calls k5 _ _ t401 _ _ t393 t384 t385 t404 _ ?side1 ?side2 ?side3 ?side4 A75.out).mono ?_); (case side1 => exact Kd.C_below (Kd.R_reads' HO403.out).2.2 (BL (Below.refl _ _) rfl rfl rfl rfl)); (case side2 => exact (Kd.R_reads' HO403.out).2.1); (case side3 => exact Kd.C_below (Kd.R_reads' HO_15.out).2.2 (BL (Below.refl _ _) rfl rfl rfl rfl)); (case side4 => exact (Kd.R_reads' HO_15.out).2.1); rintro e w79 ⟨rfl, hb⟩; have n0_ := AM_ (Kd.Q_below (by (with_reducible repeat (first | apply Kd.Q_alloc | apply Kd.Q_drewN | apply Kd.Q_drew)); exact HO_10.out) hb); have n1_ := AM_ (Kd.R_below (by exact RL HO_15.out rfl) hb); have n2_ := AM_ (Kd.R_below (by exact RL HO403.out rfl) hb); have n3_ := AM_ (below_step (by exact BL HB.out rfl rfl rfl rfl) hb); clear HO_10; clear HO_15; clear HO403; clear HB; have HO_10 := n0_; have HO_15 := n1_; have HO403 := n2_; have HB := n3_; clear n0_ n1_ n2_ n3_; (try clear hb); (try clear hb2); (try clear hk); (try clear hi)))
                    repeat (go_quiet (first | (go_at_call 88; (with_reducible refine (impl_MarkIndex.calls k5 _ _ t382 t384 (wrap64 (x17_5 + 1)) t401 _ ?side1 ?side2 A74.out).mono ?_); (case side1 => exact Kd.C_below (Kd.Q_reads' HO_10.out).2.2 (BL (Below.refl _ _) rfl rfl rfl rfl)); (case side2 => exact (Kd.Q_reads' HO_10.out).2.1); rintro e w77 ⟨v402, rfl, ho0, hb⟩; have n0_ := AM_ (Kd.Q_elder' (by (with_reducible repeat (first | apply Kd.Q_alloc | apply Kd.Q_drewN | apply Kd.Q_drew)); exact HO_10.out) (Kd.R_base ho0) hb); have n1_ := AM_ (Kd.R_elder' (by exact RL HO_15.out rfl) (Kd.R_base ho0) hb); have n2_ := AM_ (Kd.R_lower (Kd.R_new' (Kd.R_new' ho0 (Kd.Q_lt (by (with_reducible repeat (first | apply Kd.Q_alloc | apply Kd.Q_drewN | apply Kd.Q_drew)); exact HO_10.out))) (Kd.R_lt (by exact RL HO_15.out rfl))) (below_size (by exact BL HB.out rfl rfl rfl rfl))); have n3_ := AM_ (below_step (by exact BL HB.out rfl rfl rfl rfl) hb); clear HO_10; clear HO_15; clear HB; have HO_10 := n0_; have HO_15 := n1_; have HO403 := n2_; have HB := n3_; clear n0_ n1_ n2_ n3_; (try clear hb); (try clear hb2); (try clear hk); (try clear hi); (try clear ho0); obtain ⟨Ao78, co78, eo78⟩ := Kd.R_slice HO403.out; subst eo78) | (go_at_call 85; (with_reducible refine (impl_ScanIsFresh.calls k5 _ _ t401 _ _ t393 t384 t385 t404 _ ?side1 ?side2 ?side3 ?side4 A75.out).mono ?_); (case side1 => exact Kd.C_below (Kd.R_reads' HO403.out).2.2 (BL (Below.refl _ _) rfl rfl rfl rfl)); (case side2 => exact (Kd.R_reads' HO403.out).2.1); (case side3 => exact Kd.C_below (Kd.R_reads' HO_15.out).2.2 (BL (Below.refl _ _) rfl rfl rfl rfl)); (case side4 => exact (Kd.R_reads' HO_15.out).2.1); rintro e w79 ⟨rfl, hb⟩; have n0_ := AM_ (Kd.Q_below (by (with_reducible repeat (first | apply Kd.Q_alloc | apply Kd.Q_drewN | apply Kd.Q_drew)); exact HO_10.out) hb); have n1_ := AM_ (Kd.R_below (by exact RL HO_15.out rfl) hb); have n2_ := AM_ (Kd.R_below (by exact RL HO403.out rfl) hb); have n3_ := AM_ (below_step (by exact BL HB.out rfl rfl rfl rfl) hb); clear HO_10; clear HO_15; clear HO403; clear HB; have HO_10 := n0_; have HO_15 := n1_; have HO403 := n2_; have HB := n3_; clear n0_ n1_ n2_ n3_; (try clear hb); (try clear hb2); (try clear hk); (try clear hi))); try go_wp2_with (first | (go_at_call 88; (with_reducible refine (impl_MarkIndex.calls k5 _ _ t382 t384 (wrap64 (x17_5 + 1)) t401 _ ?side1 ?side2 A74.out).mono ?_); (case side1 => exact Kd.C_below (Kd.Q_reads' HO_10.out).2.2 (BL (Below.refl _ _) rfl rfl rfl rfl)); (case side2 => exact (Kd.Q_reads' HO_10.out).2.1); rintro e w77 ⟨v402, rfl, ho0, hb⟩; have n0_ := AM_ (Kd.Q_elder' (by (with_reducible repeat (first | apply Kd.Q_alloc | apply Kd.Q_drewN | apply Kd.Q_drew)); exact HO_10.out) (Kd.R_base ho0) hb); have n1_ := AM_ (Kd.R_elder' (by exact RL HO_15.out rfl) (Kd.R_base ho0) hb); have n2_ := AM_ (Kd.R_lower (Kd.R_new' (Kd.R_new' ho0 (Kd.Q_lt (by (with_reducible repeat (first | apply Kd.Q_alloc | apply Kd.Q_drewN | apply Kd.Q_drew)); exact HO_10.out))) (Kd.R_lt (by exact RL HO_15.out rfl))) (below_size (by exact BL HB.out rfl rfl rfl rfl))); have n3_ := AM_ (below_step (by exact BL HB.out rfl rfl rfl rfl) hb); clear HO_10; clear HO_15; clear HB; have HO_10 := n0_; have HO_15 := n1_; have HO403 := n2_; have HB := n3_; clear n0_ n1_ n2_ n3_; (try clear hb); (try clear hb2); (try clear hk); (try clear hi); (try clear ho0); obtain ⟨Ao78, co78, eo78⟩ := Kd.R_slice HO403.out; subst eo78) | (go_at_call 85; (with_reducible refine (impl_ScanIsFresh.calls k5 _ _ t401 _ _ t393 t384 t385 t404 _ ?side1 ?side2 ?side3 ?side4 A75.out).mono ?_); (case side1 => exact Kd.C_below (Kd.R_reads' HO403.out).2.2 (BL (Below.refl _ _) rfl rfl rfl rfl)); (case side2 => exact (Kd.R_reads' HO403.out).2.1); (case side3 => exact Kd.C_below (Kd.R_reads' HO_15.out).2.2 (BL (Below.refl _ _) rfl rfl rfl rfl)); (case side4 => exact (Kd.R_reads' HO_15.out).2.1); rintro e w79 ⟨rfl, hb⟩; have n0_ := AM_ (Kd.Q_below (by (with_reducible repeat (first | apply Kd.Q_alloc | apply Kd.Q_drewN | apply Kd.Q_drew)); exact HO_10.out) hb); have n1_ := AM_ (Kd.R_below (by exact RL HO_15.out rfl) hb); have n2_ := AM_ (Kd.R_below (by exact RL HO403.out rfl) hb); have n3_ := AM_ (below_step (by exact BL HB.out rfl rfl rfl rfl) hb); clear HO_10; clear HO_15; clear HO403; clear HB; have HO_10 := n0_; have HO_15 := n1_; have HO403 := n2_; have HB := n3_; clear n0_ n1_ n2_ n3_; (try clear hb); (try clear hb2); (try clear hk); (try clear hi))))
                    go_ret
                    exact ⟨by first | rfl | (simp [errW_none, errW_some] <;> rfl) | (simp [*, errW_none, errW_some] <;> rfl), by exact BL HB.out rfl rfl rfl rfl⟩
            ·replace c48 := Bool.eq_false_iff.mpr c48
             subst c48
             have H1 : (some (!t390)) = some r := by rw [if_neg (show ¬ (false = true) by decide)] at H; exact H
             clear H
             have H := H1
             clear H1
             obtain rfl := Option.some.inj H
             go_wp2_with (first | (go_at_call 84; (with_reducible refine (spec_DrawScanIsFresh.calls kj30 _ _ l0 t382 t383 t384 t385 _ ?side1 ?side2 A38.out).mono ?_); (case side1 => exact Kd.C_below (Kd.C_below HR0.out HB.out) (BL (Below.refl _ _) rfl rfl rfl rfl)); (case side2 => exact HC0.out); rintro e w80 ⟨v386, v388, rfl, ho0, ho1, hb⟩; have n0_ := AM_ (Kd.Q_lower ho0 (below_size (by exact BL HB.out rfl rfl rfl rfl))); have n1_ := AM_ (Kd.R_lower ho1 (below_size (by exact BL HB.out rfl rfl rfl rfl))); have n2_ := AM_ (below_step (by exact BL HB.out rfl rfl rfl rfl) hb); clear HB; have HO387 := n0_; have HO389 := n1_; have HB := n2_; clear n0_ n1_ n2_; (try clear hb); (try clear hb2); (try clear hk); (try clear hi); (try clear ho0); (try clear ho1); obtain ⟨Ao81, co81, eo81, _⟩ := Kd.Q_slice HO387.out; subst eo81; obtain ⟨Ao82, co82, eo82⟩ := Kd.R_slice HO389.out; subst eo82) | (go_at_call 85; (with_reducible refine (impl_ScanIsFresh.calls kj30 _ _ t382 _ _ t383 t384 t385 t390 _ ?side1 ?side2 ?side3 ?side4 A39.out).mono ?_); (case side1 => exact Kd.C_below (Kd.Q_reads' HO387.out).2.2 (BL (Below.refl _ _) rfl rfl rfl rfl)); (case side2 => exact (Kd.Q_reads' HO387.out).2.1); (case side3 => exact Kd.C_below (Kd.R_reads' HO389.out).2.2 (BL (Below.refl _ _) rfl rfl rfl rfl)); (case side4 => exact (Kd.R_reads' HO389.out).2.1); rintro e w83 ⟨rfl, hb⟩; have n0_ := AM_ (Kd.Q_below (by (with_reducible repeat (first | apply Kd.Q_alloc | apply Kd.Q_drewN | apply Kd.Q_drew)); exact HO387.out) hb); have n1_ := AM_ (Kd.R_below (by exact RL HO389.out rfl) hb); have n2_ := AM_ (below_step (by exact BL HB.out rfl rfl rfl rfl) hb); clear HO387; clear HO389; clear HB; have HO387 := n0_; have HO389 := n1_; have HB := n2_; clear n0_ n1_ n2_; (try clear hb); (try clear hb2); (try clear hk); (try clear hi)) | (go_at_call 86; (with_reducible refine (spec_ScanIsFresh.calls kj30 _ _ t382 _ _ t383 t384 t385 t391 _ ?side1 ?side2 ?side3 ?side4 A40.out).mono ?_); (case side1 => exact Kd.C_below (Kd.Q_reads' HO387.out).2.2 (BL (Below.refl _ _) rfl rfl rfl rfl)); (case side2 => exact (Kd.Q_reads' HO387.out).2.1); (case side3 => exact Kd.C_below (Kd.R_reads' HO389.out).2.2 (BL (Below.refl _ _) rfl rfl rfl rfl)); (case side4 => exact (Kd.R_reads' HO389.out).2.1); rintro e w84 ⟨rfl, hb⟩; have n0_ := AM_ (Kd.Q_below (by (with_reducible repeat (first | apply Kd.Q_alloc | apply Kd.Q_drewN | apply Kd.Q_drew)); exact HO387.out) hb); have n1_ := AM_ (Kd.R_below (by exact RL HO389.out rfl) hb); have n2_ := AM_ (below_step (by exact BL HB.out rfl rfl rfl rfl) hb); clear HO387; clear HO389; clear HB; have HO387 := n0_; have HO389 := n1_; have HB := n2_; clear n0_ n1_ n2_; (try clear hb); (try clear hb2); (try clear hk); (try clear hi)) | (go_at_call 83; (with_reducible refine (spec_IsIndex.calls kj30 _ _ t382 false _ ?side1 ?side2 A47.out).mono ?_); (case side1 => exact Kd.C_below (Kd.Q_reads' HO387.out).2.2 (BL (Below.refl _ _) rfl rfl rfl rfl)); (case side2 => exact (Kd.Q_reads' HO387.out).2.1); rintro e w85 ⟨rfl, hb⟩; have n0_ := AM_ (Kd.Q_below (by (with_reducible repeat (first | apply Kd.Q_alloc | apply Kd.Q_drewN | apply Kd.Q_drew)); exact HO387.out) hb); have n1_ := AM_ (Kd.R_below (by exact RL HO389.out rfl) hb); have n2_ := AM_ (below_step (by exact BL HB.out rfl rfl rfl rfl) hb); clear HO387; clear HO389; clear HB; have HO387 := n0_; have HO389 := n1_; have HB := n2_; clear n0_ n1_ n2_; (try clear hb); (try clear hb2); (try clear hk); (try clear hi)))
             repeat (go_quiet (first | (go_at_call 84; (with_reducible refine (spec_DrawScanIsFresh.calls kj30 _ _ l0 t382 t383 t384 t385 _ ?side1 ?side2 A38.out).mono ?_); (case side1 => exact Kd.C_below (Kd.C_below HR0.out HB.out) (BL (Below.refl _ _) rfl rfl rfl rfl)); (case side2 => exact HC0.out); rintro e w80 ⟨v386, v388, rfl, ho0, ho1, hb⟩; have n0_ := AM_ (Kd.Q_lower ho0 (below_size (by exact BL HB.out rfl rfl rfl rfl))); have n1_ := AM_ (Kd.R_lower ho1 (below_size (by exact BL HB.out rfl rfl rfl rfl))); have n2_ := AM_ (below_step (by exact BL HB.out rfl rfl rfl rfl) hb); clear HB; have HO387 := n0_; have HO389 := n1_; have HB := n2_; clear n0_ n1_ n2_; (try clear hb); (try clear hb2); (try clear hk); (try clear hi); (try clear ho0); (try clear ho1); obtain ⟨Ao81, co81, eo81, _⟩ := Kd.Q_slice HO387.out; subst eo81; obtain ⟨Ao82, co82, eo82⟩ := Kd.R_slice HO389.out; subst eo82) | (go_at_call 85; (with_reducible refine (impl_ScanIsFresh.calls kj30 _ _ t382 _ _ t383 t384 t385 t390 _ ?side1 ?side2 ?side3 ?side4 A39.out).mono ?_); (case side1 => exact Kd.C_below (Kd.Q_reads' HO387.out).2.2 (BL (Below.refl _ _) rfl rfl rfl rfl)); (case side2 => exact (Kd.Q_reads' HO387.out).2.1); (case side3 => exact Kd.C_below (Kd.R_reads' HO389.out).2.2 (BL (Below.refl _ _) rfl rfl rfl rfl)); (case side4 => exact (Kd.R_reads' HO389.out).2.1); rintro e w83 ⟨rfl, hb⟩; have n0_ := AM_ (Kd.Q_below (by (with_reducible repeat (first | apply Kd.Q_alloc | apply Kd.Q_drewN | apply Kd.Q_drew)); exact HO387.out) hb); have n1_ := AM_ (Kd.R_below (by exact RL HO389.out rfl) hb); have n2_ := AM_ (below_step (by exact BL HB.out rfl rfl rfl rfl) hb); clear HO387; clear HO389; clear HB; have HO387 := n0_; have HO389 := n1_; have HB := n2_; clear n0_ n1_ n2_; (try clear hb); (try clear hb2); (try clear hk); (try clear hi)) | (go_at_call 86; (with_reducible refine (spec_ScanIsFresh.calls kj30 _ _ t382 _ _ t383 t384 t385 t391 _ ?side1 ?side2 ?side3 ?side4 A40.out).mono ?_); (case side1 => exact Kd.C_below (Kd.Q_reads' HO387.out).2.2 (BL (Below.refl _ _) rfl rfl rfl rfl)); (case side2 => exact (Kd.Q_reads' HO387.out).2.1); (case side3 => exact Kd.C_below (Kd.R_reads' HO389.out).2.2 (BL (Below.refl _ _) rfl rfl rfl rfl)); (case side4 => exact (Kd.R_reads' HO389.out).2.1); rintro e w84 ⟨rfl, hb⟩; have n0_ := AM_ (Kd.Q_below (by (with_reducible repeat (first | apply Kd.Q_alloc | apply Kd.Q_drewN | apply Kd.Q_drew)); exact HO387.out) hb); have n1_ := AM_ (Kd.R_below (by exact RL HO389.out rfl) hb); have n2_ := AM_ (below_step (by exact BL HB.out rfl rfl rfl rfl) hb); clear HO387; clear HO389; clear HB; have HO387 := n0_; have HO389 := n1_; have HB := n2_; clear n0_ n1_ n2_; (try clear hb); (try clear hb2); (try clear hk); (try clear hi)) | (go_at_call 83; (with_reducible refine (spec_IsIndex.calls kj30 _ _ t382 false _ ?side1 ?side2 A47.out).mono ?_); (case side1 => exact Kd.C_below (Kd.Q_reads' HO387.out).2.2 (BL (Below.refl _ _) rfl rfl rfl rfl)); (case side2 => exact (Kd.Q_reads' HO387.out).2.1); rintro e w85 ⟨rfl, hb⟩; have n0_ := AM_ (Kd.Q_below (by (with_reducible repeat (first | apply Kd.Q_alloc | apply Kd.Q_drewN | apply Kd.Q_drew)); exact HO387.out) hb); have n1_ := AM_ (Kd.R_below (by exact RL HO389.out rfl) hb); have n2_ := AM_ (below_step (by exact BL HB.out rfl rfl rfl rfl) hb); clear HO387; clear HO389; clear HB; have HO387 := n0_; have HO389 := n1_; have HB := n2_; clear n0_ n1_ n2_; (try clear hb); (try clear hb2); (try clear hk); (try clear hi))); try go_wp2_with (first | (go_at_call 84; (with_reducible refine (spec_DrawScanIsFresh.calls kj30 _ _ l0 t382 t383 t384 t385 _ ?side1 ?side2 A38.out).mono ?_); (case side1 => exact Kd.C_below (Kd.C_below HR0.out HB.out) (BL (Below.refl _ _) rfl rfl rfl rfl)); (case side2 => exact HC0.out); rintro e w80 ⟨v386, v388, rfl, ho0, ho1, hb⟩; have n0_ := AM_ (Kd.Q_lower ho0 (below_size (by exact BL HB.out rfl rfl rfl rfl))); have n1_ := AM_ (Kd.R_lower ho1 (below_size (by exact BL HB.out rfl rfl rfl rfl))); have n2_ := AM_ (below_step (by exact BL HB.out rfl rfl rfl rfl) hb); clear HB; have HO387 := n0_; have HO389 := n1_; have HB := n2_; clear n0_ n1_ n2_; (try clear hb); (try clear hb2); (try clear hk); (try clear hi); (try clear ho0); (try clear ho1); obtain ⟨Ao81, co81, eo81, _⟩ := Kd.Q_slice HO387.out; subst eo81; obtain ⟨Ao82, co82, eo82⟩ := Kd.R_slice HO389.out; subst eo82) | (go_at_call 85; (with_reducible refine (impl_ScanIsFresh.calls kj30 _ _ t382 _ _ t383 t384 t385 t390 _ ?side1 ?side2 ?side3 ?side4 A39.out).mono ?_); (case side1 => exact Kd.C_below (Kd.Q_reads' HO387.out).2.2 (BL (Below.refl _ _) rfl rfl rfl rfl)); (case side2 => exact (Kd.Q_reads' HO387.out).2.1); (case side3 => exact Kd.C_below (Kd.R_reads' HO389.out).2.2 (BL (Below.refl _ _) rfl rfl rfl rfl)); (case side4 => exact (Kd.R_reads' HO389.out).2.1); rintro e w83 ⟨rfl, hb⟩; have n0_ := AM_ (Kd.Q_below (by (with_reducible repeat (first | apply Kd.Q_alloc | apply Kd.Q_drewN | apply Kd.Q_drew)); exact HO387.out) hb); have n1_ := AM_ (Kd.R_below (by exact RL HO389.out rfl) hb); have n2_ := AM_ (below_step (by exact BL HB.out rfl rfl rfl rfl) hb); clear HO387; clear HO389; clear HB; have HO387 := n0_; have HO389 := n1_; have HB := n2_; clear n0_ n1_ n2_; (try clear hb); (try clear hb2); (try clear hk); (try clear hi)) | (go_at_call 86; (with_reducible refine (spec_ScanIsFresh.calls kj30 _ _ t382 _ _ t383 t384 t385 t391 _ ?side1 ?side2 ?side3 ?side4 A40.out).mono ?_); (case side1 => exact Kd.C_below (Kd.Q_reads' HO387.out).2.2 (BL (Below.refl _ _) rfl rfl rfl rfl)); (case side2 => exact (Kd.Q_reads' HO387.out).2.1); (case side3 => exact Kd.C_below (Kd.R_reads' HO389.out).2.2 (BL (Below.refl _ _) rfl rfl rfl rfl)); (case side4 => exact (Kd.R_reads' HO389.out).2.1); rintro e w84 ⟨rfl, hb⟩; have n0_ := AM_ (Kd.Q_below (by (with_reducible repeat (first | apply Kd.Q_alloc | apply Kd.Q_drewN | apply Kd.Q_drew)); exact HO387.out) hb); have n1_ := AM_ (Kd.R_below (by exact RL HO389.out rfl) hb); have n2_ := AM_ (below_step (by exact BL HB.out rfl rfl rfl rfl) hb); clear HO387; clear HO389; clear HB; have HO387 := n0_; have HO389 := n1_; have HB := n2_; clear n0_ n1_ n2_; (try clear hb); (try clear hb2); (try clear hk); (try clear hi)) | (go_at_call 83; (with_reducible refine (spec_IsIndex.calls kj30 _ _ t382 false _ ?side1 ?side2 A47.out).mono ?_); (case side1 => exact Kd.C_below (Kd.Q_reads' HO387.out).2.2 (BL (Below.refl _ _) rfl rfl rfl rfl)); (case side2 => exact (Kd.Q_reads' HO387.out).2.1); rintro e w85 ⟨rfl, hb⟩; have n0_ := AM_ (Kd.Q_below (by (with_reducible repeat (first | apply Kd.Q_alloc | apply Kd.Q_drewN | apply Kd.Q_drew)); exact HO387.out) hb); have n1_ := AM_ (Kd.R_below (by exact RL HO389.out rfl) hb); have n2_ := AM_ (below_step (by exact BL HB.out rfl rfl rfl rfl) hb); clear HO387; clear HO389; clear HB; have HO387 := n0_; have HO389 := n1_; have HB := n2_; clear n0_ n1_ n2_; (try clear hb); (try clear hb2); (try clear hk); (try clear hi))))
             go_ret
             exact ⟨by first | rfl | (simp [errW_none, errW_some] <;> rfl) | (simp [*, errW_none, errW_some] <;> rfl), by exact BL HB.out rfl rfl rfl rfl⟩

/-- THE ONE PURE STATEMENT of laws_FnIndexes: yours. -/
def laws_FnIndexes.Pure : Prop := ∀ (l0 : List Int), l0.length ≤ maxLen → l0.length * 1 ≤ 140737488351232 → (∀ x ∈ l0, (Lit.int .u8 x).wf = true) → ∃ k, laws_FnIndexes.f k l0 = some true
theorem laws_FnIndexes.walk (P : laws_FnIndexes.Pure) (a0 : Option Addr) (len0 cap0 : Nat) (z0 : List Int) (w : World) (w0 : (a0 = none ∧ len0 = 0 ∧ cap0 = 0 ∧ z0 = []) ∨ ∃ x, a0 = some x ∧ len0 ≤ cap0 ∧ cap0 ≤ maxLen ∧ z0.length = cap0 ∧ (∀ i, i < z0.length → w.cell? (x.add i) = some (.int .u8 (z0.getD i 0))) ∧ ∀ n ∈ z0, (Lit.int .u8 n).wf = true) (y0 : len0 * 1 ≤ 140737488351232) :
  Calls Try.prog 14 #[.slice a0 len0 cap0] w fun e w' => e = .returned (.bool true) ∧ Below w.heap.size w w' := by
 obtain ⟨l0, rfl, hr0, hm0, hw0, hc0⟩ := ReadsInt.ofRowC w0
 obtain ⟨k, h⟩ := P l0 hm0 y0 hw0
 refine (laws_FnIndexes.calls k _ _ l0 true w (Kd.C_of_reads (d := (0 : Int)) (h1 := fun _ => rfl) hr0) hc0 h).mono ?_
 rintro e w' ⟨rfl, hd⟩
 exact ⟨rfl, hd⟩

end Go.Proofs.Ytpiaeinfneoioaa.PFnIndexes
