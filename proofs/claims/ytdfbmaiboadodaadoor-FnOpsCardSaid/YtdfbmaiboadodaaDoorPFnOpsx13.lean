-- Printed by a program of mine (wip/myprint.py), which runs the printer of the kit with contracts of mine beside it.
import Derived.Test.YtdfbmaiboadodaaDoorPFnOpsx0
import Derived.Test.YtdfbmaiboadodaaDoorPFnOpsx1
import Derived.Test.YtdfbmaiboadodaaDoorPFnOpsx2
import Derived.Test.YtdfbmaiboadodaaDoorPFnOpsx3
import Derived.Test.YtdfbmaiboadodaaDoorPFnOpsx6
import Derived.Test.YtdfbmaiboadodaaDoorPFnOpsx7
import Derived.Test.YtdfbmaiboadodaaDoorPFnOpsx8
import Derived.Test.YtdfbmaiboadodaaDoorPFnOpsx9
import Derived.Test.YtdfbmaiboadodaaDoorPFnOpsx10
import Derived.Test.YtdfbmaiboadodaaDoorPFnOpsx11
import Derived.Test.YtdfbmaiboadodaaDoorPFnOpsx12
namespace Go.Proofs.YtdfbmaiboadodaaDoor.PFnOps
open Go.RowKit Go.Proofs.YtdfbmaiboadodaaDoorW.PrintWords Go.Proofs.YtdfbmaiboadodaaDoorW.PrintLast Go.Proofs.YtdfbmaiboadodaaDoorW.PrintMore
attribute [local go_sem] max2_int min2_int max_two min_two max_three min_three max_four min_four   -- for this text's walks alone
set_option linter.unusedVariables false
set_option linter.unusedSimpArgs false

attribute [local go_sem high] eqA25
/-! ### laws_FnOps: function 3 -/
mutual
def laws_FnOps.j0 : Nat → List Int → Bool → Option (Bool)
 | 0, _, _ => none
 | k + 1, x0, x43 => if x43 = true then (some false) else ((spec_DrawFormatOps.f k x0).bind fun t454 => ((impl_FormatOps.f k t454).bind fun t457 => ((impl_ParseOps.f k t457).bind fun bt458 => ((spec_FormatOps.f k t454).bind fun t462 => (if t457.toList = t462.toList then (if t457.toList = ([] : List UInt8) then (laws_FnOps.j1 k t454 false) else (if bt458.2 = true then ((impl_EqualOps.f k t454 bt458.1).bind fun t463 => (laws_FnOps.j1 k t454 (!t463))) else (laws_FnOps.j1 k t454 true))) else (laws_FnOps.j1 k t454 true))))))
def laws_FnOps.j1 : Nat → List (S25) → Bool → Option (Bool)
 | 0, _, _ => none
 | k + 1, x7, x70 => if x70 = true then (some false) else (laws_FnOps.l0 k x7 0 1)
def laws_FnOps.l0 : Nat → List (S25) → Int → Int → Option (Bool)
 | 0, _, _, _ => none
 | k + 1, x7, x11, x12 => if x12 ≤ 9 then ((impl_OpsOf.f k x7 x12).bind fun t464 => (laws_FnOps.l0 k x7 (wrap64 (x11 + (t464.length : Int))) (wrap64 (x12 + 1)))) else (laws_FnOps.l1 k x7 x11 0 0)
def laws_FnOps.l1 : Nat → List (S25) → Int → Int → Int → Option (Bool)
 | 0, _, _, _, _ => none
 | k + 1, x7, x11, x13, x14 => if x14 < (x7.length : Int) then (if 0 ≤ x14 then (if ((rd_T25 x7 x14).f1) ≥ 1 then (if ((rd_T25 x7 x14).f1) ≤ 9 then (laws_FnOps.l1 k x7 x11 (wrap64 (x13 + 1)) (wrap64 (x14 + 1))) else (laws_FnOps.l1 k x7 x11 x13 (wrap64 (x14 + 1)))) else (laws_FnOps.l1 k x7 x11 x13 (wrap64 (x14 + 1)))) else (none)) else (some (x11 == x13))
end
def laws_FnOps.f (k : Nat) (l0 : List Int) : Option (Bool) := (laws_big.f l0).bind fun t435 => (if t435 = true then (some true) else ((spec_DrawFormatOp.f k l0).bind fun bt436 => ((impl_FormatOp.f k bt436.1 bt436.2.1 bt436.2.2.1 bt436.2.2.2.1 bt436.2.2.2.2.1 bt436.2.2.2.2.2).bind fun t443 => ((impl_ParseOp.f k t443).bind fun bt444 => ((spec_FormatOp.f k bt436.1 bt436.2.1 bt436.2.2.1 bt436.2.2.2.1 bt436.2.2.2.2.1 bt436.2.2.2.2.2).bind fun t452 => (if t443.toList = t452.toList then ((spec_IsValidOp.f k bt436.1 bt436.2.1 bt436.2.2.1 bt436.2.2.2.1 bt436.2.2.2.2.1 bt436.2.2.2.2.2).bind fun t453 => (if (bt444.2.2.2.2.2.2 != t453) = true then (laws_FnOps.j0 k l0 true) else (if bt444.2.2.2.2.2.2 = true then (laws_FnOps.j0 k l0 (!(bt444.1 == bt436.1) || (!(bt444.2.1 == bt436.2.1) || (!(bt444.2.2.1 == bt436.2.2.1) || (!(bt444.2.2.2.1 == bt436.2.2.2.1) || (!(bt444.2.2.2.2.1 == bt436.2.2.2.2.1) || (!(bt444.2.2.2.2.2.1 == bt436.2.2.2.2.2)))))))) else (laws_FnOps.j0 k l0 false)))) else (laws_FnOps.j0 k l0 true)))))))
theorem laws_FnOps.mono_l : ∀ k, (∀ y0 y1, LeO (laws_FnOps.j0 k y0 y1) (laws_FnOps.j0 (k + 1) y0 y1)) ∧ (∀ y0 y1, LeO (laws_FnOps.j1 k y0 y1) (laws_FnOps.j1 (k + 1) y0 y1)) ∧ (∀ y0 y1 y2, LeO (laws_FnOps.l0 k y0 y1 y2) (laws_FnOps.l0 (k + 1) y0 y1 y2)) ∧ (∀ y0 y1 y2 y3, LeO (laws_FnOps.l1 k y0 y1 y2 y3) (laws_FnOps.l1 (k + 1) y0 y1 y2 y3))
 | 0 => ⟨fun _ _ r h => by simp [laws_FnOps.j0] at h, fun _ _ r h => by simp [laws_FnOps.j1] at h, fun _ _ _ r h => by simp [laws_FnOps.l0] at h, fun _ _ _ _ r h => by simp [laws_FnOps.l1] at h⟩
 | k + 1 => by
  obtain ⟨ih0, ih1, ih2, ih3⟩ := laws_FnOps.mono_l k
  refine ⟨?_, ?_, ?_, ?_⟩
  ·intro y0 y1
   unfold laws_FnOps.j0
   repeat' first
   | (with_reducible exact ih0 _ _)
   | (with_reducible exact ih1 _ _)
   | (with_reducible exact ih2 _ _ _)
   | (with_reducible exact ih3 _ _ _ _)
   | (with_reducible exact impl_EqualOps.mono _ _ _)
   | (with_reducible exact impl_FormatOp.mono _ _ _ _ _ _ _)
   | (with_reducible exact impl_FormatOps.mono _ _)
   | (with_reducible exact impl_OpsOf.mono _ _ _)
   | (with_reducible exact impl_ParseOp.mono _ _)
   | (with_reducible exact impl_ParseOps.mono _ _)
   | (with_reducible exact spec_DrawFormatOp.mono _ _)
   | (with_reducible exact spec_DrawFormatOps.mono _ _)
   | (with_reducible exact spec_FormatOp.mono _ _ _ _ _ _ _)
   | (with_reducible exact spec_FormatOps.mono _ _)
   | (with_reducible exact spec_IsValidOp.mono _ _ _ _ _ _ _)
   | (with_reducible exact LeO.refl _)
   | (with_reducible exact LeO.none _)
   | (with_reducible refine LeO.ite ?_ ?_)
   | (with_reducible refine LeO.bind ?_ (fun _ => ?_))
   | exact ih0 _ _
   | exact ih1 _ _
   | exact ih2 _ _ _
   | exact ih3 _ _ _ _
   | exact impl_EqualOps.mono _ _ _
   | exact impl_FormatOp.mono _ _ _ _ _ _ _
   | exact impl_FormatOps.mono _ _
   | exact impl_OpsOf.mono _ _ _
   | exact impl_ParseOp.mono _ _
   | exact impl_ParseOps.mono _ _
   | exact spec_DrawFormatOp.mono _ _
   | exact spec_DrawFormatOps.mono _ _
   | exact spec_FormatOp.mono _ _ _ _ _ _ _
   | exact spec_FormatOps.mono _ _
   | exact spec_IsValidOp.mono _ _ _ _ _ _ _
   | exact LeO.none _
   | refine LeO.ite ?_ ?_
   | refine LeO.bind ?_ (fun _ => ?_)
  ·intro y0 y1
   unfold laws_FnOps.j1
   repeat' first
   | (with_reducible exact ih0 _ _)
   | (with_reducible exact ih1 _ _)
   | (with_reducible exact ih2 _ _ _)
   | (with_reducible exact ih3 _ _ _ _)
   | (with_reducible exact impl_EqualOps.mono _ _ _)
   | (with_reducible exact impl_FormatOp.mono _ _ _ _ _ _ _)
   | (with_reducible exact impl_FormatOps.mono _ _)
   | (with_reducible exact impl_OpsOf.mono _ _ _)
   | (with_reducible exact impl_ParseOp.mono _ _)
   | (with_reducible exact impl_ParseOps.mono _ _)
   | (with_reducible exact spec_DrawFormatOp.mono _ _)
   | (with_reducible exact spec_DrawFormatOps.mono _ _)
   | (with_reducible exact spec_FormatOp.mono _ _ _ _ _ _ _)
   | (with_reducible exact spec_FormatOps.mono _ _)
   | (with_reducible exact spec_IsValidOp.mono _ _ _ _ _ _ _)
   | (with_reducible exact LeO.refl _)
   | (with_reducible exact LeO.none _)
   | (with_reducible refine LeO.ite ?_ ?_)
   | (with_reducible refine LeO.bind ?_ (fun _ => ?_))
   | exact ih0 _ _
   | exact ih1 _ _
   | exact ih2 _ _ _
   | exact ih3 _ _ _ _
   | exact impl_EqualOps.mono _ _ _
   | exact impl_FormatOp.mono _ _ _ _ _ _ _
   | exact impl_FormatOps.mono _ _
   | exact impl_OpsOf.mono _ _ _
   | exact impl_ParseOp.mono _ _
   | exact impl_ParseOps.mono _ _
   | exact spec_DrawFormatOp.mono _ _
   | exact spec_DrawFormatOps.mono _ _
   | exact spec_FormatOp.mono _ _ _ _ _ _ _
   | exact spec_FormatOps.mono _ _
   | exact spec_IsValidOp.mono _ _ _ _ _ _ _
   | exact LeO.none _
   | refine LeO.ite ?_ ?_
   | refine LeO.bind ?_ (fun _ => ?_)
  ·intro y0 y1 y2
   unfold laws_FnOps.l0
   repeat' first
   | (with_reducible exact ih0 _ _)
   | (with_reducible exact ih1 _ _)
   | (with_reducible exact ih2 _ _ _)
   | (with_reducible exact ih3 _ _ _ _)
   | (with_reducible exact impl_EqualOps.mono _ _ _)
   | (with_reducible exact impl_FormatOp.mono _ _ _ _ _ _ _)
   | (with_reducible exact impl_FormatOps.mono _ _)
   | (with_reducible exact impl_OpsOf.mono _ _ _)
   | (with_reducible exact impl_ParseOp.mono _ _)
   | (with_reducible exact impl_ParseOps.mono _ _)
   | (with_reducible exact spec_DrawFormatOp.mono _ _)
   | (with_reducible exact spec_DrawFormatOps.mono _ _)
   | (with_reducible exact spec_FormatOp.mono _ _ _ _ _ _ _)
   | (with_reducible exact spec_FormatOps.mono _ _)
   | (with_reducible exact spec_IsValidOp.mono _ _ _ _ _ _ _)
   | (with_reducible exact LeO.refl _)
   | (with_reducible exact LeO.none _)
   | (with_reducible refine LeO.ite ?_ ?_)
   | (with_reducible refine LeO.bind ?_ (fun _ => ?_))
   | exact ih0 _ _
   | exact ih1 _ _
   | exact ih2 _ _ _
   | exact ih3 _ _ _ _
   | exact impl_EqualOps.mono _ _ _
   | exact impl_FormatOp.mono _ _ _ _ _ _ _
   | exact impl_FormatOps.mono _ _
   | exact impl_OpsOf.mono _ _ _
   | exact impl_ParseOp.mono _ _
   | exact impl_ParseOps.mono _ _
   | exact spec_DrawFormatOp.mono _ _
   | exact spec_DrawFormatOps.mono _ _
   | exact spec_FormatOp.mono _ _ _ _ _ _ _
   | exact spec_FormatOps.mono _ _
   | exact spec_IsValidOp.mono _ _ _ _ _ _ _
   | exact LeO.none _
   | refine LeO.ite ?_ ?_
   | refine LeO.bind ?_ (fun _ => ?_)
  ·intro y0 y1 y2 y3
   unfold laws_FnOps.l1
   repeat' first
   | (with_reducible exact ih0 _ _)
   | (with_reducible exact ih1 _ _)
   | (with_reducible exact ih2 _ _ _)
   | (with_reducible exact ih3 _ _ _ _)
   | (with_reducible exact impl_EqualOps.mono _ _ _)
   | (with_reducible exact impl_FormatOp.mono _ _ _ _ _ _ _)
   | (with_reducible exact impl_FormatOps.mono _ _)
   | (with_reducible exact impl_OpsOf.mono _ _ _)
   | (with_reducible exact impl_ParseOp.mono _ _)
   | (with_reducible exact impl_ParseOps.mono _ _)
   | (with_reducible exact spec_DrawFormatOp.mono _ _)
   | (with_reducible exact spec_DrawFormatOps.mono _ _)
   | (with_reducible exact spec_FormatOp.mono _ _ _ _ _ _ _)
   | (with_reducible exact spec_FormatOps.mono _ _)
   | (with_reducible exact spec_IsValidOp.mono _ _ _ _ _ _ _)
   | (with_reducible exact LeO.refl _)
   | (with_reducible exact LeO.none _)
   | (with_reducible refine LeO.ite ?_ ?_)
   | (with_reducible refine LeO.bind ?_ (fun _ => ?_))
   | exact ih0 _ _
   | exact ih1 _ _
   | exact ih2 _ _ _
   | exact ih3 _ _ _ _
   | exact impl_EqualOps.mono _ _ _
   | exact impl_FormatOp.mono _ _ _ _ _ _ _
   | exact impl_FormatOps.mono _ _
   | exact impl_OpsOf.mono _ _ _
   | exact impl_ParseOp.mono _ _
   | exact impl_ParseOps.mono _ _
   | exact spec_DrawFormatOp.mono _ _
   | exact spec_DrawFormatOps.mono _ _
   | exact spec_FormatOp.mono _ _ _ _ _ _ _
   | exact spec_FormatOps.mono _ _
   | exact spec_IsValidOp.mono _ _ _ _ _ _ _
   | exact LeO.none _
   | refine LeO.ite ?_ ?_
   | refine LeO.bind ?_ (fun _ => ?_)
theorem laws_FnOps.mono : ∀ a0 k, LeO (laws_FnOps.f k a0) (laws_FnOps.f (k + 1) a0) := by
 intro a0 k
 obtain ⟨ih0, ih1, ih2, ih3⟩ := laws_FnOps.mono_l k
 unfold laws_FnOps.f
 repeat' first
   | (with_reducible exact ih0 _ _)
   | (with_reducible exact ih1 _ _)
   | (with_reducible exact ih2 _ _ _)
   | (with_reducible exact ih3 _ _ _ _)
   | (with_reducible exact impl_EqualOps.mono _ _ _)
   | (with_reducible exact impl_FormatOp.mono _ _ _ _ _ _ _)
   | (with_reducible exact impl_FormatOps.mono _ _)
   | (with_reducible exact impl_OpsOf.mono _ _ _)
   | (with_reducible exact impl_ParseOp.mono _ _)
   | (with_reducible exact impl_ParseOps.mono _ _)
   | (with_reducible exact spec_DrawFormatOp.mono _ _)
   | (with_reducible exact spec_DrawFormatOps.mono _ _)
   | (with_reducible exact spec_FormatOp.mono _ _ _ _ _ _ _)
   | (with_reducible exact spec_FormatOps.mono _ _)
   | (with_reducible exact spec_IsValidOp.mono _ _ _ _ _ _ _)
   | (with_reducible exact LeO.refl _)
   | (with_reducible exact LeO.none _)
   | (with_reducible refine LeO.ite ?_ ?_)
   | (with_reducible refine LeO.bind ?_ (fun _ => ?_))
   | exact ih0 _ _
   | exact ih1 _ _
   | exact ih2 _ _ _
   | exact ih3 _ _ _ _
   | exact impl_EqualOps.mono _ _ _
   | exact impl_FormatOp.mono _ _ _ _ _ _ _
   | exact impl_FormatOps.mono _ _
   | exact impl_OpsOf.mono _ _ _
   | exact impl_ParseOp.mono _ _
   | exact impl_ParseOps.mono _ _
   | exact spec_DrawFormatOp.mono _ _
   | exact spec_DrawFormatOps.mono _ _
   | exact spec_FormatOp.mono _ _ _ _ _ _ _
   | exact spec_FormatOps.mono _ _
   | exact spec_IsValidOp.mono _ _ _ _ _ _ _
   | exact LeO.none _
   | refine LeO.ite ?_ ?_
   | refine LeO.bind ?_ (fun _ => ?_)
set_option maxHeartbeats 8000000 in
set_option maxRecDepth 100000 in
theorem laws_FnOps.calls (k : Nat) (A0 : Option Addr) (c0 : Nat) (l0 : List Int) (r : Bool) (w : World) (hr0 : Kd.C (Kd.int .u8) w A0 l0.length l0) (hc0 : l0.length ≤ c0) (hTB : Tryd.TB w) (h : laws_FnOps.f k l0 = some r) :
  Calls Tryd.prog 3 #[.slice A0 l0.length c0] w fun e w' => e = .returned (.bool r) ∧ Below w.heap.size w w' := by
 have hu25 := Tryd.underlying25
 have HR0 := AM_ hr0
 have HC0 := AM_ hc0
 clear hr0 hc0
 have HB := AM_ (Below.refl w.heap.size w)
 have H : ((laws_big.f l0).bind fun t435 => (if t435 = true then (some true) else ((spec_DrawFormatOp.f k l0).bind fun bt436 => ((impl_FormatOp.f k bt436.1 bt436.2.1 bt436.2.2.1 bt436.2.2.2.1 bt436.2.2.2.2.1 bt436.2.2.2.2.2).bind fun t443 => ((impl_ParseOp.f k t443).bind fun bt444 => ((spec_FormatOp.f k bt436.1 bt436.2.1 bt436.2.2.1 bt436.2.2.2.1 bt436.2.2.2.2.1 bt436.2.2.2.2.2).bind fun t452 => (if t443.toList = t452.toList then ((spec_IsValidOp.f k bt436.1 bt436.2.1 bt436.2.2.1 bt436.2.2.2.1 bt436.2.2.2.2.1 bt436.2.2.2.2.2).bind fun t453 => (if (bt444.2.2.2.2.2.2 != t453) = true then (laws_FnOps.j0 k l0 true) else (if bt444.2.2.2.2.2.2 = true then (laws_FnOps.j0 k l0 (!(bt444.1 == bt436.1) || (!(bt444.2.1 == bt436.2.1) || (!(bt444.2.2.1 == bt436.2.2.1) || (!(bt444.2.2.2.1 == bt436.2.2.2.1) || (!(bt444.2.2.2.2.1 == bt436.2.2.2.2.1) || (!(bt444.2.2.2.2.2.1 == bt436.2.2.2.2.2)))))))) else (laws_FnOps.j0 k l0 false)))) else (laws_FnOps.j0 k l0 true)))))))) = some r := h
 clear h
 replace H := Option.bind_eq_some_iff.mp H
 obtain ⟨t435, A20, H⟩ := H
 replace H : (if t435 = true then (some true) else ((spec_DrawFormatOp.f k l0).bind fun bt436 => ((impl_FormatOp.f k bt436.1 bt436.2.1 bt436.2.2.1 bt436.2.2.2.1 bt436.2.2.2.2.1 bt436.2.2.2.2.2).bind fun t443 => ((impl_ParseOp.f k t443).bind fun bt444 => ((spec_FormatOp.f k bt436.1 bt436.2.1 bt436.2.2.1 bt436.2.2.2.1 bt436.2.2.2.2.1 bt436.2.2.2.2.2).bind fun t452 => (if t443.toList = t452.toList then ((spec_IsValidOp.f k bt436.1 bt436.2.1 bt436.2.2.1 bt436.2.2.2.1 bt436.2.2.2.2.1 bt436.2.2.2.2.2).bind fun t453 => (if (bt444.2.2.2.2.2.2 != t453) = true then (laws_FnOps.j0 k l0 true) else (if bt444.2.2.2.2.2.2 = true then (laws_FnOps.j0 k l0 (!(bt444.1 == bt436.1) || (!(bt444.2.1 == bt436.2.1) || (!(bt444.2.2.1 == bt436.2.2.1) || (!(bt444.2.2.2.1 == bt436.2.2.2.1) || (!(bt444.2.2.2.2.1 == bt436.2.2.2.2.1) || (!(bt444.2.2.2.2.2.1 == bt436.2.2.2.2.2)))))))) else (laws_FnOps.j0 k l0 false)))) else (laws_FnOps.j0 k l0 true))))))) = some r := H
 have A2 := AM_ A20
 clear A20
 by_cases c3 : t435 = true
 ·subst c3
  have H1 : (some true) = some r := by rw [if_pos rfl] at H; exact H
  clear H
  have H := H1
  clear H1
  obtain rfl := Option.some.inj H
  go_enter Tryd.func3, Tryd.ntmps3
  go_wp2_with (first | ((with_reducible refine gate_callee (f := 4) rfl ?_); refine goesL_ (some 16) rfl rfl Tryd.func4 (by kernel_rfl) rfl #[.slice A0 l0.length c0] rfl (by (try simp only [List.map_toArray, List.map_cons, List.map_nil]); first | done | rfl | (simp only [List.length_drop, List.length_take]; rfl)) ?_; (with_reducible refine (laws_big.calls _ _ l0 true _ ?side1 ?side2 A2.out).mono ?_); (case side1 => repeat (first | exact HR0.out | (with_reducible refine Kd.C_alloc ?_ _) | (with_reducible refine Kd.C_drewN ?_ _) | (with_reducible refine Kd.C_drew ?_))); (case side2 => exact HC0.out); rintro e w' ⟨rfl, ⟨nd, rfl⟩⟩; refine ⟨_, rfl, ?_⟩))
  go_ret
  exact QT (BT HB.out)
 replace c3 := Bool.eq_false_iff.mpr c3
 subst c3
 have H1 : ((spec_DrawFormatOp.f k l0).bind fun bt436 => ((impl_FormatOp.f k bt436.1 bt436.2.1 bt436.2.2.1 bt436.2.2.2.1 bt436.2.2.2.2.1 bt436.2.2.2.2.2).bind fun t443 => ((impl_ParseOp.f k t443).bind fun bt444 => ((spec_FormatOp.f k bt436.1 bt436.2.1 bt436.2.2.1 bt436.2.2.2.1 bt436.2.2.2.2.1 bt436.2.2.2.2.2).bind fun t452 => (if t443.toList = t452.toList then ((spec_IsValidOp.f k bt436.1 bt436.2.1 bt436.2.2.1 bt436.2.2.2.1 bt436.2.2.2.2.1 bt436.2.2.2.2.2).bind fun t453 => (if (bt444.2.2.2.2.2.2 != t453) = true then (laws_FnOps.j0 k l0 true) else (if bt444.2.2.2.2.2.2 = true then (laws_FnOps.j0 k l0 (!(bt444.1 == bt436.1) || (!(bt444.2.1 == bt436.2.1) || (!(bt444.2.2.1 == bt436.2.2.1) || (!(bt444.2.2.2.1 == bt436.2.2.2.1) || (!(bt444.2.2.2.2.1 == bt436.2.2.2.2.1) || (!(bt444.2.2.2.2.2.1 == bt436.2.2.2.2.2)))))))) else (laws_FnOps.j0 k l0 false)))) else (laws_FnOps.j0 k l0 true)))))) = some r := by rw [if_neg (show ¬ (false = true) by decide)] at H; exact H
 clear H
 have H := H1
 clear H1
 replace H := Option.bind_eq_some_iff.mp H
 obtain ⟨⟨t436, t437, t438, t439, t440, t441⟩, A40, H⟩ := H
 replace H : ((impl_FormatOp.f k t436 t437 t438 t439 t440 t441).bind fun t443 => ((impl_ParseOp.f k t443).bind fun bt444 => ((spec_FormatOp.f k t436 t437 t438 t439 t440 t441).bind fun t452 => (if t443.toList = t452.toList then ((spec_IsValidOp.f k t436 t437 t438 t439 t440 t441).bind fun t453 => (if (bt444.2.2.2.2.2.2 != t453) = true then (laws_FnOps.j0 k l0 true) else (if bt444.2.2.2.2.2.2 = true then (laws_FnOps.j0 k l0 (!(bt444.1 == t436) || (!(bt444.2.1 == t437) || (!(bt444.2.2.1 == t438) || (!(bt444.2.2.2.1 == t439) || (!(bt444.2.2.2.2.1 == t440) || (!(bt444.2.2.2.2.2.1 == t441)))))))) else (laws_FnOps.j0 k l0 false)))) else (laws_FnOps.j0 k l0 true))))) = some r := H
 have A4 := AM_ A40
 clear A40
 replace H := Option.bind_eq_some_iff.mp H
 obtain ⟨t443, A50, H⟩ := H
 replace H : ((impl_ParseOp.f k t443).bind fun bt444 => ((spec_FormatOp.f k t436 t437 t438 t439 t440 t441).bind fun t452 => (if t443.toList = t452.toList then ((spec_IsValidOp.f k t436 t437 t438 t439 t440 t441).bind fun t453 => (if (bt444.2.2.2.2.2.2 != t453) = true then (laws_FnOps.j0 k l0 true) else (if bt444.2.2.2.2.2.2 = true then (laws_FnOps.j0 k l0 (!(bt444.1 == t436) || (!(bt444.2.1 == t437) || (!(bt444.2.2.1 == t438) || (!(bt444.2.2.2.1 == t439) || (!(bt444.2.2.2.2.1 == t440) || (!(bt444.2.2.2.2.2.1 == t441)))))))) else (laws_FnOps.j0 k l0 false)))) else (laws_FnOps.j0 k l0 true)))) = some r := H
 have A5 := AM_ A50
 clear A50
 replace H := Option.bind_eq_some_iff.mp H
 obtain ⟨⟨t444, t445, t446, t447, t448, t449, t450⟩, A60, H⟩ := H
 replace H : ((spec_FormatOp.f k t436 t437 t438 t439 t440 t441).bind fun t452 => (if t443.toList = t452.toList then ((spec_IsValidOp.f k t436 t437 t438 t439 t440 t441).bind fun t453 => (if (t450 != t453) = true then (laws_FnOps.j0 k l0 true) else (if t450 = true then (laws_FnOps.j0 k l0 (!(t444 == t436) || (!(t445 == t437) || (!(t446 == t438) || (!(t447 == t439) || (!(t448 == t440) || (!(t449 == t441)))))))) else (laws_FnOps.j0 k l0 false)))) else (laws_FnOps.j0 k l0 true))) = some r := H
 have A6 := AM_ A60
 clear A60
 have HC7 := AM_ H
 clear H
 go_enter Tryd.func3, Tryd.ntmps3
 go_upto_region 6 with (first | ((with_reducible refine gate_callee (f := 4) rfl ?_); refine goesL_ (some 16) rfl rfl Tryd.func4 (by kernel_rfl) rfl #[.slice A0 l0.length c0] rfl (by (try simp only [List.map_toArray, List.map_cons, List.map_nil]); first | done | rfl | (simp only [List.length_drop, List.length_take]; rfl)) ?_; (with_reducible refine (laws_big.calls _ _ l0 false _ ?side1 ?side2 A2.out).mono ?_); (case side1 => repeat (first | exact HR0.out | (with_reducible refine Kd.C_alloc ?_ _) | (with_reducible refine Kd.C_drewN ?_ _) | (with_reducible refine Kd.C_drew ?_))); (case side2 => exact HC0.out); rintro e w' ⟨rfl, ⟨nd, rfl⟩⟩; refine ⟨_, rfl, ?_⟩) | ((with_reducible refine gate_callee (f := 5) rfl ?_); refine goesL_ (some 18) rfl rfl Tryd.func5 (by kernel_rfl) rfl #[.slice A0 l0.length c0] rfl (by (try simp only [List.map_toArray, List.map_cons, List.map_nil]); first | done | rfl | (simp only [List.length_drop, List.length_take]; rfl)) ?_; (with_reducible refine (spec_DrawFormatOp.calls k _ _ l0 t436 t437 t438 t439 t440 t441 _ ?side1 ?side2 A4.out).mono ?_); (case side1 => repeat (first | exact HR0.out | (with_reducible refine Kd.C_alloc ?_ _) | (with_reducible refine Kd.C_drewN ?_ _) | (with_reducible refine Kd.C_drew ?_))); (case side2 => exact HC0.out); rintro e w8 ⟨rfl, hb⟩; refine ⟨_, rfl, ?_⟩; replace HB := AM_ (below_step (BT HB.out) hb); (try clear hb); (try clear hb2); (try clear hk); (try clear hi)) | ((with_reducible refine gate_dst (N := 3) rfl ?_); refine box_event ?hg (N := 3) ?hd (cs := #[.int .i64 0, .int .i64 0, .int .i64 0, .int .i64 0, .int .i64 0, .int .i64 0]) (t := 25) ?hr ?_; (case hd => rfl); (case hg => rfl); (case hr => first | (go_simp; done) | (go_simp; rfl)); intro gb442 hg w9 hbox hb; have BK442 := AM_ (hbox); have GW442 := AM_ ((GS HB.out hg)); have GE442 := AM_ ((GS HB.out hg)); replace HB := AM_ (below_step (BT HB.out) hb); clear hb hbox hg; obtain ⟨hcz10_0, hcz10_1, hcz10_2, hcz10_3, hcz10_4, hcz10_5, hfz10_0, hfz10_1, hfz10_2, hfz10_3, hfz10_4, hfz10_5⟩ := bk6 BK442.out) | ((with_reducible refine gate_callee (f := 6) rfl ?_); refine goesL_ (some 20) rfl rfl Tryd.func6 (by kernel_rfl) rfl #[.agg #[.int .i64 t436, .int .i64 t437, .int .i64 t438, .int .i64 t439, .int .i64 t440, .int .i64 t441]] rfl (by (try simp only [List.map_toArray, List.map_cons, List.map_nil]); first | done | rfl | (simp only [List.length_drop, List.length_take]; rfl)) ?_; (with_reducible refine (impl_FormatOp.calls k t436 t437 t438 t439 t440 t441 t443 _ ?side1 A5.out).mono ?_); (case side1 => first | (with_reducible exact hTB) | exact Tryd.TB_below hTB (BT HB.out)); rintro e w11 ⟨rfl, hb⟩; refine ⟨_, rfl, ?_⟩; replace BK442 := AM_ (BP #[.int .i64 t436, .int .i64 t437, .int .i64 t438, .int .i64 t439, .int .i64 t440, .int .i64 t441] BK442.out hb); replace HB := AM_ (below_step (BT HB.out) hb); (try clear hb); (try clear hb2); (try clear hk); (try clear hi)) | ((with_reducible refine gate_callee (f := 7) rfl ?_); refine goesL_ (some 23) rfl rfl Tryd.func7 (by kernel_rfl) rfl #[.string t443] rfl (by (try simp only [List.map_toArray, List.map_cons, List.map_nil]); first | done | rfl | (simp only [List.length_drop, List.length_take]; rfl)) ?_; (with_reducible refine (impl_ParseOp.calls k t443 t444 t445 t446 t447 t448 t449 t450 _ ?side1 A6.out).mono ?_); (case side1 => first | (with_reducible exact hTB) | exact Tryd.TB_below hTB (BT HB.out)); rintro e w12 ⟨rfl, hb⟩; refine ⟨_, rfl, ?_⟩; replace BK442 := AM_ (BB BK442.out hb); replace HB := AM_ (below_step (BT HB.out) hb); (try clear hb); (try clear hb2); (try clear hk); (try clear hi)) | ((with_reducible refine gate_dst (N := 5) rfl ?_); refine box_event ?hg (N := 5) ?hd (cs := #[.int .i64 0, .int .i64 0, .int .i64 0, .int .i64 0, .int .i64 0, .int .i64 0]) (t := 25) ?hr ?_; (case hd => rfl); (case hg => rfl); (case hr => first | (go_simp; done) | (go_simp; rfl)); intro gb451 hg w13 hbox hb; have BK451 := AM_ (hbox); have GW451 := AM_ ((GS HB.out hg)); have GE451 := AM_ ((GS HB.out hg)); replace HB := AM_ (below_step (BT HB.out) hb); have NB442_451 := AM_ ((NL BK442.out hg)); have NB451_442 := AM_ ((NG BK442.out hg)); replace BK442 := AM_ (BB BK442.out hb); clear hb hbox hg; have hnb14 := NB451_442.out; have hnc14 := NB442_451.out; obtain ⟨hcz15_0, hcz15_1, hcz15_2, hcz15_3, hcz15_4, hcz15_5, hfz15_0, hfz15_1, hfz15_2, hfz15_3, hfz15_4, hfz15_5⟩ := bk6 BK451.out))
 (try simp only [pA, pS, pZ, pK])
 go_cut [43] (fun v43 wc => ∃ (kq : Nat) (x43_6 : Bool), v43 = .bool x43_6 ∧ Aside0 (laws_FnOps.j0 kq l0 x43_6 = some r) ∧ Aside0 (kq ≤ k) ∧ Aside0 (wc.heap[gb442]? = some (.cells #[.int .i64 t436, .int .i64 t437, .int .i64 t438, .int .i64 t439, .int .i64 t440, .int .i64 t441] 25 (0, 0))) ∧ Aside0 (wc.heap[gb451]? = some (.cells #[.int .i64 t444, .int .i64 t445, .int .i64 t446, .int .i64 t447, .int .i64 t448, .int .i64 t449] 25 (0, 0))) ∧ Aside0 (Below w.heap.size w wc))
 case first =>
  have H := HC7.out
  clear HC7
  replace H := Option.bind_eq_some_iff.mp H
  obtain ⟨t452, A160, H⟩ := H
  replace H : (if t443.toList = t452.toList then ((spec_IsValidOp.f k t436 t437 t438 t439 t440 t441).bind fun t453 => (if (t450 != t453) = true then (laws_FnOps.j0 k l0 true) else (if t450 = true then (laws_FnOps.j0 k l0 (!(t444 == t436) || (!(t445 == t437) || (!(t446 == t438) || (!(t447 == t439) || (!(t448 == t440) || (!(t449 == t441)))))))) else (laws_FnOps.j0 k l0 false)))) else (laws_FnOps.j0 k l0 true)) = some r := H
  have A16 := AM_ A160
  clear A160
  by_cases c17 : t443.toList = t452.toList
  rotate_left
  ·rw [if_neg c17] at H
   have c17b0 : (t443.toList == t452.toList) = false := beq_eq_false_iff_ne.mpr c17
   have c17b1 : (t443.toList != t452.toList) = true := bne_iff_ne.mpr c17
   (first | rw [c17b0] | (simp only [i64_w, i32_w]; rw [c17b0]) | skip)
   have H' := AM_ H
   clear H
   have hnb38 := NB442_451.out
   have hnc38 := NB451_442.out
   obtain ⟨hcz39_0, hcz39_1, hcz39_2, hcz39_3, hcz39_4, hcz39_5, hfz39_0, hfz39_1, hfz39_2, hfz39_3, hfz39_4, hfz39_5⟩ := bk6 BK442.out
   go_wp2_with (first | ((with_reducible refine gate_callee (f := 8) rfl ?_); refine goesL_ (some 28) rfl rfl Tryd.func8 (by kernel_rfl) rfl #[.agg #[.int .i64 t436, .int .i64 t437, .int .i64 t438, .int .i64 t439, .int .i64 t440, .int .i64 t441]] rfl (by (try simp only [List.map_toArray, List.map_cons, List.map_nil]); first | done | rfl | (simp only [List.length_drop, List.length_take]; rfl)) ?_; (with_reducible refine (spec_FormatOp.calls k t436 t437 t438 t439 t440 t441 t452 _ A16.out).mono ?_); rintro e w40 ⟨rfl, hb⟩; refine ⟨_, rfl, ?_⟩; replace BK442 := AM_ (BF BK442.out NB442_451.out hb); replace BK451 := AM_ (BP #[.int .i64 t444, .int .i64 t445, .int .i64 t446, .int .i64 t447, .int .i64 t448, .int .i64 t449] BK451.out hb); replace HB := AM_ (below_step (BT HB.out) hb); (try clear hb); (try clear hb2); (try clear hk); (try clear hi)))
   go_meet
   case rel => exact ⟨_, (true), (by first | rfl | (simp; done) | (simp [*]; done)), H', ⟨by first | omega | exact Nat.le_refl _⟩, ⟨BH BK442.out⟩, ⟨BH BK451.out⟩, ⟨BT HB.out⟩⟩
  rw [if_pos c17] at H
  have c17b0 : (t443.toList == t452.toList) = true := beq_iff_eq.mpr c17
  have c17b1 : (t443.toList != t452.toList) = false := bne_eq_false_iff_eq.mpr c17
  clear c17
  (first | rw [c17b0] | (simp only [i64_w, i32_w]; rw [c17b0]) | skip)
  replace H := Option.bind_eq_some_iff.mp H
  obtain ⟨t453, A180, H⟩ := H
  replace H : (if (t450 != t453) = true then (laws_FnOps.j0 k l0 true) else (if t450 = true then (laws_FnOps.j0 k l0 (!(t444 == t436) || (!(t445 == t437) || (!(t446 == t438) || (!(t447 == t439) || (!(t448 == t440) || (!(t449 == t441)))))))) else (laws_FnOps.j0 k l0 false))) = some r := H
  have A18 := AM_ A180
  clear A180
  by_cases c19 : (t450 != t453) = true
  ·rw [if_pos c19] at H
   have c19b0 : (t450 != t453) = true := c19
   (try (have c19b1 : decide (t450 = t453) = false := by simpa using c19))
   (try (have c19b2 : (t450 == t453) = false := by simpa using c19))
   (try (have c19b3 : ¬ (t450 = t453) := by simpa using c19))
   clear c19
   have H' := AM_ H
   clear H
   have hnb20 := NB442_451.out
   have hnc20 := NB451_442.out
   obtain ⟨hcz21_0, hcz21_1, hcz21_2, hcz21_3, hcz21_4, hcz21_5, hfz21_0, hfz21_1, hfz21_2, hfz21_3, hfz21_4, hfz21_5⟩ := bk6 BK442.out
   go_wp2_with (first | ((with_reducible refine gate_callee (f := 8) rfl ?_); refine goesL_ (some 28) rfl rfl Tryd.func8 (by kernel_rfl) rfl #[.agg #[.int .i64 t436, .int .i64 t437, .int .i64 t438, .int .i64 t439, .int .i64 t440, .int .i64 t441]] rfl (by (try simp only [List.map_toArray, List.map_cons, List.map_nil]); first | done | rfl | (simp only [List.length_drop, List.length_take]; rfl)) ?_; (with_reducible refine (spec_FormatOp.calls k t436 t437 t438 t439 t440 t441 t452 _ A16.out).mono ?_); rintro e w22 ⟨rfl, hb⟩; refine ⟨_, rfl, ?_⟩; replace BK442 := AM_ (BF BK442.out NB442_451.out hb); replace BK451 := AM_ (BP #[.int .i64 t444, .int .i64 t445, .int .i64 t446, .int .i64 t447, .int .i64 t448, .int .i64 t449] BK451.out hb); replace HB := AM_ (below_step (BT HB.out) hb); (try clear hb); (try clear hb2); (try clear hk); (try clear hi); obtain ⟨hcz23_0, hcz23_1, hcz23_2, hcz23_3, hcz23_4, hcz23_5, hfz23_0, hfz23_1, hfz23_2, hfz23_3, hfz23_4, hfz23_5⟩ := bk6 BK442.out) | (go_at_call 9; (with_reducible refine (spec_IsValidOp.calls k t436 t437 t438 t439 t440 t441 t453 _ A18.out).mono ?_); rintro e w24 ⟨rfl, hb⟩; replace BK442 := AM_ (BB BK442.out hb); replace BK451 := AM_ (BB BK451.out hb); replace HB := AM_ (below_step (BT HB.out) hb); (try clear hb); (try clear hb2); (try clear hk); (try clear hi)))
   go_meet
   case rel => exact ⟨_, (true), (by first | rfl | (simp; done) | (simp [*]; done)), H', ⟨by first | omega | exact Nat.le_refl _⟩, ⟨BH BK442.out⟩, ⟨BH BK451.out⟩, ⟨BT HB.out⟩⟩
  rw [if_neg c19] at H
  have c19b0 : (t450 != t453) = false := by simpa using c19
  (try (have c19b1 : decide (t450 = t453) = true := by simpa using c19))
  (try (have c19b2 : (t450 == t453) = true := by simpa using c19))
  clear c19
  by_cases c25 : t450 = true
  rotate_left
  ·replace c25 := Bool.eq_false_iff.mpr c25
   subst c25
   have H1 : (laws_FnOps.j0 k l0 false) = some r := by rw [if_neg (show ¬ (false = true) by decide)] at H; exact H
   clear H
   have H := H1
   clear H1
   have H' := AM_ H
   clear H
   have hnb33 := NB442_451.out
   have hnc33 := NB451_442.out
   obtain ⟨hcz34_0, hcz34_1, hcz34_2, hcz34_3, hcz34_4, hcz34_5, hfz34_0, hfz34_1, hfz34_2, hfz34_3, hfz34_4, hfz34_5⟩ := bk6 BK442.out
   go_wp2_with (first | ((with_reducible refine gate_callee (f := 8) rfl ?_); refine goesL_ (some 28) rfl rfl Tryd.func8 (by kernel_rfl) rfl #[.agg #[.int .i64 t436, .int .i64 t437, .int .i64 t438, .int .i64 t439, .int .i64 t440, .int .i64 t441]] rfl (by (try simp only [List.map_toArray, List.map_cons, List.map_nil]); first | done | rfl | (simp only [List.length_drop, List.length_take]; rfl)) ?_; (with_reducible refine (spec_FormatOp.calls k t436 t437 t438 t439 t440 t441 t452 _ A16.out).mono ?_); rintro e w35 ⟨rfl, hb⟩; refine ⟨_, rfl, ?_⟩; replace BK442 := AM_ (BF BK442.out NB442_451.out hb); replace BK451 := AM_ (BP #[.int .i64 t444, .int .i64 t445, .int .i64 t446, .int .i64 t447, .int .i64 t448, .int .i64 t449] BK451.out hb); replace HB := AM_ (below_step (BT HB.out) hb); (try clear hb); (try clear hb2); (try clear hk); (try clear hi); obtain ⟨hcz36_0, hcz36_1, hcz36_2, hcz36_3, hcz36_4, hcz36_5, hfz36_0, hfz36_1, hfz36_2, hfz36_3, hfz36_4, hfz36_5⟩ := bk6 BK442.out) | (go_at_call 9; (with_reducible refine (spec_IsValidOp.calls k t436 t437 t438 t439 t440 t441 t453 _ A18.out).mono ?_); rintro e w37 ⟨rfl, hb⟩; replace BK442 := AM_ (BB BK442.out hb); replace BK451 := AM_ (BB BK451.out hb); replace HB := AM_ (below_step (BT HB.out) hb); (try clear hb); (try clear hb2); (try clear hk); (try clear hi)))
   go_meet
   case rel => exact ⟨_, (false), (by first | rfl | (simp; done) | (simp [*]; done)), H', ⟨by first | omega | exact Nat.le_refl _⟩, ⟨BH BK442.out⟩, ⟨BH BK451.out⟩, ⟨BT HB.out⟩⟩
  subst c25
  have H1 : (laws_FnOps.j0 k l0 (!(t444 == t436) || (!(t445 == t437) || (!(t446 == t438) || (!(t447 == t439) || (!(t448 == t440) || (!(t449 == t441)))))))) = some r := by rw [if_pos rfl] at H; exact H
  clear H
  have H := H1
  clear H1
  have H' := AM_ H
  clear H
  have hnb26 := NB442_451.out
  have hnc26 := NB451_442.out
  obtain ⟨hcz27_0, hcz27_1, hcz27_2, hcz27_3, hcz27_4, hcz27_5, hfz27_0, hfz27_1, hfz27_2, hfz27_3, hfz27_4, hfz27_5⟩ := bk6 BK442.out
  go_wp2_with (first | ((with_reducible refine gate_callee (f := 8) rfl ?_); refine goesL_ (some 28) rfl rfl Tryd.func8 (by kernel_rfl) rfl #[.agg #[.int .i64 t436, .int .i64 t437, .int .i64 t438, .int .i64 t439, .int .i64 t440, .int .i64 t441]] rfl (by (try simp only [List.map_toArray, List.map_cons, List.map_nil]); first | done | rfl | (simp only [List.length_drop, List.length_take]; rfl)) ?_; (with_reducible refine (spec_FormatOp.calls k t436 t437 t438 t439 t440 t441 t452 _ A16.out).mono ?_); rintro e w28 ⟨rfl, hb⟩; refine ⟨_, rfl, ?_⟩; replace BK442 := AM_ (BF BK442.out NB442_451.out hb); replace BK451 := AM_ (BP #[.int .i64 t444, .int .i64 t445, .int .i64 t446, .int .i64 t447, .int .i64 t448, .int .i64 t449] BK451.out hb); replace HB := AM_ (below_step (BT HB.out) hb); (try clear hb); (try clear hb2); (try clear hk); (try clear hi); obtain ⟨hcz29_0, hcz29_1, hcz29_2, hcz29_3, hcz29_4, hcz29_5, hfz29_0, hfz29_1, hfz29_2, hfz29_3, hfz29_4, hfz29_5⟩ := bk6 BK442.out) | (go_at_call 9; (with_reducible refine (spec_IsValidOp.calls k t436 t437 t438 t439 t440 t441 t453 _ A18.out).mono ?_); rintro e w30 ⟨rfl, hb⟩; replace BK442 := AM_ (BB BK442.out hb); replace BK451 := AM_ (BB BK451.out hb); replace HB := AM_ (below_step (BT HB.out) hb); (try clear hb); (try clear hb2); (try clear hk); (try clear hi); obtain ⟨hcz31_0, hcz31_1, hcz31_2, hcz31_3, hcz31_4, hcz31_5, hfz31_0, hfz31_1, hfz31_2, hfz31_3, hfz31_4, hfz31_5⟩ := bk6 BK451.out; obtain ⟨hcz32_0, hcz32_1, hcz32_2, hcz32_3, hcz32_4, hcz32_5, hfz32_0, hfz32_1, hfz32_2, hfz32_3, hfz32_4, hfz32_5⟩ := bk6 BK442.out))
  go_meet
  case rel => exact ⟨_, ((!(t444 == t436) || (!(t445 == t437) || (!(t446 == t438) || (!(t447 == t439) || (!(t448 == t440) || (!(t449 == t441)))))))), (by first | rfl | (simp; done) | (simp [*]; done)), H', ⟨by first | omega | exact Nat.le_refl _⟩, ⟨BH BK442.out⟩, ⟨BH BK451.out⟩, ⟨BT HB.out⟩⟩
 case rest =>
  clear HC7
  try clear c1
  try clear c2
  try clear p2
  try clear c3
  try clear c4
  try clear c5
  try clear c6
  try clear c7
  try clear c8
  try clear c14
  try clear c17
  try clear c17b0
  try clear c17b1
  try clear c19
  try clear c19b0
  try clear c19b1
  try clear c19b2
  try clear c20
  try clear c25
  try clear c26
  try clear c33
  try clear c38
  try clear hcz10_0
  try clear hcz10_1
  try clear hcz10_2
  try clear hcz10_3
  try clear hcz10_4
  try clear hcz10_5
  try clear hcz15_0
  try clear hcz15_1
  try clear hcz15_2
  try clear hcz15_3
  try clear hcz15_4
  try clear hcz15_5
  try clear hcz21_0
  try clear hcz21_1
  try clear hcz21_2
  try clear hcz21_3
  try clear hcz21_4
  try clear hcz21_5
  try clear hcz23_0
  try clear hcz23_1
  try clear hcz23_2
  try clear hcz23_3
  try clear hcz23_4
  try clear hcz23_5
  try clear hcz27_0
  try clear hcz27_1
  try clear hcz27_2
  try clear hcz27_3
  try clear hcz27_4
  try clear hcz27_5
  try clear hcz29_0
  try clear hcz29_1
  try clear hcz29_2
  try clear hcz29_3
  try clear hcz29_4
  try clear hcz29_5
  try clear hcz31_0
  try clear hcz31_1
  try clear hcz31_2
  try clear hcz31_3
  try clear hcz31_4
  try clear hcz31_5
  try clear hcz32_0
  try clear hcz32_1
  try clear hcz32_2
  try clear hcz32_3
  try clear hcz32_4
  try clear hcz32_5
  try clear hcz34_0
  try clear hcz34_1
  try clear hcz34_2
  try clear hcz34_3
  try clear hcz34_4
  try clear hcz34_5
  try clear hcz36_0
  try clear hcz36_1
  try clear hcz36_2
  try clear hcz36_3
  try clear hcz36_4
  try clear hcz36_5
  try clear hcz39_0
  try clear hcz39_1
  try clear hcz39_2
  try clear hcz39_3
  try clear hcz39_4
  try clear hcz39_5
  try clear hfz10_0
  try clear hfz10_1
  try clear hfz10_2
  try clear hfz10_3
  try clear hfz10_4
  try clear hfz10_5
  try clear hfz15_0
  try clear hfz15_1
  try clear hfz15_2
  try clear hfz15_3
  try clear hfz15_4
  try clear hfz15_5
  try clear hfz21_0
  try clear hfz21_1
  try clear hfz21_2
  try clear hfz21_3
  try clear hfz21_4
  try clear hfz21_5
  try clear hfz23_0
  try clear hfz23_1
  try clear hfz23_2
  try clear hfz23_3
  try clear hfz23_4
  try clear hfz23_5
  try clear hfz27_0
  try clear hfz27_1
  try clear hfz27_2
  try clear hfz27_3
  try clear hfz27_4
  try clear hfz27_5
  try clear hfz29_0
  try clear hfz29_1
  try clear hfz29_2
  try clear hfz29_3
  try clear hfz29_4
  try clear hfz29_5
  try clear hfz31_0
  try clear hfz31_1
  try clear hfz31_2
  try clear hfz31_3
  try clear hfz31_4
  try clear hfz31_5
  try clear hfz32_0
  try clear hfz32_1
  try clear hfz32_2
  try clear hfz32_3
  try clear hfz32_4
  try clear hfz32_5
  try clear hfz34_0
  try clear hfz34_1
  try clear hfz34_2
  try clear hfz34_3
  try clear hfz34_4
  try clear hfz34_5
  try clear hfz36_0
  try clear hfz36_1
  try clear hfz36_2
  try clear hfz36_3
  try clear hfz36_4
  try clear hfz36_5
  try clear hfz39_0
  try clear hfz39_1
  try clear hfz39_2
  try clear hfz39_3
  try clear hfz39_4
  try clear hfz39_5
  obtain ⟨kq, x43_6, rfl, HA, HJ6, BK442, BK451, HB⟩ := hcut
  cases kq with
  | zero => exact absurd HA.out (by simp [laws_FnOps.j0])
  | succ kj6 =>
   have H := HA.out
   clear HA
   simp only [laws_FnOps.j0] at H
   by_cases c41 : x43_6 = true
   ·subst c41
    have H1 : (some false) = some r := by rw [if_pos rfl] at H; exact H
    clear H
    have H := H1
    clear H1
    obtain rfl := Option.some.inj H
    go_wp2
    go_ret
    exact QT (BT HB.out)
   replace c41 := Bool.eq_false_iff.mpr c41
   subst c41
   have H1 : ((spec_DrawFormatOps.f kj6 l0).bind fun t454 => ((impl_FormatOps.f kj6 t454).bind fun t457 => ((impl_ParseOps.f kj6 t457).bind fun bt458 => ((spec_FormatOps.f kj6 t454).bind fun t462 => (if t457.toList = t462.toList then (if t457.toList = ([] : List UInt8) then (laws_FnOps.j1 kj6 t454 false) else (if bt458.2 = true then ((impl_EqualOps.f kj6 t454 bt458.1).bind fun t463 => (laws_FnOps.j1 kj6 t454 (!t463))) else (laws_FnOps.j1 kj6 t454 true))) else (laws_FnOps.j1 kj6 t454 true)))))) = some r := by rw [if_neg (show ¬ (false = true) by decide)] at H; exact H
   clear H
   have H := H1
   clear H1
   replace H := Option.bind_eq_some_iff.mp H
   obtain ⟨t454, A420, H⟩ := H
   replace H : ((impl_FormatOps.f kj6 t454).bind fun t457 => ((impl_ParseOps.f kj6 t457).bind fun bt458 => ((spec_FormatOps.f kj6 t454).bind fun t462 => (if t457.toList = t462.toList then (if t457.toList = ([] : List UInt8) then (laws_FnOps.j1 kj6 t454 false) else (if bt458.2 = true then ((impl_EqualOps.f kj6 t454 bt458.1).bind fun t463 => (laws_FnOps.j1 kj6 t454 (!t463))) else (laws_FnOps.j1 kj6 t454 true))) else (laws_FnOps.j1 kj6 t454 true))))) = some r := H
   have A42 := AM_ A420
   clear A420
   replace H := Option.bind_eq_some_iff.mp H
   obtain ⟨t457, A430, H⟩ := H
   replace H : ((impl_ParseOps.f kj6 t457).bind fun bt458 => ((spec_FormatOps.f kj6 t454).bind fun t462 => (if t457.toList = t462.toList then (if t457.toList = ([] : List UInt8) then (laws_FnOps.j1 kj6 t454 false) else (if bt458.2 = true then ((impl_EqualOps.f kj6 t454 bt458.1).bind fun t463 => (laws_FnOps.j1 kj6 t454 (!t463))) else (laws_FnOps.j1 kj6 t454 true))) else (laws_FnOps.j1 kj6 t454 true)))) = some r := H
   have A43 := AM_ A430
   clear A430
   replace H := Option.bind_eq_some_iff.mp H
   obtain ⟨⟨t458, t459⟩, A440, H⟩ := H
   replace H : ((spec_FormatOps.f kj6 t454).bind fun t462 => (if t457.toList = t462.toList then (if t457.toList = ([] : List UInt8) then (laws_FnOps.j1 kj6 t454 false) else (if t459 = true then ((impl_EqualOps.f kj6 t454 t458).bind fun t463 => (laws_FnOps.j1 kj6 t454 (!t463))) else (laws_FnOps.j1 kj6 t454 true))) else (laws_FnOps.j1 kj6 t454 true))) = some r := H
   have A44 := AM_ A440
   clear A440
   have HC45 := AM_ H
   clear H
   go_upto_region 11 with (first | ((with_reducible refine gate_callee (f := 10) rfl ?_); refine goesL_ (some 45) rfl rfl Tryd.func10 (by kernel_rfl) rfl #[.slice A0 l0.length c0] rfl (by (try simp only [List.map_toArray, List.map_cons, List.map_nil]); first | done | rfl | (simp only [List.length_drop, List.length_take]; rfl)) ?_; (with_reducible refine (spec_DrawFormatOps.calls kj6 _ _ l0 t454 _ ?side1 ?side2 A42.out).mono ?_); (case side1 => exact CB HR0.out HB.out); (case side2 => exact HC0.out); rintro e w46 ⟨v455, rfl, ho0, hb⟩; refine ⟨_, rfl, ?_⟩; have HO456 := AM_ (Kd.R_lower (Kd.R_newB (Kd.R_newB ho0 (g := gb442) (o := .cells #[.int .i64 t436, .int .i64 t437, .int .i64 t438, .int .i64 t439, .int .i64 t440, .int .i64 t441] 25 (0, 0)) (by (with_reducible repeat (first | refine blk_drewN ?_ _ | refine blk_drew ?_ | refine blk_alloc ?_ _)); exact BK442.out)) (g := gb451) (o := .cells #[.int .i64 t444, .int .i64 t445, .int .i64 t446, .int .i64 t447, .int .i64 t448, .int .i64 t449] 25 (0, 0)) (by (with_reducible repeat (first | refine blk_drewN ?_ _ | refine blk_drew ?_ | refine blk_alloc ?_ _)); exact BK451.out)) (below_size (BT HB.out))); replace BK442 := AM_ (BB BK442.out hb); replace BK451 := AM_ (BB BK451.out hb); replace HB := AM_ (below_step (BT HB.out) hb); (try clear hb); (try clear hb2); (try clear hk); (try clear hi); (try clear ho0); obtain ⟨Ao47, co47, eo47⟩ := Kd.R_slice HO456.out; subst eo47) | ((with_reducible refine gate_callee (f := 11) rfl ?_); refine goesL_ (some 47) rfl rfl Tryd.func11 (by kernel_rfl) rfl #[.slice Ao47 t454.length co47] rfl (by (try simp only [List.map_toArray, List.map_cons, List.map_nil]); first | done | rfl | (simp only [List.length_drop, List.length_take]; rfl)) ?_; (with_reducible refine (impl_FormatOps.calls kj6 _ _ t454 t457 _ ?side1 ?side2 ?side3 A43.out).mono ?_); (case side1 => exact Kd.C_below (Kd.R_reads' HO456.out).2.2 (BL (Below.refl _ _) rfl rfl rfl rfl)); (case side2 => exact (Kd.R_reads' HO456.out).2.1); (case side3 => first | (with_reducible exact hTB) | exact Tryd.TB_below hTB (BT HB.out)); rintro e w48 ⟨rfl, hb⟩; refine ⟨_, rfl, ?_⟩; replace HO456 := AM_ (Kd.R_below (RT HO456.out) hb); replace BK442 := AM_ (BB BK442.out hb); replace BK451 := AM_ (BB BK451.out hb); replace HB := AM_ (below_step (BT HB.out) hb); (try clear hb); (try clear hb2); (try clear hk); (try clear hi)) | ((with_reducible refine gate_callee (f := 12) rfl ?_); refine goesL_ (some 50) rfl rfl Tryd.func12 (by kernel_rfl) rfl #[.string t457] rfl (by (try simp only [List.map_toArray, List.map_cons, List.map_nil]); first | done | rfl | (simp only [List.length_drop, List.length_take]; rfl)) ?_; (with_reducible refine (impl_ParseOps.calls kj6 t457 t458 t459 _ ?side1 A44.out).mono ?_); (case side1 => first | (with_reducible exact hTB) | exact Tryd.TB_below hTB (BT HB.out)); rintro e w49 ⟨v460, rfl, ho0, hb⟩; refine ⟨_, rfl, ?_⟩; have HO461 := AM_ (Kd.R_lower (Kd.R_newB (Kd.R_newB (Kd.R_new' ho0 (Kd.R_lt (RT HO456.out))) (g := gb442) (o := .cells #[.int .i64 t436, .int .i64 t437, .int .i64 t438, .int .i64 t439, .int .i64 t440, .int .i64 t441] 25 (0, 0)) (by (with_reducible repeat (first | refine blk_drewN ?_ _ | refine blk_drew ?_ | refine blk_alloc ?_ _)); exact BK442.out)) (g := gb451) (o := .cells #[.int .i64 t444, .int .i64 t445, .int .i64 t446, .int .i64 t447, .int .i64 t448, .int .i64 t449] 25 (0, 0)) (by (with_reducible repeat (first | refine blk_drewN ?_ _ | refine blk_drew ?_ | refine blk_alloc ?_ _)); exact BK451.out)) (below_size (BT HB.out))); replace HO456 := AM_ (Kd.R_elder' (RT HO456.out) (Kd.R_base ho0) hb); replace BK442 := AM_ (BB BK442.out hb); replace BK451 := AM_ (BB BK451.out hb); replace HB := AM_ (below_step (BT HB.out) hb); (try clear hb); (try clear hb2); (try clear hk); (try clear hi); (try clear ho0)))
   (try simp only [pA, pS, pZ, pK])
   go_cut [70] (fun v70 wc => ∃ (kq : Nat) (x70_44 : Bool), v70 = .bool x70_44 ∧ Aside0 (laws_FnOps.j1 kq t454 x70_44 = some r) ∧ Aside0 (kq ≤ kj6) ∧ Aside0 (Kd.R k25 25 wc w.heap.size (fun k_ => k_ ≠ gb442 ∧ k_ ≠ gb451) (.slice Ao47 t454.length co47) t454) ∧ Aside0 (wc.heap[gb442]? = some (.cells #[.int .i64 t436, .int .i64 t437, .int .i64 t438, .int .i64 t439, .int .i64 t440, .int .i64 t441] 25 (0, 0))) ∧ Aside0 (wc.heap[gb451]? = some (.cells #[.int .i64 t444, .int .i64 t445, .int .i64 t446, .int .i64 t447, .int .i64 t448, .int .i64 t449] 25 (0, 0))) ∧ Aside0 (Below w.heap.size w wc))
   case first =>
    have H := HC45.out
    clear HC45
    replace H := Option.bind_eq_some_iff.mp H
    obtain ⟨t462, A500, H⟩ := H
    replace H : (if t457.toList = t462.toList then (if t457.toList = ([] : List UInt8) then (laws_FnOps.j1 kj6 t454 false) else (if t459 = true then ((impl_EqualOps.f kj6 t454 t458).bind fun t463 => (laws_FnOps.j1 kj6 t454 (!t463))) else (laws_FnOps.j1 kj6 t454 true))) else (laws_FnOps.j1 kj6 t454 true)) = some r := H
    have A50 := AM_ A500
    clear A500
    by_cases c51 : t457.toList = t462.toList
    rotate_left
    ·rw [if_neg c51] at H
     have c51b0 : (t457.toList == t462.toList) = false := beq_eq_false_iff_ne.mpr c51
     have c51b1 : (t457.toList != t462.toList) = true := bne_iff_ne.mpr c51
     (first | rw [c51b0] | (simp only [i64_w, i32_w]; rw [c51b0]) | skip)
     have H' := AM_ H
     clear H
     go_wp2_with (first | ((with_reducible refine gate_callee (f := 13) rfl ?_); refine goesL_ (some 55) rfl rfl Tryd.func13 (by kernel_rfl) rfl #[.slice Ao47 t454.length co47] rfl (by (try simp only [List.map_toArray, List.map_cons, List.map_nil]); first | done | rfl | (simp only [List.length_drop, List.length_take]; rfl)) ?_; (with_reducible refine (spec_FormatOps.calls kj6 _ _ t454 t462 _ ?side1 ?side2 A50.out).mono ?_); (case side1 => exact Kd.C_below (Kd.R_reads' HO456.out).2.2 (BL (Below.refl _ _) rfl rfl rfl rfl)); (case side2 => exact (Kd.R_reads' HO456.out).2.1); rintro e w59 ⟨rfl, hb⟩; refine ⟨_, rfl, ?_⟩; replace HO456 := AM_ (Kd.R_below (RT HO456.out) hb); replace HO461 := AM_ (Kd.R_below (RT HO461.out) hb); replace BK442 := AM_ (BB BK442.out hb); replace BK451 := AM_ (BB BK451.out hb); replace HB := AM_ (below_step (BT HB.out) hb); (try clear hb); (try clear hb2); (try clear hk); (try clear hi)))
     go_meet
     case rel => exact ⟨_, (true), (by first | rfl | (simp; done) | (simp [*]; done)), H', ⟨by have := HJ6.out; first | omega | exact Nat.le_refl _⟩, ⟨by (with_reducible repeat (first | apply Kd.R_alloc | apply Kd.R_drewN | apply Kd.R_drew)); exact Kd.R_mono HO456.out (fun _ hk => ⟨hk.1.1.2, hk.1.2⟩)⟩, ⟨BH BK442.out⟩, ⟨BH BK451.out⟩, ⟨BT HB.out⟩⟩
    rw [if_pos c51] at H
    have c51b0 : (t457.toList == t462.toList) = true := beq_iff_eq.mpr c51
    have c51b1 : (t457.toList != t462.toList) = false := bne_eq_false_iff_eq.mpr c51
    clear c51
    (first | rw [c51b0] | (simp only [i64_w, i32_w]; rw [c51b0]) | skip)
    by_cases c52 : t457.toList = ([] : List UInt8)
    ·rw [if_pos c52] at H
     have c52b0 : (t457.toList == ([] : List UInt8)) = true := beq_iff_eq.mpr c52
     have c52b1 : (t457.toList != ([] : List UInt8)) = false := bne_eq_false_iff_eq.mpr c52
     clear c52
     have H' := AM_ H
     clear H
     go_wp2_with (first | ((with_reducible refine gate_callee (f := 13) rfl ?_); refine goesL_ (some 55) rfl rfl Tryd.func13 (by kernel_rfl) rfl #[.slice Ao47 t454.length co47] rfl (by (try simp only [List.map_toArray, List.map_cons, List.map_nil]); first | done | rfl | (simp only [List.length_drop, List.length_take]; rfl)) ?_; (with_reducible refine (spec_FormatOps.calls kj6 _ _ t454 t462 _ ?side1 ?side2 A50.out).mono ?_); (case side1 => exact Kd.C_below (Kd.R_reads' HO456.out).2.2 (BL (Below.refl _ _) rfl rfl rfl rfl)); (case side2 => exact (Kd.R_reads' HO456.out).2.1); rintro e w53 ⟨rfl, hb⟩; refine ⟨_, rfl, ?_⟩; replace HO456 := AM_ (Kd.R_below (RT HO456.out) hb); replace HO461 := AM_ (Kd.R_below (RT HO461.out) hb); replace BK442 := AM_ (BB BK442.out hb); replace BK451 := AM_ (BB BK451.out hb); replace HB := AM_ (below_step (BT HB.out) hb); (try clear hb); (try clear hb2); (try clear hk); (try clear hi)))
     go_meet
     case rel => exact ⟨_, (false), (by first | rfl | (simp; done) | (simp [*]; done)), H', ⟨by have := HJ6.out; first | omega | exact Nat.le_refl _⟩, ⟨by (with_reducible repeat (first | apply Kd.R_alloc | apply Kd.R_drewN | apply Kd.R_drew)); exact Kd.R_mono HO456.out (fun _ hk => ⟨hk.1.1.2, hk.1.2⟩)⟩, ⟨BH BK442.out⟩, ⟨BH BK451.out⟩, ⟨BT HB.out⟩⟩
    rw [if_neg c52] at H
    have c52b0 : (t457.toList == ([] : List UInt8)) = false := beq_eq_false_iff_ne.mpr c52
    have c52b1 : (t457.toList != ([] : List UInt8)) = true := bne_iff_ne.mpr c52
    by_cases c54 : t459 = true
    rotate_left
    ·replace c54 := Bool.eq_false_iff.mpr c54
     subst c54
     have H1 : (laws_FnOps.j1 kj6 t454 true) = some r := by rw [if_neg (show ¬ (false = true) by decide)] at H; exact H
     clear H
     have H := H1
     clear H1
     have H' := AM_ H
     clear H
     go_wp2_with (first | ((with_reducible refine gate_callee (f := 13) rfl ?_); refine goesL_ (some 55) rfl rfl Tryd.func13 (by kernel_rfl) rfl #[.slice Ao47 t454.length co47] rfl (by (try simp only [List.map_toArray, List.map_cons, List.map_nil]); first | done | rfl | (simp only [List.length_drop, List.length_take]; rfl)) ?_; (with_reducible refine (spec_FormatOps.calls kj6 _ _ t454 t462 _ ?side1 ?side2 A50.out).mono ?_); (case side1 => exact Kd.C_below (Kd.R_reads' HO456.out).2.2 (BL (Below.refl _ _) rfl rfl rfl rfl)); (case side2 => exact (Kd.R_reads' HO456.out).2.1); rintro e w58 ⟨rfl, hb⟩; refine ⟨_, rfl, ?_⟩; replace HO456 := AM_ (Kd.R_below (RT HO456.out) hb); replace HO461 := AM_ (Kd.R_below (RT HO461.out) hb); replace BK442 := AM_ (BB BK442.out hb); replace BK451 := AM_ (BB BK451.out hb); replace HB := AM_ (below_step (BT HB.out) hb); (try clear hb); (try clear hb2); (try clear hk); (try clear hi)))
     go_meet
     case rel => exact ⟨_, (true), (by first | rfl | (simp; done) | (simp [*]; done)), H', ⟨by have := HJ6.out; first | omega | exact Nat.le_refl _⟩, ⟨by (with_reducible repeat (first | apply Kd.R_alloc | apply Kd.R_drewN | apply Kd.R_drew)); exact Kd.R_mono HO456.out (fun _ hk => ⟨hk.1.1.2, hk.1.2⟩)⟩, ⟨BH BK442.out⟩, ⟨BH BK451.out⟩, ⟨BT HB.out⟩⟩
    subst c54
    have H1 : ((impl_EqualOps.f kj6 t454 t458).bind fun t463 => (laws_FnOps.j1 kj6 t454 (!t463))) = some r := by rw [if_pos rfl] at H; exact H
    clear H
    have H := H1
    clear H1
    replace H := Option.bind_eq_some_iff.mp H
    obtain ⟨t463, A550, H⟩ := H
    replace H : (laws_FnOps.j1 kj6 t454 (!t463)) = some r := H
    have A55 := AM_ A550
    clear A550
    have H' := AM_ H
    clear H
    go_wp2_with (first | ((with_reducible refine gate_callee (f := 13) rfl ?_); refine goesL_ (some 55) rfl rfl Tryd.func13 (by kernel_rfl) rfl #[.slice Ao47 t454.length co47] rfl (by (try simp only [List.map_toArray, List.map_cons, List.map_nil]); first | done | rfl | (simp only [List.length_drop, List.length_take]; rfl)) ?_; (with_reducible refine (spec_FormatOps.calls kj6 _ _ t454 t462 _ ?side1 ?side2 A50.out).mono ?_); (case side1 => exact Kd.C_below (Kd.R_reads' HO456.out).2.2 (BL (Below.refl _ _) rfl rfl rfl rfl)); (case side2 => exact (Kd.R_reads' HO456.out).2.1); rintro e w56 ⟨rfl, hb⟩; refine ⟨_, rfl, ?_⟩; replace HO456 := AM_ (Kd.R_below (RT HO456.out) hb); replace HO461 := AM_ (Kd.R_below (RT HO461.out) hb); replace BK442 := AM_ (BB BK442.out hb); replace BK451 := AM_ (BB BK451.out hb); replace HB := AM_ (below_step (BT HB.out) hb); (try clear hb); (try clear hb2); (try clear hk); (try clear hi); obtain ⟨Ao57, co57, eo57⟩ := Kd.R_slice HO461.out; subst eo57) | (go_at_call 14; (with_reducible refine (impl_EqualOps.calls kj6 _ _ t454 _ _ t458 t463 _ ?side1 ?side2 ?side3 ?side4 A55.out).mono ?_); (case side1 => exact Kd.C_below (Kd.R_reads' HO456.out).2.2 (BL (Below.refl _ _) rfl rfl rfl rfl)); (case side2 => exact (Kd.R_reads' HO456.out).2.1); (case side3 => exact Kd.C_below (Kd.R_reads' HO461.out).2.2 (BL (Below.refl _ _) rfl rfl rfl rfl)); (case side4 => exact (Kd.R_reads' HO461.out).2.1); rintro e w' ⟨rfl, ⟨nd, rfl⟩⟩))
    go_meet
    case rel => exact ⟨_, (!t463), (by first | rfl | (simp; done) | (simp [*]; done)), H', ⟨by have := HJ6.out; first | omega | exact Nat.le_refl _⟩, ⟨by (with_reducible repeat (first | apply Kd.R_alloc | apply Kd.R_drewN | apply Kd.R_drew)); exact Kd.R_mono HO456.out (fun _ hk => ⟨hk.1.1.2, hk.1.2⟩)⟩, ⟨BH BK442.out⟩, ⟨BH BK451.out⟩, ⟨BT HB.out⟩⟩
   case rest =>
    clear HC45
    try clear c1
    try clear c2
    try clear p2
    try clear c3
    try clear c4
    try clear c5
    try clear c6
    try clear c7
    try clear c8
    try clear c10
    try clear c11
    try clear c12
    try clear c13
    try clear c14
    try clear c17
    try clear c17b0
    try clear c17b1
    try clear c19
    try clear c19b0
    try clear c19b1
    try clear c19b2
    try clear c20
    try clear c25
    try clear c26
    try clear c33
    try clear c38
    try clear c41
    try clear c51
    try clear c51b0
    try clear c51b1
    try clear c52
    try clear c52b0
    try clear c52b1
    try clear c54
    try clear hcz10_0
    try clear hcz10_1
    try clear hcz10_2
    try clear hcz10_3
    try clear hcz10_4
    try clear hcz10_5
    try clear hcz15_0
    try clear hcz15_1
    try clear hcz15_2
    try clear hcz15_3
    try clear hcz15_4
    try clear hcz15_5
    try clear hcz21_0
    try clear hcz21_1
    try clear hcz21_2
    try clear hcz21_3
    try clear hcz21_4
    try clear hcz21_5
    try clear hcz23_0
    try clear hcz23_1
    try clear hcz23_2
    try clear hcz23_3
    try clear hcz23_4
    try clear hcz23_5
    try clear hcz27_0
    try clear hcz27_1
    try clear hcz27_2
    try clear hcz27_3
    try clear hcz27_4
    try clear hcz27_5
    try clear hcz29_0
    try clear hcz29_1
    try clear hcz29_2
    try clear hcz29_3
    try clear hcz29_4
    try clear hcz29_5
    try clear hcz31_0
    try clear hcz31_1
    try clear hcz31_2
    try clear hcz31_3
    try clear hcz31_4
    try clear hcz31_5
    try clear hcz32_0
    try clear hcz32_1
    try clear hcz32_2
    try clear hcz32_3
    try clear hcz32_4
    try clear hcz32_5
    try clear hcz34_0
    try clear hcz34_1
    try clear hcz34_2
    try clear hcz34_3
    try clear hcz34_4
    try clear hcz34_5
    try clear hcz36_0
    try clear hcz36_1
    try clear hcz36_2
    try clear hcz36_3
    try clear hcz36_4
    try clear hcz36_5
    try clear hcz39_0
    try clear hcz39_1
    try clear hcz39_2
    try clear hcz39_3
    try clear hcz39_4
    try clear hcz39_5
    try clear hfz10_0
    try clear hfz10_1
    try clear hfz10_2
    try clear hfz10_3
    try clear hfz10_4
    try clear hfz10_5
    try clear hfz15_0
    try clear hfz15_1
    try clear hfz15_2
    try clear hfz15_3
    try clear hfz15_4
    try clear hfz15_5
    try clear hfz21_0
    try clear hfz21_1
    try clear hfz21_2
    try clear hfz21_3
    try clear hfz21_4
    try clear hfz21_5
    try clear hfz23_0
    try clear hfz23_1
    try clear hfz23_2
    try clear hfz23_3
    try clear hfz23_4
    try clear hfz23_5
    try clear hfz27_0
    try clear hfz27_1
    try clear hfz27_2
    try clear hfz27_3
    try clear hfz27_4
    try clear hfz27_5
    try clear hfz29_0
    try clear hfz29_1
    try clear hfz29_2
    try clear hfz29_3
    try clear hfz29_4
    try clear hfz29_5
    try clear hfz31_0
    try clear hfz31_1
    try clear hfz31_2
    try clear hfz31_3
    try clear hfz31_4
    try clear hfz31_5
    try clear hfz32_0
    try clear hfz32_1
    try clear hfz32_2
    try clear hfz32_3
    try clear hfz32_4
    try clear hfz32_5
    try clear hfz34_0
    try clear hfz34_1
    try clear hfz34_2
    try clear hfz34_3
    try clear hfz34_4
    try clear hfz34_5
    try clear hfz36_0
    try clear hfz36_1
    try clear hfz36_2
    try clear hfz36_3
    try clear hfz36_4
    try clear hfz36_5
    try clear hfz39_0
    try clear hfz39_1
    try clear hfz39_2
    try clear hfz39_3
    try clear hfz39_4
    try clear hfz39_5
    try clear p2
    obtain ⟨kq, x70_44, rfl, HA, HJ44, HO_7, BK442, BK451, HB⟩ := hcut
    cases kq with
    | zero => exact absurd HA.out (by simp [laws_FnOps.j1])
    | succ kj44 =>
     have H := HA.out
     clear HA
     simp only [laws_FnOps.j1] at H
     by_cases c60 : x70_44 = true
     ·subst c60
      have H1 : (some false) = some r := by rw [if_pos rfl] at H; exact H
      clear H
      have H := H1
      clear H1
      obtain rfl := Option.some.inj H
      go_wp2
      go_ret
      exact QT (BT HB.out)
     replace c60 := Bool.eq_false_iff.mpr c60
     subst c60
     have H1 : (laws_FnOps.l0 kj44 t454 0 1) = some r := by rw [if_neg (show ¬ (false = true) by decide)] at H; exact H
     clear H
     have H := H1
     clear H1
     have H' := AM_ H
     clear H
     go_wp2
     go_loopg [11, 12] kj44 (fun kq v11 v12 w' => ∃ (x11_3 : Int) (x12_3 : Int), v11 = .int .i64 x11_3 ∧ v12 = .int .i64 x12_3 ∧ Aside0 (laws_FnOps.l0 kq t454 x11_3 x12_3 = some r) ∧ Aside0 (kq ≤ kj44) ∧ Aside0 (Kd.R k25 25 w' w.heap.size (fun k_ => k_ ≠ gb442 ∧ k_ ≠ gb451) (.slice Ao47 t454.length co47) t454) ∧ Aside0 (w'.heap[gb442]? = some (.cells #[.int .i64 t436, .int .i64 t437, .int .i64 t438, .int .i64 t439, .int .i64 t440, .int .i64 t441] 25 (0, 0))) ∧ Aside0 (w'.heap[gb451]? = some (.cells #[.int .i64 t444, .int .i64 t445, .int .i64 t446, .int .i64 t447, .int .i64 t448, .int .i64 t449] 25 (0, 0))) ∧ Aside0 (Below w.heap.size w w'))
     case atStart => exact ⟨(0), (1), (by first | rfl | (simp; done) | (simp [*]; done)), (by first | rfl | (simp; done) | (simp [*]; done)), H', ⟨Nat.le_refl _⟩, ⟨RT HO_7.out⟩, ⟨BH BK442.out⟩, ⟨BH BK451.out⟩, ⟨BT HB.out⟩⟩
     case round =>
      clear H'
      try clear c1
      try clear c2
      try clear p2
      try clear c3
      try clear c4
      try clear c5
      try clear c6
      try clear c7
      try clear c8
      try clear c10
      try clear c11
      try clear c12
      try clear c13
      try clear c14
      try clear c17
      try clear c17b0
      try clear c17b1
      try clear c19
      try clear c19b0
      try clear c19b1
      try clear c19b2
      try clear c20
      try clear c25
      try clear c26
      try clear c33
      try clear c38
      try clear c41
      try clear c51
      try clear c51b0
      try clear c51b1
      try clear c52
      try clear c52b0
      try clear c52b1
      try clear c54
      try clear c60
      try clear hcz10_0
      try clear hcz10_1
      try clear hcz10_2
      try clear hcz10_3
      try clear hcz10_4
      try clear hcz10_5
      try clear hcz15_0
      try clear hcz15_1
      try clear hcz15_2
      try clear hcz15_3
      try clear hcz15_4
      try clear hcz15_5
      try clear hcz21_0
      try clear hcz21_1
      try clear hcz21_2
      try clear hcz21_3
      try clear hcz21_4
      try clear hcz21_5
      try clear hcz23_0
      try clear hcz23_1
      try clear hcz23_2
      try clear hcz23_3
      try clear hcz23_4
      try clear hcz23_5
      try clear hcz27_0
      try clear hcz27_1
      try clear hcz27_2
      try clear hcz27_3
      try clear hcz27_4
      try clear hcz27_5
      try clear hcz29_0
      try clear hcz29_1
      try clear hcz29_2
      try clear hcz29_3
      try clear hcz29_4
      try clear hcz29_5
      try clear hcz31_0
      try clear hcz31_1
      try clear hcz31_2
      try clear hcz31_3
      try clear hcz31_4
      try clear hcz31_5
      try clear hcz32_0
      try clear hcz32_1
      try clear hcz32_2
      try clear hcz32_3
      try clear hcz32_4
      try clear hcz32_5
      try clear hcz34_0
      try clear hcz34_1
      try clear hcz34_2
      try clear hcz34_3
      try clear hcz34_4
      try clear hcz34_5
      try clear hcz36_0
      try clear hcz36_1
      try clear hcz36_2
      try clear hcz36_3
      try clear hcz36_4
      try clear hcz36_5
      try clear hcz39_0
      try clear hcz39_1
      try clear hcz39_2
      try clear hcz39_3
      try clear hcz39_4
      try clear hcz39_5
      try clear hfz10_0
      try clear hfz10_1
      try clear hfz10_2
      try clear hfz10_3
      try clear hfz10_4
      try clear hfz10_5
      try clear hfz15_0
      try clear hfz15_1
      try clear hfz15_2
      try clear hfz15_3
      try clear hfz15_4
      try clear hfz15_5
      try clear hfz21_0
      try clear hfz21_1
      try clear hfz21_2
      try clear hfz21_3
      try clear hfz21_4
      try clear hfz21_5
      try clear hfz23_0
      try clear hfz23_1
      try clear hfz23_2
      try clear hfz23_3
      try clear hfz23_4
      try clear hfz23_5
      try clear hfz27_0
      try clear hfz27_1
      try clear hfz27_2
      try clear hfz27_3
      try clear hfz27_4
      try clear hfz27_5
      try clear hfz29_0
      try clear hfz29_1
      try clear hfz29_2
      try clear hfz29_3
      try clear hfz29_4
      try clear hfz29_5
      try clear hfz31_0
      try clear hfz31_1
      try clear hfz31_2
      try clear hfz31_3
      try clear hfz31_4
      try clear hfz31_5
      try clear hfz32_0
      try clear hfz32_1
      try clear hfz32_2
      try clear hfz32_3
      try clear hfz32_4
      try clear hfz32_5
      try clear hfz34_0
      try clear hfz34_1
      try clear hfz34_2
      try clear hfz34_3
      try clear hfz34_4
      try clear hfz34_5
      try clear hfz36_0
      try clear hfz36_1
      try clear hfz36_2
      try clear hfz36_3
      try clear hfz36_4
      try clear hfz36_5
      try clear hfz39_0
      try clear hfz39_1
      try clear hfz39_2
      try clear hfz39_3
      try clear hfz39_4
      try clear hfz39_5
      try clear p2
      obtain ⟨x11_3, x12_3, rfl, rfl, HA, HK3, HO_7, BK442, BK451, HB⟩ := hrel
      cases gk with
      | zero => exact absurd HA.out (by simp [laws_FnOps.l0])
      | succ k3 =>
       have H := HA.out
       clear HA
       simp only [laws_FnOps.l0] at H
       by_cases c61 : x12_3 ≤ 9
       ·rw [if_pos c61] at H
        have c61b0 : decide (x12_3 ≤ 9) = true := decide_eq_true c61
        clear c61
        replace H := Option.bind_eq_some_iff.mp H
        obtain ⟨t464, A620, H⟩ := H
        replace H : (laws_FnOps.l0 k3 t454 (wrap64 (x11_3 + (t464.length : Int))) (wrap64 (x12_3 + 1))) = some r := H
        have A62 := AM_ A620
        clear A620
        have H' := AM_ H
        clear H
        go_wp2_with (first | ((with_reducible refine gate_callee (f := 15) rfl ?_); refine goesL_ (some 78) rfl rfl Tryd.func15 (by kernel_rfl) rfl #[.slice Ao47 t454.length co47, .int .i64 x12_3] rfl (by (try simp only [List.map_toArray, List.map_cons, List.map_nil]); first | done | rfl | (simp only [List.length_drop, List.length_take]; rfl)) ?_; (with_reducible refine (impl_OpsOf.calls k3 _ _ t454 x12_3 t464 _ ?side1 ?side2 A62.out).mono ?_); (case side1 => exact Kd.C_below (Kd.R_reads' HO_7.out).2.2 (BL (Below.refl _ _) rfl rfl rfl rfl)); (case side2 => exact (Kd.R_reads' HO_7.out).2.1); rintro e w63 ⟨v465, rfl, ho0, hb⟩; refine ⟨_, rfl, ?_⟩; have HO466 := AM_ (Kd.R_lower (Kd.R_newB (Kd.R_newB (Kd.R_new' ho0 (Kd.R_lt (RT HO_7.out))) (g := gb442) (o := .cells #[.int .i64 t436, .int .i64 t437, .int .i64 t438, .int .i64 t439, .int .i64 t440, .int .i64 t441] 25 (0, 0)) (by (with_reducible repeat (first | refine blk_drewN ?_ _ | refine blk_drew ?_ | refine blk_alloc ?_ _)); exact BK442.out)) (g := gb451) (o := .cells #[.int .i64 t444, .int .i64 t445, .int .i64 t446, .int .i64 t447, .int .i64 t448, .int .i64 t449] 25 (0, 0)) (by (with_reducible repeat (first | refine blk_drewN ?_ _ | refine blk_drew ?_ | refine blk_alloc ?_ _)); exact BK451.out)) (below_size (BT HB.out))); replace HO_7 := AM_ (Kd.R_elder' (RT HO_7.out) (Kd.R_base ho0) hb); replace BK442 := AM_ (BB BK442.out hb); replace BK451 := AM_ (BB BK451.out hb); replace HB := AM_ (below_step (BT HB.out) hb); (try clear hb); (try clear hb2); (try clear hk); (try clear hi); (try clear ho0); obtain ⟨Ao64, co64, eo64⟩ := Kd.R_slice HO466.out; subst eo64))
        go_roundg k3
        case measure => have := HJ6.out; have := HJ44.out; have := HK3.out; omega
        case rel => exact ⟨(wrap64 (x11_3 + (t464.length : Int))), (wrap64 (x12_3 + 1)), (by first | rfl | (simp; done) | (simp [*]; done)), (by first | rfl | (simp; done) | (simp [*]; done)), H', ⟨by have := HJ6.out; have := HJ44.out; have := HK3.out; omega⟩, ⟨by (with_reducible repeat (first | apply Kd.R_alloc | apply Kd.R_drewN | apply Kd.R_drew)); exact Kd.R_mono HO_7.out (fun _ hk => ⟨hk.1.1, hk.1.2⟩)⟩, ⟨BH BK442.out⟩, ⟨BH BK451.out⟩, ⟨BT HB.out⟩⟩
       rw [if_neg c61] at H
       have c61b0 : decide (x12_3 ≤ 9) = false := decide_eq_false c61
       clear c61
       have H' := AM_ H
       clear H
       go_wp2
       go_loopg [13, 14] k3 (fun kq v13 v14 w' => ∃ (x13_4 : Int) (x14_4 : Int), v13 = .int .i64 x13_4 ∧ v14 = .int .i64 x14_4 ∧ Aside0 (laws_FnOps.l1 kq t454 x11_3 x13_4 x14_4 = some r) ∧ Aside0 (kq ≤ k3) ∧ Aside0 (Kd.R k25 25 w' w.heap.size (fun k_ => k_ ≠ gb442 ∧ k_ ≠ gb451) (.slice Ao47 t454.length co47) t454) ∧ Aside0 (w'.heap[gb442]? = some (.cells #[.int .i64 t436, .int .i64 t437, .int .i64 t438, .int .i64 t439, .int .i64 t440, .int .i64 t441] 25 (0, 0))) ∧ Aside0 (w'.heap[gb451]? = some (.cells #[.int .i64 t444, .int .i64 t445, .int .i64 t446, .int .i64 t447, .int .i64 t448, .int .i64 t449] 25 (0, 0))) ∧ Aside0 (Below w.heap.size w w'))
       case atStart => exact ⟨(0), (0), (by first | rfl | (simp; done) | (simp [*]; done)), (by first | rfl | (simp; done) | (simp [*]; done)), H', ⟨Nat.le_refl _⟩, ⟨RT HO_7.out⟩, ⟨BH BK442.out⟩, ⟨BH BK451.out⟩, ⟨BT HB.out⟩⟩
       case round =>
        clear H'
        try clear c1
        try clear c2
        try clear p2
        try clear c3
        try clear c4
        try clear c5
        try clear c6
        try clear p6
        try clear c7
        try clear c8
        try clear c10
        try clear c11
        try clear c12
        try clear c13
        try clear c14
        try clear c15
        try clear c17
        try clear c17b0
        try clear c17b1
        try clear c19
        try clear c19b0
        try clear c19b1
        try clear c19b2
        try clear c20
        try clear c25
        try clear c26
        try clear c33
        try clear c38
        try clear c41
        try clear c51
        try clear c51b0
        try clear c51b1
        try clear c52
        try clear c52b0
        try clear c52b1
        try clear c54
        try clear c60
        try clear c61
        try clear c61b0
        try clear p64
        try clear hcz10_0
        try clear hcz10_1
        try clear hcz10_2
        try clear hcz10_3
        try clear hcz10_4
        try clear hcz10_5
        try clear hcz15_0
        try clear hcz15_1
        try clear hcz15_2
        try clear hcz15_3
        try clear hcz15_4
        try clear hcz15_5
        try clear hcz21_0
        try clear hcz21_1
        try clear hcz21_2
        try clear hcz21_3
        try clear hcz21_4
        try clear hcz21_5
        try clear hcz23_0
        try clear hcz23_1
        try clear hcz23_2
        try clear hcz23_3
        try clear hcz23_4
        try clear hcz23_5
        try clear hcz27_0
        try clear hcz27_1
        try clear hcz27_2
        try clear hcz27_3
        try clear hcz27_4
        try clear hcz27_5
        try clear hcz29_0
        try clear hcz29_1
        try clear hcz29_2
        try clear hcz29_3
        try clear hcz29_4
        try clear hcz29_5
        try clear hcz31_0
        try clear hcz31_1
        try clear hcz31_2
        try clear hcz31_3
        try clear hcz31_4
        try clear hcz31_5
        try clear hcz32_0
        try clear hcz32_1
        try clear hcz32_2
        try clear hcz32_3
        try clear hcz32_4
        try clear hcz32_5
        try clear hcz34_0
        try clear hcz34_1
        try clear hcz34_2
        try clear hcz34_3
        try clear hcz34_4
        try clear hcz34_5
        try clear hcz36_0
        try clear hcz36_1
        try clear hcz36_2
        try clear hcz36_3
        try clear hcz36_4
        try clear hcz36_5
        try clear hcz39_0
        try clear hcz39_1
        try clear hcz39_2
        try clear hcz39_3
        try clear hcz39_4
        try clear hcz39_5
        try clear hfz10_0
        try clear hfz10_1
        try clear hfz10_2
        try clear hfz10_3
        try clear hfz10_4
        try clear hfz10_5
        try clear hfz15_0
        try clear hfz15_1
        try clear hfz15_2
        try clear hfz15_3
        try clear hfz15_4
        try clear hfz15_5
        try clear hfz21_0
        try clear hfz21_1
        try clear hfz21_2
        try clear hfz21_3
        try clear hfz21_4
        try clear hfz21_5
        try clear hfz23_0
        try clear hfz23_1
        try clear hfz23_2
        try clear hfz23_3
        try clear hfz23_4
        try clear hfz23_5
        try clear hfz27_0
        try clear hfz27_1
        try clear hfz27_2
        try clear hfz27_3
        try clear hfz27_4
        try clear hfz27_5
        try clear hfz29_0
        try clear hfz29_1
        try clear hfz29_2
        try clear hfz29_3
        try clear hfz29_4
        try clear hfz29_5
        try clear hfz31_0
        try clear hfz31_1
        try clear hfz31_2
        try clear hfz31_3
        try clear hfz31_4
        try clear hfz31_5
        try clear hfz32_0
        try clear hfz32_1
        try clear hfz32_2
        try clear hfz32_3
        try clear hfz32_4
        try clear hfz32_5
        try clear hfz34_0
        try clear hfz34_1
        try clear hfz34_2
        try clear hfz34_3
        try clear hfz34_4
        try clear hfz34_5
        try clear hfz36_0
        try clear hfz36_1
        try clear hfz36_2
        try clear hfz36_3
        try clear hfz36_4
        try clear hfz36_5
        try clear hfz39_0
        try clear hfz39_1
        try clear hfz39_2
        try clear hfz39_3
        try clear hfz39_4
        try clear hfz39_5
        try clear p2
        obtain ⟨x13_4, x14_4, rfl, rfl, HA, HK4, HO_7, BK442, BK451, HB⟩ := hrel
        cases gk with
        | zero => exact absurd HA.out (by simp [laws_FnOps.l1])
        | succ k4 =>
         have H := HA.out
         clear HA
         simp only [laws_FnOps.l1] at H
         by_cases c65 : x14_4 < (t454.length : Int)
         rotate_left
         ·rw [if_neg c65] at H
          have c65b0 : decide (x14_4 < (t454.length : Int)) = false := decide_eq_false c65
          clear c65
          obtain rfl := Option.some.inj H
          go_wp2
          go_ret
          exact QT (BT HB.out)
         rw [if_pos c65] at H
         have c65b0 : decide (x14_4 < (t454.length : Int)) = true := decide_eq_true c65
         clear c65
         by_cases c66 : 0 ≤ x14_4
         rotate_left
         ·rw [if_neg c66] at H
          exact absurd H (by simp)
         rw [if_pos c66] at H
         have c66b0 : decide (0 ≤ x14_4) = true := decide_eq_true c66
         clear c66
         by_cases c67 : ((rd_T25 t454 x14_4).f1) ≥ 1
         rotate_left
         ·rw [if_neg c67] at H
          have c67b0 : decide (1 ≤ ((rd_T25 t454 x14_4).f1)) = false := decide_eq_false c67
          clear c67
          have H' := AM_ H
          clear H
          have p467 : 0 ≤ (x14_4 : Int) := DT
          have q467 : x14_4 < (t454.length : Int) := DT
          obtain ⟨ad467, e467, hx467_0, hx467_1, hx467_2, hx467_3, hx467_4, hx467_5⟩ := at_T25 (Kd.R_reads' HO_7.out).2.2 x14_4 p467 q467
          cases e467
          replace p467 := eq_true p467
          replace q467 := eq_true q467
          go_wp2
          go_roundg k4
          case measure => have := HJ6.out; have := HJ44.out; have := HK3.out; have := HK4.out; omega
          case rel => exact ⟨(x13_4), (wrap64 (x14_4 + 1)), (by first | rfl | (simp; done) | (simp [*]; done)), (by first | rfl | (simp; done) | (simp [*]; done)), H', ⟨by have := HJ6.out; have := HJ44.out; have := HK3.out; have := HK4.out; omega⟩, ⟨RT HO_7.out⟩, ⟨BH BK442.out⟩, ⟨BH BK451.out⟩, ⟨BT HB.out⟩⟩
         rw [if_pos c67] at H
         have c67b0 : decide (1 ≤ ((rd_T25 t454 x14_4).f1)) = true := decide_eq_true c67
         clear c67
         by_cases c68 : ((rd_T25 t454 x14_4).f1) ≤ 9
         rotate_left
         ·rw [if_neg c68] at H
          have c68b0 : decide (((rd_T25 t454 x14_4).f1) ≤ 9) = false := decide_eq_false c68
          clear c68
          have H' := AM_ H
          clear H
          have p467 : 0 ≤ (x14_4 : Int) := DT
          have q467 : x14_4 < (t454.length : Int) := DT
          obtain ⟨ad467, e467, hx467_0, hx467_1, hx467_2, hx467_3, hx467_4, hx467_5⟩ := at_T25 (Kd.R_reads' HO_7.out).2.2 x14_4 p467 q467
          cases e467
          replace p467 := eq_true p467
          replace q467 := eq_true q467
          have p468 : 0 ≤ (x14_4 : Int) := DT
          have q468 : x14_4 < (t454.length : Int) := DT
          obtain ⟨ad468, e468, hx468_0, hx468_1, hx468_2, hx468_3, hx468_4, hx468_5⟩ := at_T25 (Kd.R_reads' HO_7.out).2.2 x14_4 p468 q468
          obtain rfl : ad467 = ad468 := (by injection e468)
          replace p468 := eq_true p468
          replace q468 := eq_true q468
          go_wp2
          go_roundg k4
          case measure => have := HJ6.out; have := HJ44.out; have := HK3.out; have := HK4.out; omega
          case rel => exact ⟨(x13_4), (wrap64 (x14_4 + 1)), (by first | rfl | (simp; done) | (simp [*]; done)), (by first | rfl | (simp; done) | (simp [*]; done)), H', ⟨by have := HJ6.out; have := HJ44.out; have := HK3.out; have := HK4.out; omega⟩, ⟨RT HO_7.out⟩, ⟨BH BK442.out⟩, ⟨BH BK451.out⟩, ⟨BT HB.out⟩⟩
         rw [if_pos c68] at H
         have c68b0 : decide (((rd_T25 t454 x14_4).f1) ≤ 9) = true := decide_eq_true c68
         clear c68
         have H' := AM_ H
         clear H
         have p467 : 0 ≤ (x14_4 : Int) := DT
         have q467 : x14_4 < (t454.length : Int) := DT
         obtain ⟨ad467, e467, hx467_0, hx467_1, hx467_2, hx467_3, hx467_4, hx467_5⟩ := at_T25 (Kd.R_reads' HO_7.out).2.2 x14_4 p467 q467
         cases e467
         replace p467 := eq_true p467
         replace q467 := eq_true q467
         have p468 : 0 ≤ (x14_4 : Int) := DT
         have q468 : x14_4 < (t454.length : Int) := DT
         obtain ⟨ad468, e468, hx468_0, hx468_1, hx468_2, hx468_3, hx468_4, hx468_5⟩ := at_T25 (Kd.R_reads' HO_7.out).2.2 x14_4 p468 q468
         obtain rfl : ad467 = ad468 := (by injection e468)
         replace p468 := eq_true p468
         replace q468 := eq_true q468
         go_wp2
         go_roundg k4
         case measure => have := HJ6.out; have := HJ44.out; have := HK3.out; have := HK4.out; omega
         case rel => exact ⟨(wrap64 (x13_4 + 1)), (wrap64 (x14_4 + 1)), (by first | rfl | (simp; done) | (simp [*]; done)), (by first | rfl | (simp; done) | (simp [*]; done)), H', ⟨by have := HJ6.out; have := HJ44.out; have := HK3.out; have := HK4.out; omega⟩, ⟨RT HO_7.out⟩, ⟨BH BK442.out⟩, ⟨BH BK451.out⟩, ⟨BT HB.out⟩⟩

/-- THE ONE PURE STATEMENT of laws_FnOps: yours. -/
def laws_FnOps.Pure : Prop := ∀ (l0 : List Int), l0.length ≤ maxLen → l0.length * 1 ≤ 140737488351232 → (∀ x ∈ l0, (Lit.int .u8 x).wf = true) → ∃ k, laws_FnOps.f k l0 = some true
theorem laws_FnOps.walk (P : laws_FnOps.Pure) (a0 : Option Addr) (len0 cap0 : Nat) (z0 : List Int) (w : World) (hTB : Tryd.TB w) (w0 : (a0 = none ∧ len0 = 0 ∧ cap0 = 0 ∧ z0 = []) ∨ ∃ x, a0 = some x ∧ len0 ≤ cap0 ∧ cap0 ≤ maxLen ∧ z0.length = cap0 ∧ (∀ i, i < z0.length → w.cell? (x.add i) = some (.int .u8 (z0.getD i 0))) ∧ ∀ n ∈ z0, (Lit.int .u8 n).wf = true) (y0 : len0 * 1 ≤ 140737488351232) :
  Calls Tryd.prog 3 #[.slice a0 len0 cap0] w fun e w' => e = .returned (.bool true) ∧ Below w.heap.size w w' := by
 obtain ⟨l0, rfl, hr0, hm0, hw0, hc0⟩ := ReadsInt.ofRowC w0
 obtain ⟨k, h⟩ := P l0 hm0 y0 hw0
 refine (laws_FnOps.calls k _ _ l0 true w (Kd.C_of_reads (d := (0 : Int)) (h1 := fun _ => rfl) hr0) hc0 hTB h).mono ?_
 rintro e w' ⟨rfl, hd⟩
 exact ⟨rfl, hd⟩

end Go.Proofs.YtdfbmaiboadodaaDoor.PFnOps
