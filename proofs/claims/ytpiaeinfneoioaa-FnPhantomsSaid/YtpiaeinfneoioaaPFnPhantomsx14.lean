-- Printed by a program of mine (wip/myprint.py), which runs the printer of the kit with contracts of mine beside it.
import Derived.Test.YtpiaeinfneoioaaPFnPhantomsx0
import Derived.Test.YtpiaeinfneoioaaPFnPhantomsx1
import Derived.Test.YtpiaeinfneoioaaPFnPhantomsx2
import Derived.Test.YtpiaeinfneoioaaPFnPhantomsx4
import Derived.Test.YtpiaeinfneoioaaPFnPhantomsx7
import Derived.Test.YtpiaeinfneoioaaPFnPhantomsx8
import Derived.Test.YtpiaeinfneoioaaPFnPhantomsx11
import Derived.Test.YtpiaeinfneoioaaPFnPhantomsx12
import Derived.Test.YtpiaeinfneoioaaPFnPhantomsx13
namespace Go.Proofs.Ytpiaeinfneoioaa.PFnPhantoms
open Go.RowKit Go.Proofs.YtpiaeinfneoioaaW.PrintWords Go.Proofs.YtpiaeinfneoioaaW.PrintLast Go.Proofs.YtpiaeinfneoioaaW.PrintMore
attribute [local go_sem] max2_int min2_int max_two min_two max_three min_three max_four min_four   -- for this text's walks alone
set_option linter.unusedVariables false
set_option linter.unusedSimpArgs false

attribute [local go_sem high] eqA77
/-! ### laws_FnPhantoms: function 9 -/
mutual
def laws_FnPhantoms.l0 : Nat → List Int → List (S77) → List (S77) → Int → List (List (S160)) → Option (Bool)
 | 0, _, _, _, _, _ => none
 | k + 1, x0, x4, x5, x6, x439000 => if x6 < (x4.length : Int) then (if 0 ≤ x6 then (if x6 < (x5.length : Int) then (if (!(((rd_T77 x4 x6).f0) == ((rd_T77 x5 x6).f0)) || (!(((rd_T77 x4 x6).f1) == ((rd_T77 x5 x6).f1)) || (!(((rd_T77 x4 x6).f2) == ((rd_T77 x5 x6).f2))))) = true then (some false) else (laws_FnPhantoms.l0 k x0 x4 x5 (wrap64 (x6 + 1)) x439000)) else (none)) else (none)) else ((spec_IsValidStore.f k x439000).bind fun t447 => (if t447 = true then ((laws_at.f x0 0).bind fun t448 => ((spec_StateAt.f k x439000 (Int.tmod t448 12)).bind fun t449 => ((spec_LastStamp.f k x439000).bind fun t452 => ((spec_StateAt.f k x439000 t452).bind fun t453 => (laws_FnPhantoms.l1 k x4 (Int.tmod t448 12) t449 t453 0))))) else (some ((x4.length : Int) == 0))))
def laws_FnPhantoms.l1 : Nat → List (S77) → Int → List Int → List Int → Int → Option (Bool)
 | 0, _, _, _, _, _ => none
 | k + 1, x4, x7, x8, x9, x10 => if x10 < (x8.length : Int) then (laws_FnPhantoms.j2 k x4 x7 x8 x9 x10 (decide (x10 < (x9.length : Int)))) else (laws_FnPhantoms.j2 k x4 x7 x8 x9 x10 false)
def laws_FnPhantoms.j2 : Nat → List (S77) → Int → List Int → List Int → Int → Bool → Option (Bool)
 | 0, _, _, _, _, _, _ => none
 | k + 1, x4, x7, x8, x9, x10, x65 => if x65 = true then ((impl_NodesFor.f k x4 x10 x10).bind fun t456 => (if (t456.length : Int) = 1 then (if 0 ≤ x10 then (if x10 < (x8.length : Int) then (if x10 < (x9.length : Int) then (if (((rd x8 x10) == (-1)) != ((rd x9 x10) == (-1))) = true then (if 0 < (t456.length : Int) then (if ((rd_T77 t456 0).f2) ≤ x7 then (some false) else (laws_FnPhantoms.l1 k x4 x7 x8 x9 (wrap64 (x10 + 1)))) else (none)) else (laws_FnPhantoms.l1 k x4 x7 x8 x9 (wrap64 (x10 + 1)))) else (none)) else (none)) else (none)) else (some false))) else ((impl_IsIndex.f k x4).bind fun t462 => (some t462))
end
def laws_FnPhantoms.f (k : Nat) (l0 : List Int) : Option (Bool) := (laws_big.f l0).bind fun t434 => (if t434 = true then (some true) else ((spec_DrawIndexOf.f k l0).bind fun t435 => ((impl_IndexOf.f k t435).bind fun t439 => ((spec_IndexOf.f k t435).bind fun t442 => (if (t439.length : Int) = (t442.length : Int) then (laws_FnPhantoms.l0 k l0 t439 t442 0 t435) else (some false))))))
theorem laws_FnPhantoms.mono_l : ∀ k, (∀ y0 y1 y2 y3 y4, LeO (laws_FnPhantoms.l0 k y0 y1 y2 y3 y4) (laws_FnPhantoms.l0 (k + 1) y0 y1 y2 y3 y4)) ∧ (∀ y0 y1 y2 y3 y4, LeO (laws_FnPhantoms.l1 k y0 y1 y2 y3 y4) (laws_FnPhantoms.l1 (k + 1) y0 y1 y2 y3 y4)) ∧ (∀ y0 y1 y2 y3 y4 y5, LeO (laws_FnPhantoms.j2 k y0 y1 y2 y3 y4 y5) (laws_FnPhantoms.j2 (k + 1) y0 y1 y2 y3 y4 y5))
 | 0 => ⟨fun _ _ _ _ _ r h => by simp [laws_FnPhantoms.l0] at h, fun _ _ _ _ _ r h => by simp [laws_FnPhantoms.l1] at h, fun _ _ _ _ _ _ r h => by simp [laws_FnPhantoms.j2] at h⟩
 | k + 1 => by
  obtain ⟨ih0, ih1, ih2⟩ := laws_FnPhantoms.mono_l k
  refine ⟨?_, ?_, ?_⟩
  ·intro y0 y1 y2 y3 y4
   unfold laws_FnPhantoms.l0
   repeat' first
   | (with_reducible exact ih0 _ _ _ _ _)
   | (with_reducible exact ih1 _ _ _ _ _)
   | (with_reducible exact ih2 _ _ _ _ _ _)
   | (with_reducible exact impl_IndexOf.mono _ _)
   | (with_reducible exact impl_IsIndex.mono _ _)
   | (with_reducible exact impl_NodesFor.mono _ _ _ _)
   | (with_reducible exact spec_DrawIndexOf.mono _ _)
   | (with_reducible exact spec_IndexOf.mono _ _)
   | (with_reducible exact spec_IsValidStore.mono _ _)
   | (with_reducible exact spec_LastStamp.mono _ _)
   | (with_reducible exact spec_StateAt.mono _ _ _)
   | (with_reducible exact LeO.refl _)
   | (with_reducible exact LeO.none _)
   | (with_reducible refine LeO.ite ?_ ?_)
   | (with_reducible refine LeO.bind ?_ (fun _ => ?_))
   | exact ih0 _ _ _ _ _
   | exact ih1 _ _ _ _ _
   | exact ih2 _ _ _ _ _ _
   | exact impl_IndexOf.mono _ _
   | exact impl_IsIndex.mono _ _
   | exact impl_NodesFor.mono _ _ _ _
   | exact spec_DrawIndexOf.mono _ _
   | exact spec_IndexOf.mono _ _
   | exact spec_IsValidStore.mono _ _
   | exact spec_LastStamp.mono _ _
   | exact spec_StateAt.mono _ _ _
   | exact LeO.none _
   | refine LeO.ite ?_ ?_
   | refine LeO.bind ?_ (fun _ => ?_)
  ·intro y0 y1 y2 y3 y4
   unfold laws_FnPhantoms.l1
   repeat' first
   | (with_reducible exact ih0 _ _ _ _ _)
   | (with_reducible exact ih1 _ _ _ _ _)
   | (with_reducible exact ih2 _ _ _ _ _ _)
   | (with_reducible exact impl_IndexOf.mono _ _)
   | (with_reducible exact impl_IsIndex.mono _ _)
   | (with_reducible exact impl_NodesFor.mono _ _ _ _)
   | (with_reducible exact spec_DrawIndexOf.mono _ _)
   | (with_reducible exact spec_IndexOf.mono _ _)
   | (with_reducible exact spec_IsValidStore.mono _ _)
   | (with_reducible exact spec_LastStamp.mono _ _)
   | (with_reducible exact spec_StateAt.mono _ _ _)
   | (with_reducible exact LeO.refl _)
   | (with_reducible exact LeO.none _)
   | (with_reducible refine LeO.ite ?_ ?_)
   | (with_reducible refine LeO.bind ?_ (fun _ => ?_))
   | exact ih0 _ _ _ _ _
   | exact ih1 _ _ _ _ _
   | exact ih2 _ _ _ _ _ _
   | exact impl_IndexOf.mono _ _
   | exact impl_IsIndex.mono _ _
   | exact impl_NodesFor.mono _ _ _ _
   | exact spec_DrawIndexOf.mono _ _
   | exact spec_IndexOf.mono _ _
   | exact spec_IsValidStore.mono _ _
   | exact spec_LastStamp.mono _ _
   | exact spec_StateAt.mono _ _ _
   | exact LeO.none _
   | refine LeO.ite ?_ ?_
   | refine LeO.bind ?_ (fun _ => ?_)
  ·intro y0 y1 y2 y3 y4 y5
   unfold laws_FnPhantoms.j2
   repeat' first
   | (with_reducible exact ih0 _ _ _ _ _)
   | (with_reducible exact ih1 _ _ _ _ _)
   | (with_reducible exact ih2 _ _ _ _ _ _)
   | (with_reducible exact impl_IndexOf.mono _ _)
   | (with_reducible exact impl_IsIndex.mono _ _)
   | (with_reducible exact impl_NodesFor.mono _ _ _ _)
   | (with_reducible exact spec_DrawIndexOf.mono _ _)
   | (with_reducible exact spec_IndexOf.mono _ _)
   | (with_reducible exact spec_IsValidStore.mono _ _)
   | (with_reducible exact spec_LastStamp.mono _ _)
   | (with_reducible exact spec_StateAt.mono _ _ _)
   | (with_reducible exact LeO.refl _)
   | (with_reducible exact LeO.none _)
   | (with_reducible refine LeO.ite ?_ ?_)
   | (with_reducible refine LeO.bind ?_ (fun _ => ?_))
   | exact ih0 _ _ _ _ _
   | exact ih1 _ _ _ _ _
   | exact ih2 _ _ _ _ _ _
   | exact impl_IndexOf.mono _ _
   | exact impl_IsIndex.mono _ _
   | exact impl_NodesFor.mono _ _ _ _
   | exact spec_DrawIndexOf.mono _ _
   | exact spec_IndexOf.mono _ _
   | exact spec_IsValidStore.mono _ _
   | exact spec_LastStamp.mono _ _
   | exact spec_StateAt.mono _ _ _
   | exact LeO.none _
   | refine LeO.ite ?_ ?_
   | refine LeO.bind ?_ (fun _ => ?_)
theorem laws_FnPhantoms.mono : ∀ a0 k, LeO (laws_FnPhantoms.f k a0) (laws_FnPhantoms.f (k + 1) a0) := by
 intro a0 k
 obtain ⟨ih0, ih1, ih2⟩ := laws_FnPhantoms.mono_l k
 unfold laws_FnPhantoms.f
 repeat' first
   | (with_reducible exact ih0 _ _ _ _ _)
   | (with_reducible exact ih1 _ _ _ _ _)
   | (with_reducible exact ih2 _ _ _ _ _ _)
   | (with_reducible exact impl_IndexOf.mono _ _)
   | (with_reducible exact impl_IsIndex.mono _ _)
   | (with_reducible exact impl_NodesFor.mono _ _ _ _)
   | (with_reducible exact spec_DrawIndexOf.mono _ _)
   | (with_reducible exact spec_IndexOf.mono _ _)
   | (with_reducible exact spec_IsValidStore.mono _ _)
   | (with_reducible exact spec_LastStamp.mono _ _)
   | (with_reducible exact spec_StateAt.mono _ _ _)
   | (with_reducible exact LeO.refl _)
   | (with_reducible exact LeO.none _)
   | (with_reducible refine LeO.ite ?_ ?_)
   | (with_reducible refine LeO.bind ?_ (fun _ => ?_))
   | exact ih0 _ _ _ _ _
   | exact ih1 _ _ _ _ _
   | exact ih2 _ _ _ _ _ _
   | exact impl_IndexOf.mono _ _
   | exact impl_IsIndex.mono _ _
   | exact impl_NodesFor.mono _ _ _ _
   | exact spec_DrawIndexOf.mono _ _
   | exact spec_IndexOf.mono _ _
   | exact spec_IsValidStore.mono _ _
   | exact spec_LastStamp.mono _ _
   | exact spec_StateAt.mono _ _ _
   | exact LeO.none _
   | refine LeO.ite ?_ ?_
   | refine LeO.bind ?_ (fun _ => ?_)
def laws_FnPhantoms.T11 : Bool × List (List Nat × List Nat) := (true, [([], []), ([], []), ([0, 1], [0, 1]), ([2], [2]), ([], []), ([], []), ([4, 5], [4, 5]), ([6], [6]), ([3, 7], [3, 7])])
def laws_FnPhantoms.B11 : List Nat := [0, 0, 3, 7, 0, 0, 48, 112, 255]
theorem laws_FnPhantoms.tab11 : rtab .any (opsOf Try.f9 11) = laws_FnPhantoms.T11 := by kernel_rfl
theorem laws_FnPhantoms.bits11 : waitsOk laws_FnPhantoms.T11.2 laws_FnPhantoms.B11 = true := by kernel_rfl
def laws_FnPhantoms.T22 : Bool × List (List Nat × List Nat) := (true, [([], []), ([0], [0]), ([1], [1]), ([2], [2]), ([3], [3]), ([3], [3]), ([4, 5, 3], [3, 4, 5]), ([6, 3], [3, 6]), ([7, 3], [3, 7]), ([3], [3]), ([3], [3]), ([9, 10, 3], [3, 9, 10]), ([11, 3], [3, 11]), ([12, 3], [3, 12]), ([8, 13, 3], [3, 8, 13]), ([14, 3, 3], [3, 14]), ([15], [15]), ([16, 15], [15, 16]), ([17, 15], [15, 17]), ([18, 15], [15, 18]), ([15], [15]), ([19, 20, 15], [15, 19, 20]), ([15, 21, 3], [3, 15, 21]), ([3, 22], [3, 22])])
def laws_FnPhantoms.B22 : List Nat := [0, 1, 3, 7, 15, 15, 63, 127, 255, 15, 15, 1551, 3599, 7695, 16383, 32767, 65535, 131071, 262143, 524287, 65535, 2097151, 4194303, 8388607]
theorem laws_FnPhantoms.tab22 : rtab .any (opsOf Try.f9 22) = laws_FnPhantoms.T22 := by kernel_rfl
theorem laws_FnPhantoms.bits22 : waitsOk laws_FnPhantoms.T22.2 laws_FnPhantoms.B22 = true := by kernel_rfl
set_option maxHeartbeats 8000000 in
set_option maxRecDepth 100000 in
theorem laws_FnPhantoms.calls (k : Nat) (A0 : Option Addr) (c0 : Nat) (l0 : List Int) (r : Bool) (w : World) (hr0 : Kd.C (Kd.int .u8) w A0 l0.length l0) (hc0 : l0.length ≤ c0) (h : laws_FnPhantoms.f k l0 = some r) :
  Calls Try.prog 9 #[.slice A0 l0.length c0] w fun e w' => e = .returned (.bool r) ∧ Below w.heap.size w w' := by
 have hu72 := Try.underlying72
 have hu77 := Try.underlying77
 have HR0 := AM_ hr0
 have HC0 := AM_ hc0
 clear hr0 hc0
 have HB := AM_ (Below.refl w.heap.size w)
 have H : ((laws_big.f l0).bind fun t434 => (if t434 = true then (some true) else ((spec_DrawIndexOf.f k l0).bind fun t435 => ((impl_IndexOf.f k t435).bind fun t439 => ((spec_IndexOf.f k t435).bind fun t442 => (if (t439.length : Int) = (t442.length : Int) then (laws_FnPhantoms.l0 k l0 t439 t442 0 t435) else (some false))))))) = some r := h
 clear h
 replace H := Option.bind_eq_some_iff.mp H
 obtain ⟨t434, A20, H⟩ := H
 replace H : (if t434 = true then (some true) else ((spec_DrawIndexOf.f k l0).bind fun t435 => ((impl_IndexOf.f k t435).bind fun t439 => ((spec_IndexOf.f k t435).bind fun t442 => (if (t439.length : Int) = (t442.length : Int) then (laws_FnPhantoms.l0 k l0 t439 t442 0 t435) else (some false)))))) = some r := H
 have A2 := AM_ A20
 clear A20
 by_cases c3 : t434 = true
 ·subst c3
  have H1 : (some true) = some r := by rw [if_pos rfl] at H; exact H
  clear H
  have H := H1
  clear H1
  obtain rfl := Option.some.inj H
  go_enter Try.func9, Try.ntmps9
  go_wp2_with (first | ((with_reducible refine gate_callee (f := 37) rfl ?_); refine goesL_ (some 13) rfl rfl Try.func37 (by kernel_rfl) rfl #[.slice A0 l0.length c0] rfl (by (try simp only [List.map_toArray, List.map_cons, List.map_nil]); first | done | rfl | (simp only [List.length_drop, List.length_take]; rfl)) ?_; (with_reducible refine (laws_big.calls _ _ l0 true _ ?side1 ?side2 A2.out).mono ?_); (case side1 => repeat (first | exact HR0.out | (with_reducible refine Kd.C_alloc ?_ _) | (with_reducible refine Kd.C_drewN ?_ _) | (with_reducible refine Kd.C_drew ?_))); (case side2 => exact HC0.out); rintro e w' ⟨rfl, ⟨nd, rfl⟩⟩; refine ⟨_, rfl, ?_⟩))
  go_ret
  exact ⟨by first | rfl | (simp [errW_none, errW_some] <;> rfl) | (simp [*, errW_none, errW_some] <;> rfl), by exact BL HB.out rfl rfl rfl rfl⟩
 replace c3 := Bool.eq_false_iff.mpr c3
 subst c3
 have H1 : ((spec_DrawIndexOf.f k l0).bind fun t435 => ((impl_IndexOf.f k t435).bind fun t439 => ((spec_IndexOf.f k t435).bind fun t442 => (if (t439.length : Int) = (t442.length : Int) then (laws_FnPhantoms.l0 k l0 t439 t442 0 t435) else (some false))))) = some r := by rw [if_neg (show ¬ (false = true) by decide)] at H; exact H
 clear H
 have H := H1
 clear H1
 replace H := Option.bind_eq_some_iff.mp H
 obtain ⟨t435, A40, H⟩ := H
 replace H : ((impl_IndexOf.f k t435).bind fun t439 => ((spec_IndexOf.f k t435).bind fun t442 => (if (t439.length : Int) = (t442.length : Int) then (laws_FnPhantoms.l0 k l0 t439 t442 0 t435) else (some false)))) = some r := H
 have A4 := AM_ A40
 clear A40
 replace H := Option.bind_eq_some_iff.mp H
 obtain ⟨t439, A50, H⟩ := H
 replace H : ((spec_IndexOf.f k t435).bind fun t442 => (if (t439.length : Int) = (t442.length : Int) then (laws_FnPhantoms.l0 k l0 t439 t442 0 t435) else (some false))) = some r := H
 have A5 := AM_ A50
 clear A50
 replace H := Option.bind_eq_some_iff.mp H
 obtain ⟨t442, A60, H⟩ := H
 replace H : (if (t439.length : Int) = (t442.length : Int) then (laws_FnPhantoms.l0 k l0 t439 t442 0 t435) else (some false)) = some r := H
 have A6 := AM_ A60
 clear A60
 by_cases c7 : (t439.length : Int) = (t442.length : Int)
 rotate_left
 ·rw [if_neg c7] at H
  have c7b0 : ((t439.length : Int) == (t442.length : Int)) = false := beq_eq_false_iff_ne.mpr c7
  have c7b1 : ((t439.length : Int) != (t442.length : Int)) = true := bne_iff_ne.mpr c7
  have c7b2 : (t439.length == t442.length) = false := by first | simpa using c7 | (simp at c7 ⊢; omega)
  obtain rfl := Option.some.inj H
  go_enter Try.func9, Try.ntmps9
  go_wp2_with (first | ((with_reducible refine gate_callee (f := 37) rfl ?_); refine goesL_ (some 13) rfl rfl Try.func37 (by kernel_rfl) rfl #[.slice A0 l0.length c0] rfl (by (try simp only [List.map_toArray, List.map_cons, List.map_nil]); first | done | rfl | (simp only [List.length_drop, List.length_take]; rfl)) ?_; (with_reducible refine (laws_big.calls _ _ l0 false _ ?side1 ?side2 A2.out).mono ?_); (case side1 => repeat (first | exact HR0.out | (with_reducible refine Kd.C_alloc ?_ _) | (with_reducible refine Kd.C_drewN ?_ _) | (with_reducible refine Kd.C_drew ?_))); (case side2 => exact HC0.out); rintro e w' ⟨rfl, ⟨nd, rfl⟩⟩; refine ⟨_, rfl, ?_⟩) | ((with_reducible refine gate_callee (f := 48) rfl ?_); refine goesL_ (some 15) rfl rfl Try.func48 (by kernel_rfl) rfl #[.slice A0 l0.length c0] rfl (by (try simp only [List.map_toArray, List.map_cons, List.map_nil]); first | done | rfl | (simp only [List.length_drop, List.length_take]; rfl)) ?_; (with_reducible refine (spec_DrawIndexOf.calls k _ _ l0 t435 _ ?side1 ?side2 A4.out).mono ?_); (case side1 => repeat (first | exact HR0.out | (with_reducible refine Kd.C_alloc ?_ _) | (with_reducible refine Kd.C_drewN ?_ _) | (with_reducible refine Kd.C_drew ?_))); (case side2 => exact HC0.out); rintro e w72 ⟨v436, rfl, ho0, hb⟩; refine ⟨_, rfl, ?_⟩; have n0_ := AM_ (Kd.V_lower (Kd.V_mono (ok' := fun k_ => True) ho0 (fun k_ hk_ => trivial)) (below_size (by exact BL HB.out rfl rfl rfl rfl))); have n1_ := AM_ (below_step (by exact BL HB.out rfl rfl rfl rfl) hb); clear HB; have HO437 := n0_; have HB := n1_; clear n0_ n1_; (try clear hb); (try clear hb2); (try clear hk); (try clear hi); (try clear ho0)) | ((with_reducible refine gate_dst (N := 3) rfl ?_); (try (refine gate_guard (by rfl) ?_; dsimp only)); refine box_event ?hg (N := 3) ?hd (cs := #[.slice none 0 0]) (t := 72) ?hr ?_; (case hd => rfl); (case hg => rfl); (case hr => first | (go_simp; done) | (go_simp; rfl)); intro gb438 hg w73 hbox hb; have n0_ := AM_ (Kd.V_below (Kd.V_elderB (by (with_reducible repeat (first | apply Kd.V_alloc | apply Kd.V_drewN | apply Kd.V_drew)); exact HO437.out) gb438 (Nat.le_of_eq hg.symm)) hb); have n1_ := AM_ (below_step (by exact BL HB.out rfl rfl rfl rfl) hb); have n2_ := AM_ (hbox); have n3_ := AM_ ((by rw [hg]; exact (below_size (by exact BL HB.out rfl rfl rfl rfl)) : w.heap.size ≤ gb438)); have n4_ := AM_ ((by rw [hg]; exact (below_size (by exact BL HB.out rfl rfl rfl rfl)) : w.heap.size ≤ gb438)); clear HO437; clear HB; have HO437 := n0_; have HB := n1_; have BK438 := n2_; have GW438 := n3_; have GE438 := n4_; clear n0_ n1_ n2_ n3_ n4_; clear hb hbox hg; obtain ⟨Ao74, co74, eo74⟩ := Kd.V_slice HO437.out; subst eo74; have hcz75_0 : w73.cell? ⟨gb438, 0, none⟩ = some (.slice none 0 0) := (blk_cell BK438.out 0).trans rfl; have hfz75_0 := blk_frozen BK438.out 0) | ((with_reducible refine gate_callee (f := 49) rfl ?_); refine goesL_ (some 17) rfl rfl Try.func49 (by kernel_rfl) rfl #[.agg #[.slice Ao74 t435.length co74]] rfl (by (try simp only [List.map_toArray, List.map_cons, List.map_nil]); first | done | rfl | (simp only [List.length_drop, List.length_take]; rfl)) ?_; (with_reducible refine (impl_IndexOf.calls k _ _ t435 t439 _ ?side1 ?side2 A5.out).mono ?_); (case side1 => refine (Kd.V_reads' (e := 158) (base := w.heap.size) (ok := fun k_ => (True ∧ k_ ≠ gb438)) (n := t435.length) (c := co74) ?_).2.2; exact (by (with_reducible repeat (first | apply Kd.V_alloc | apply Kd.V_drewN | apply Kd.V_drew)); exact (Kd.V_mono (Kd.V_far (p := ⟨gb438, 0, none⟩) (Kd.V_mono HO437.out (fun k_ hk => (⟨hk, hk.2⟩ : _ ∧ k_ ≠ gb438))) (fun _ hk => hk.2) (.slice Ao74 t435.length co74)) (fun _ h_ => h_.1)))); (case side2 => exact (Kd.V_reads' HO437.out).2.1); rintro e w76 ⟨v440, rfl, ho0, hb⟩; refine ⟨_, rfl, ?_⟩; have n0_ := AM_ (Kd.V_elder' (by (with_reducible repeat (first | apply Kd.V_alloc | apply Kd.V_drewN | apply Kd.V_drew)); exact (Kd.V_mono (Kd.V_far (p := ⟨gb438, 0, none⟩) (Kd.V_mono HO437.out (fun k_ hk => (⟨hk, hk.2⟩ : _ ∧ k_ ≠ gb438))) (fun _ hk => hk.2) (.slice Ao74 t435.length co74)) (fun _ h_ => h_.1))) (Kd.R_base ho0) hb); have n1_ := AM_ (Kd.R_lower ho0 (below_size (by repeat (first | (with_reducible first | exact HB.out | apply below_alloc | apply pw_below_drewN | apply below_drew1 | refine below_set ?_ GE438.out) | exact HB.out)))); have n2_ := AM_ (blk_below (g := gb438) (o := .cells #[.slice Ao74 t435.length co74] 72 (0, 0)) (by (with_reducible repeat (first | refine blk_drewN ?_ _ | refine blk_drew ?_ | refine blk_alloc ?_ _)); refine blk_put (cs := #[.slice none 0 0]) ?_ 0 _ rfl; (with_reducible repeat (first | refine blk_drewN ?_ _ | refine blk_drew ?_ | refine blk_alloc ?_ _)); exact BK438.out) hb); have n3_ := AM_ (below_step (by repeat (first | (with_reducible first | exact HB.out | apply below_alloc | apply pw_below_drewN | apply below_drew1 | refine below_set ?_ GE438.out) | exact HB.out)) hb); clear HO437; clear BK438; clear HB; have HO437 := n0_; have HO441 := n1_; have BK438 := n2_; have HB := n3_; clear n0_ n1_ n2_ n3_; (try clear hb); (try clear hb2); (try clear hk); (try clear hi); (try clear ho0); have hcz77_0 : w76.cell? ⟨gb438, 0, none⟩ = some (.slice Ao74 t435.length co74) := (blk_cell BK438.out 0).trans rfl; have hfz77_0 := blk_frozen BK438.out 0) | ((with_reducible refine gate_callee (f := 50) rfl ?_); refine goesL_ (some 19) rfl rfl Try.func50 (by kernel_rfl) rfl #[.agg #[.slice Ao74 t435.length co74]] rfl (by (try simp only [List.map_toArray, List.map_cons, List.map_nil]); first | done | rfl | (simp only [List.length_drop, List.length_take]; rfl)) ?_; (with_reducible refine (spec_IndexOf.calls k _ _ t435 t442 _ ?side1 ?side2 A6.out).mono ?_); (case side1 => exact Kd.C_below (Kd.V_reads' HO437.out).2.2 (BL (Below.refl _ _) rfl rfl rfl rfl)); (case side2 => exact (Kd.V_reads' HO437.out).2.1); rintro e w78 ⟨v443, rfl, ho0, hb⟩; refine ⟨_, rfl, ?_⟩; have n0_ := AM_ (Kd.V_elder' (by (with_reducible repeat (first | apply Kd.V_alloc | apply Kd.V_drewN | apply Kd.V_drew)); exact HO437.out) (Kd.R_base ho0) hb); have n1_ := AM_ (Kd.R_elder' (by exact RL HO441.out rfl) (Kd.R_base ho0) hb); have n2_ := AM_ (Kd.R_lower (Kd.R_new' ho0 (Kd.R_lt (by exact RL HO441.out rfl))) (below_size (by repeat (first | (with_reducible first | exact HB.out | apply below_alloc | apply pw_below_drewN | apply below_drew1 | refine below_set ?_ GE438.out) | exact HB.out)))); have n3_ := AM_ (blk_below (g := gb438) (o := .cells #[.slice Ao74 t435.length co74] 72 (0, 0)) (by (with_reducible repeat (first | refine blk_drewN ?_ _ | refine blk_drew ?_ | refine blk_alloc ?_ _)); exact BK438.out) hb); have n4_ := AM_ (below_step (by repeat (first | (with_reducible first | exact HB.out | apply below_alloc | apply pw_below_drewN | apply below_drew1 | refine below_set ?_ GE438.out) | exact HB.out)) hb); clear HO437; clear HO441; clear BK438; clear HB; have HO437 := n0_; have HO441 := n1_; have HO444 := n2_; have BK438 := n3_; have HB := n4_; clear n0_ n1_ n2_ n3_ n4_; (try clear hb); (try clear hb2); (try clear hk); (try clear hi); (try clear ho0); obtain ⟨Ao79, co79, eo79⟩ := Kd.R_slice HO441.out; subst eo79; obtain ⟨Ao80, co80, eo80⟩ := Kd.R_slice HO444.out; subst eo80))
  go_ret
  exact ⟨by first | rfl | (simp [errW_none, errW_some] <;> rfl) | (simp [*, errW_none, errW_some] <;> rfl), by repeat (first | (with_reducible first | exact HB.out | apply below_alloc | apply pw_below_drewN | apply below_drew1 | refine below_set ?_ GE438.out) | exact HB.out)⟩
 rw [if_pos c7] at H
 have c7b0 : ((t439.length : Int) == (t442.length : Int)) = true := beq_iff_eq.mpr c7
 have c7b1 : ((t439.length : Int) != (t442.length : Int)) = false := bne_eq_false_iff_eq.mpr c7
 have c7b2 : (t439.length == t442.length) = true := by first | simpa using c7 | (simp at c7 ⊢; omega)
 clear c7
 have H' := AM_ H
 clear H
 go_enter Try.func9, Try.ntmps9
 go_wp2_with (first | ((with_reducible refine gate_callee (f := 37) rfl ?_); refine goesL_ (some 13) rfl rfl Try.func37 (by kernel_rfl) rfl #[.slice A0 l0.length c0] rfl (by (try simp only [List.map_toArray, List.map_cons, List.map_nil]); first | done | rfl | (simp only [List.length_drop, List.length_take]; rfl)) ?_; (with_reducible refine (laws_big.calls _ _ l0 false _ ?side1 ?side2 A2.out).mono ?_); (case side1 => repeat (first | exact HR0.out | (with_reducible refine Kd.C_alloc ?_ _) | (with_reducible refine Kd.C_drewN ?_ _) | (with_reducible refine Kd.C_drew ?_))); (case side2 => exact HC0.out); rintro e w' ⟨rfl, ⟨nd, rfl⟩⟩; refine ⟨_, rfl, ?_⟩) | ((with_reducible refine gate_callee (f := 48) rfl ?_); refine goesL_ (some 15) rfl rfl Try.func48 (by kernel_rfl) rfl #[.slice A0 l0.length c0] rfl (by (try simp only [List.map_toArray, List.map_cons, List.map_nil]); first | done | rfl | (simp only [List.length_drop, List.length_take]; rfl)) ?_; (with_reducible refine (spec_DrawIndexOf.calls k _ _ l0 t435 _ ?side1 ?side2 A4.out).mono ?_); (case side1 => repeat (first | exact HR0.out | (with_reducible refine Kd.C_alloc ?_ _) | (with_reducible refine Kd.C_drewN ?_ _) | (with_reducible refine Kd.C_drew ?_))); (case side2 => exact HC0.out); rintro e w8 ⟨v436, rfl, ho0, hb⟩; refine ⟨_, rfl, ?_⟩; have n0_ := AM_ (Kd.V_lower (Kd.V_mono (ok' := fun k_ => True) ho0 (fun k_ hk_ => trivial)) (below_size (by exact BL HB.out rfl rfl rfl rfl))); have n1_ := AM_ (below_step (by exact BL HB.out rfl rfl rfl rfl) hb); clear HB; have HO437 := n0_; have HB := n1_; clear n0_ n1_; (try clear hb); (try clear hb2); (try clear hk); (try clear hi); (try clear ho0)) | ((with_reducible refine gate_dst (N := 3) rfl ?_); (try (refine gate_guard (by rfl) ?_; dsimp only)); refine box_event ?hg (N := 3) ?hd (cs := #[.slice none 0 0]) (t := 72) ?hr ?_; (case hd => rfl); (case hg => rfl); (case hr => first | (go_simp; done) | (go_simp; rfl)); intro gb438 hg w9 hbox hb; have n0_ := AM_ (Kd.V_below (Kd.V_elderB (by (with_reducible repeat (first | apply Kd.V_alloc | apply Kd.V_drewN | apply Kd.V_drew)); exact HO437.out) gb438 (Nat.le_of_eq hg.symm)) hb); have n1_ := AM_ (below_step (by exact BL HB.out rfl rfl rfl rfl) hb); have n2_ := AM_ (hbox); have n3_ := AM_ ((by rw [hg]; exact (below_size (by exact BL HB.out rfl rfl rfl rfl)) : w.heap.size ≤ gb438)); have n4_ := AM_ ((by rw [hg]; exact (below_size (by exact BL HB.out rfl rfl rfl rfl)) : w.heap.size ≤ gb438)); clear HO437; clear HB; have HO437 := n0_; have HB := n1_; have BK438 := n2_; have GW438 := n3_; have GE438 := n4_; clear n0_ n1_ n2_ n3_ n4_; clear hb hbox hg; obtain ⟨Ao10, co10, eo10⟩ := Kd.V_slice HO437.out; subst eo10; have hcz11_0 : w9.cell? ⟨gb438, 0, none⟩ = some (.slice none 0 0) := (blk_cell BK438.out 0).trans rfl; have hfz11_0 := blk_frozen BK438.out 0) | ((with_reducible refine gate_callee (f := 49) rfl ?_); refine goesL_ (some 17) rfl rfl Try.func49 (by kernel_rfl) rfl #[.agg #[.slice Ao10 t435.length co10]] rfl (by (try simp only [List.map_toArray, List.map_cons, List.map_nil]); first | done | rfl | (simp only [List.length_drop, List.length_take]; rfl)) ?_; (with_reducible refine (impl_IndexOf.calls k _ _ t435 t439 _ ?side1 ?side2 A5.out).mono ?_); (case side1 => refine (Kd.V_reads' (e := 158) (base := w.heap.size) (ok := fun k_ => (True ∧ k_ ≠ gb438)) (n := t435.length) (c := co10) ?_).2.2; exact (by (with_reducible repeat (first | apply Kd.V_alloc | apply Kd.V_drewN | apply Kd.V_drew)); exact (Kd.V_mono (Kd.V_far (p := ⟨gb438, 0, none⟩) (Kd.V_mono HO437.out (fun k_ hk => (⟨hk, hk.2⟩ : _ ∧ k_ ≠ gb438))) (fun _ hk => hk.2) (.slice Ao10 t435.length co10)) (fun _ h_ => h_.1)))); (case side2 => exact (Kd.V_reads' HO437.out).2.1); rintro e w12 ⟨v440, rfl, ho0, hb⟩; refine ⟨_, rfl, ?_⟩; have n0_ := AM_ (Kd.V_elder' (by (with_reducible repeat (first | apply Kd.V_alloc | apply Kd.V_drewN | apply Kd.V_drew)); exact (Kd.V_mono (Kd.V_far (p := ⟨gb438, 0, none⟩) (Kd.V_mono HO437.out (fun k_ hk => (⟨hk, hk.2⟩ : _ ∧ k_ ≠ gb438))) (fun _ hk => hk.2) (.slice Ao10 t435.length co10)) (fun _ h_ => h_.1))) (Kd.R_base ho0) hb); have n1_ := AM_ (Kd.R_lower ho0 (below_size (by repeat (first | (with_reducible first | exact HB.out | apply below_alloc | apply pw_below_drewN | apply below_drew1 | refine below_set ?_ GE438.out) | exact HB.out)))); have n2_ := AM_ (blk_below (g := gb438) (o := .cells #[.slice Ao10 t435.length co10] 72 (0, 0)) (by (with_reducible repeat (first | refine blk_drewN ?_ _ | refine blk_drew ?_ | refine blk_alloc ?_ _)); refine blk_put (cs := #[.slice none 0 0]) ?_ 0 _ rfl; (with_reducible repeat (first | refine blk_drewN ?_ _ | refine blk_drew ?_ | refine blk_alloc ?_ _)); exact BK438.out) hb); have n3_ := AM_ (below_step (by repeat (first | (with_reducible first | exact HB.out | apply below_alloc | apply pw_below_drewN | apply below_drew1 | refine below_set ?_ GE438.out) | exact HB.out)) hb); clear HO437; clear BK438; clear HB; have HO437 := n0_; have HO441 := n1_; have BK438 := n2_; have HB := n3_; clear n0_ n1_ n2_ n3_; (try clear hb); (try clear hb2); (try clear hk); (try clear hi); (try clear ho0); have hcz13_0 : w12.cell? ⟨gb438, 0, none⟩ = some (.slice Ao10 t435.length co10) := (blk_cell BK438.out 0).trans rfl; have hfz13_0 := blk_frozen BK438.out 0) | ((with_reducible refine gate_callee (f := 50) rfl ?_); refine goesL_ (some 19) rfl rfl Try.func50 (by kernel_rfl) rfl #[.agg #[.slice Ao10 t435.length co10]] rfl (by (try simp only [List.map_toArray, List.map_cons, List.map_nil]); first | done | rfl | (simp only [List.length_drop, List.length_take]; rfl)) ?_; (with_reducible refine (spec_IndexOf.calls k _ _ t435 t442 _ ?side1 ?side2 A6.out).mono ?_); (case side1 => exact Kd.C_below (Kd.V_reads' HO437.out).2.2 (BL (Below.refl _ _) rfl rfl rfl rfl)); (case side2 => exact (Kd.V_reads' HO437.out).2.1); rintro e w14 ⟨v443, rfl, ho0, hb⟩; refine ⟨_, rfl, ?_⟩; have n0_ := AM_ (Kd.V_elder' (by (with_reducible repeat (first | apply Kd.V_alloc | apply Kd.V_drewN | apply Kd.V_drew)); exact HO437.out) (Kd.R_base ho0) hb); have n1_ := AM_ (Kd.R_elder' (by exact RL HO441.out rfl) (Kd.R_base ho0) hb); have n2_ := AM_ (Kd.R_lower (Kd.R_new' ho0 (Kd.R_lt (by exact RL HO441.out rfl))) (below_size (by repeat (first | (with_reducible first | exact HB.out | apply below_alloc | apply pw_below_drewN | apply below_drew1 | refine below_set ?_ GE438.out) | exact HB.out)))); have n3_ := AM_ (blk_below (g := gb438) (o := .cells #[.slice Ao10 t435.length co10] 72 (0, 0)) (by (with_reducible repeat (first | refine blk_drewN ?_ _ | refine blk_drew ?_ | refine blk_alloc ?_ _)); exact BK438.out) hb); have n4_ := AM_ (below_step (by repeat (first | (with_reducible first | exact HB.out | apply below_alloc | apply pw_below_drewN | apply below_drew1 | refine below_set ?_ GE438.out) | exact HB.out)) hb); clear HO437; clear HO441; clear BK438; clear HB; have HO437 := n0_; have HO441 := n1_; have HO444 := n2_; have BK438 := n3_; have HB := n4_; clear n0_ n1_ n2_ n3_ n4_; (try clear hb); (try clear hb2); (try clear hk); (try clear hi); (try clear ho0); obtain ⟨Ao15, co15, eo15⟩ := Kd.R_slice HO441.out; subst eo15; obtain ⟨Ao16, co16, eo16⟩ := Kd.R_slice HO444.out; subst eo16))
 go_loopg [6] k (fun kq v6 w' => ∃ (x6_1 : Int), v6 = .int .i64 x6_1 ∧ Aside0 (laws_FnPhantoms.l0 kq l0 t439 t442 x6_1 t435 = some r) ∧ Aside0 (kq ≤ k) ∧ Aside0 (Kd.R k77 77 w' w.heap.size (fun k_ => some k_ ≠ ((.slice Ao16 t442.length co16) : Value).ownBlock) (.slice Ao15 t439.length co15) t439) ∧ Aside0 (Kd.R k77 77 w' w.heap.size (fun k_ => some k_ ≠ ((.slice Ao15 t439.length co15) : Value).ownBlock) (.slice Ao16 t442.length co16) t442) ∧ Aside0 (Kd.V (Kd.slice 160 k160) 158 w' w.heap.size (fun k_ => some k_ ≠ ((.slice Ao15 t439.length co15) : Value).ownBlock ∧ some k_ ≠ ((.slice Ao16 t442.length co16) : Value).ownBlock ∧ k_ ≠ gb438) (.slice Ao10 t435.length co10) t435) ∧ Aside0 (w'.heap[gb438]? = some (.cells #[(.slice Ao10 t435.length co10)] 72 (0, 0))) ∧ Aside0 (Below w.heap.size w w'))
 case atStart => exact ⟨(0), (by first | rfl | (simp; done) | (simp [*]; done)), H', ⟨Nat.le_refl _⟩, ⟨by (with_reducible repeat (first | apply Kd.R_alloc | apply Kd.R_drewN | apply Kd.R_drew)); exact Kd.R_mono HO441.out (fun _ hk => hk.2)⟩, ⟨by (with_reducible repeat (first | apply Kd.R_alloc | apply Kd.R_drewN | apply Kd.R_drew)); exact Kd.R_mono HO444.out (fun _ hk => hk.2)⟩, ⟨by (with_reducible repeat (first | apply Kd.V_alloc | apply Kd.V_drewN | apply Kd.V_drew)); exact Kd.V_mono HO437.out (fun _ hk => ⟨hk.1.2, ⟨hk.2, hk.1.1.2⟩⟩)⟩, ⟨by (with_reducible repeat (first | refine blk_drewN ?_ _ | refine blk_drew ?_ | refine blk_alloc ?_ _)); exact BK438.out⟩, ⟨by repeat (first | (with_reducible first | exact HB.out | apply below_alloc | apply pw_below_drewN | apply below_drew1 | refine below_set ?_ GE438.out) | exact HB.out)⟩⟩
 case round =>
  clear H'
  try clear p2
  try clear c3
  try clear c4
  try clear c5
  try clear c7
  try clear c7b0
  try clear c7b1
  try clear c7b2
  try clear c9
  try clear hcz11_0
  try clear hcz13_0
  try clear hfz11_0
  try clear hfz13_0
  obtain ⟨x6_1, rfl, HA, HK1, HO_4, HO_5, HO_439000, BK438, HB⟩ := hrel
  cases gk with
  | zero => exact absurd HA.out (by simp [laws_FnPhantoms.l0])
  | succ k1 =>
   have H := HA.out
   clear HA
   simp only [laws_FnPhantoms.l0] at H
   by_cases c17 : x6_1 < (t439.length : Int)
   ·rw [if_pos c17] at H
    have c17b0 : decide (x6_1 < (t439.length : Int)) = true := decide_eq_true c17
    clear c17
    by_cases c18 : 0 ≤ x6_1
    rotate_left
    ·rw [if_neg c18] at H
     exact absurd H (by simp)
    rw [if_pos c18] at H
    have c18b0 : decide (0 ≤ x6_1) = true := decide_eq_true c18
    clear c18
    by_cases c19 : x6_1 < (t442.length : Int)
    rotate_left
    ·rw [if_neg c19] at H
     exact absurd H (by simp)
    rw [if_pos c19] at H
    have c19b0 : decide (x6_1 < (t442.length : Int)) = true := decide_eq_true c19
    clear c19
    by_cases c20 : (!(((rd_T77 t439 x6_1).f0) == ((rd_T77 t442 x6_1).f0)) || (!(((rd_T77 t439 x6_1).f1) == ((rd_T77 t442 x6_1).f1)) || (!(((rd_T77 t439 x6_1).f2) == ((rd_T77 t442 x6_1).f2))))) = true
    ·rw [if_pos c20] at H
     have c20b0 : (!(((rd_T77 t439 x6_1).f0) == ((rd_T77 t442 x6_1).f0)) || (!(((rd_T77 t439 x6_1).f1) == ((rd_T77 t442 x6_1).f1)) || (!(((rd_T77 t439 x6_1).f2) == ((rd_T77 t442 x6_1).f2))))) = true := c20
     clear c20
     obtain rfl := Option.some.inj H
     try go_wp2
     have n0_ := AM_ (Kd.R_drew HO_4.out)
     have n1_ := AM_ (Kd.R_drew HO_5.out)
     have n2_ := AM_ (Kd.V_drew HO_439000.out)
     have n3_ := AM_ (blk_drew BK438.out)
     have n4_ := AM_ (below_drew1 HB.out)
     clear HO_4
     clear HO_5
     clear HO_439000
     clear BK438
     clear HB
     have HO_4 := n0_
     have HO_5 := n1_
     have HO_439000 := n2_
     have BK438 := n3_
     have HB := n4_
     clear n0_ n1_ n2_ n3_ n4_
     have p445 : 0 ≤ (x6_1 : Int) := of_decide_eq_true (by first | (with_reducible assumption) | assumption)
     have q445 : x6_1 < (t439.length : Int) := of_decide_eq_true (by first | (with_reducible assumption) | assumption)
     obtain ⟨ad445, e445, hx445_0, hx445_1, hx445_2⟩ := at_T77 (Kd.R_reads' HO_4.out).2.2 x6_1 p445 q445
     cases e445
     replace p445 := eq_true p445
     replace q445 := eq_true q445
     have p446 : 0 ≤ (x6_1 : Int) := of_decide_eq_true (by first | (with_reducible assumption) | assumption)
     have q446 : x6_1 < (t442.length : Int) := of_decide_eq_true (by first | (with_reducible assumption) | assumption)
     obtain ⟨ad446, e446, hx446_0, hx446_1, hx446_2⟩ := at_T77 (Kd.R_reads' HO_5.out).2.2 x6_1 p446 q446
     cases e446
     replace p446 := eq_true p446
     replace q446 := eq_true q446
     refine start_ (n := 9) (S := fun w' => w'.cell? (ad445.add ((x6_1).toNat * 3)) = some (.int .i64 ((rd_T77 t439 x6_1).f0)) ∧ w'.cell? ⟨(ad445.add ((x6_1).toNat * 3)).block, (ad445.add ((x6_1).toNat * 3)).off + 1, none⟩ = some (.int .i64 ((rd_T77 t439 x6_1).f1)) ∧ w'.cell? ⟨(ad445.add ((x6_1).toNat * 3)).block, (ad445.add ((x6_1).toNat * 3)).off + 2, none⟩ = some (.int .i64 ((rd_T77 t439 x6_1).f2)) ∧ w'.cell? (ad446.add ((x6_1).toNat * 3)) = some (.int .i64 ((rd_T77 t442 x6_1).f0)) ∧ w'.cell? ⟨(ad446.add ((x6_1).toNat * 3)).block, (ad446.add ((x6_1).toNat * 3)).off + 1, none⟩ = some (.int .i64 ((rd_T77 t442 x6_1).f1)) ∧ w'.cell? ⟨(ad446.add ((x6_1).toNat * 3)).block, (ad446.add ((x6_1).toNat * 3)).off + 2, none⟩ = some (.int .i64 ((rd_T77 t442 x6_1).f2))) (ds := []) (bs 0 9) (by kernel_rfl) rfl rfl ⟨hx445_0, hx445_1, hx445_2, hx446_0, hx446_1, hx446_2⟩ (fun hHeld => ?_); refine with_tabW laws_FnPhantoms.tab11 laws_FnPhantoms.bits11 (fun HT_ HW_ => ?_)
     generalize wr.drew = w21 at HO_4 HO_5 HO_439000 BK438 HB hx445_0 hx445_1 hx445_2 hx446_0 hx446_1 hx446_2 hHeld ⊢
     refine pure_ (i := 0) (N := some 31) (v := ?_) (a' := ?_) (bs 1 9) rfl rfl (any_of HT_.out (by kernel_rfl)) (fun _ _ _ h => h) (Or.inl ⟨by rfl, ?_⟩) ?_ ?_
     rotate_left
     ·intro w'
      go_simp
      with_reducible rfl
     rotate_left
     ·simp only [pA, pS, pZ, pK, i64_w, i32_w]
      rfl
     refine pure_ (i := 1) (N := some 32) (v := ?_) (a' := ?_) (bs 3 9) rfl rfl (any_of HT_.out (by kernel_rfl)) (fun _ _ _ h => h) (Or.inl ⟨by rfl, ?_⟩) ?_ ?_
     rotate_left
     ·intro w'
      go_simp
      with_reducible rfl
     rotate_left
     ·simp only [pA, pS, pZ, pK, i64_w, i32_w]
      rfl
     refine pure_ (i := 2) (N := some 33) (v := ?_) (a' := ?_) (bs 7 9) rfl rfl (any_of HT_.out (by kernel_rfl)) (fun _ _ _ h => h) (Or.inl ⟨by rfl, ?_⟩) ?_ ?_
     rotate_left
     ·intro w'
      go_simp
      with_reducible rfl
     rotate_left
     ·simp only [pA, pS, pZ, pK, i64_w, i32_w]
      rfl
     refine pure_ (i := 4) (N := some 35) (v := ?_) (a' := ?_) (bs 23 9) rfl rfl (any_of HT_.out (by kernel_rfl)) (fun _ _ _ h => h) (Or.inl ⟨by rfl, ?_⟩) ?_ ?_
     rotate_left
     ·intro w'
      go_simp
      with_reducible rfl
     rotate_left
     ·simp only [pA, pS, pZ, pK, i64_w, i32_w]
      rfl
     refine pure_ (i := 5) (N := some 36) (v := ?_) (a' := ?_) (bs 55 9) rfl rfl (any_of HT_.out (by kernel_rfl)) (fun _ _ _ h => h) (Or.inl ⟨by rfl, ?_⟩) ?_ ?_
     rotate_left
     ·intro w'
      go_simp
      with_reducible rfl
     rotate_left
     ·simp only [pA, pS, pZ, pK, i64_w, i32_w]
      rfl
     refine pure_ (i := 6) (N := some 37) (v := ?_) (a' := ?_) (bs 119 9) rfl rfl (any_of HT_.out (by kernel_rfl)) (fun _ _ _ h => h) (Or.inl ⟨by rfl, ?_⟩) ?_ ?_
     rotate_left
     ·intro w'
      go_simp
      with_reducible rfl
     rotate_left
     ·simp only [pA, pS, pZ, pK, i64_w, i32_w]
      rfl
     refine take_ (i := 3) (N := some 34) (v := ?_) (a' := ?_) (bs 127 9) rfl rfl (take_ofW HT_.out HW_.out (by kernel_rfl)) (fun _ _ _ h => h) (Or.inl ⟨by rfl, ?_⟩) hHeld ?_ ?_
     rotate_left
     ·rintro w' ⟨s0, s1, s2, s3, s4, s5⟩
      go_simp
      with_reducible rfl
     rotate_left
     ·simp only [pA, pS, pZ, pK, i64_w, i32_w]
      rfl
     refine take_ (i := 7) (N := some 38) (v := ?_) (a' := ?_) (bs 255 9) rfl rfl (take_ofW HT_.out HW_.out (by kernel_rfl)) (fun _ _ _ h => h) (Or.inl ⟨by rfl, ?_⟩) hHeld ?_ ?_
     rotate_left
     ·rintro w' ⟨s0, s1, s2, s3, s4, s5⟩
      go_simp
      with_reducible rfl
     rotate_left
     ·simp only [pA, pS, pZ, pK, i64_w, i32_w]
      rfl
     refine pure_ (i := 8) (N := some 39) (v := ?_) (a' := ?_) (bs 511 9) rfl rfl (any_of HT_.out (by kernel_rfl)) (fun _ _ _ h => h) (Or.inl ⟨by rfl, ?_⟩) ?_ ?_
     rotate_left
     ·intro w'
      go_simp
      with_reducible rfl
     rotate_left
     ·simp only [pA, pS, pZ, pK, i64_w, i32_w]
      rfl
     refine done_ (done_of HT_.out (by kernel_rfl)) ?_
     try go_wp2
     go_ret
     exact ⟨by first | rfl | (simp [errW_none, errW_some] <;> rfl) | (simp [*, errW_none, errW_some] <;> rfl), by repeat (first | (with_reducible first | exact HB.out | apply below_alloc | apply pw_below_drewN | apply below_drew1 | refine below_set ?_ GE438.out) | exact HB.out)⟩
    rw [if_neg c20] at H
    have c20b0 : (!(((rd_T77 t439 x6_1).f0) == ((rd_T77 t442 x6_1).f0)) || (!(((rd_T77 t439 x6_1).f1) == ((rd_T77 t442 x6_1).f1)) || (!(((rd_T77 t439 x6_1).f2) == ((rd_T77 t442 x6_1).f2))))) = false := by simpa using c20
    clear c20
    have H' := AM_ H
    clear H
    try go_wp2
    have n0_ := AM_ (Kd.R_drew HO_4.out)
    have n1_ := AM_ (Kd.R_drew HO_5.out)
    have n2_ := AM_ (Kd.V_drew HO_439000.out)
    have n3_ := AM_ (blk_drew BK438.out)
    have n4_ := AM_ (below_drew1 HB.out)
    clear HO_4
    clear HO_5
    clear HO_439000
    clear BK438
    clear HB
    have HO_4 := n0_
    have HO_5 := n1_
    have HO_439000 := n2_
    have BK438 := n3_
    have HB := n4_
    clear n0_ n1_ n2_ n3_ n4_
    have p445 : 0 ≤ (x6_1 : Int) := of_decide_eq_true (by first | (with_reducible assumption) | assumption)
    have q445 : x6_1 < (t439.length : Int) := of_decide_eq_true (by first | (with_reducible assumption) | assumption)
    obtain ⟨ad445, e445, hx445_0, hx445_1, hx445_2⟩ := at_T77 (Kd.R_reads' HO_4.out).2.2 x6_1 p445 q445
    cases e445
    replace p445 := eq_true p445
    replace q445 := eq_true q445
    have p446 : 0 ≤ (x6_1 : Int) := of_decide_eq_true (by first | (with_reducible assumption) | assumption)
    have q446 : x6_1 < (t442.length : Int) := of_decide_eq_true (by first | (with_reducible assumption) | assumption)
    obtain ⟨ad446, e446, hx446_0, hx446_1, hx446_2⟩ := at_T77 (Kd.R_reads' HO_5.out).2.2 x6_1 p446 q446
    cases e446
    replace p446 := eq_true p446
    replace q446 := eq_true q446
    refine start_ (n := 9) (S := fun w' => w'.cell? (ad445.add ((x6_1).toNat * 3)) = some (.int .i64 ((rd_T77 t439 x6_1).f0)) ∧ w'.cell? ⟨(ad445.add ((x6_1).toNat * 3)).block, (ad445.add ((x6_1).toNat * 3)).off + 1, none⟩ = some (.int .i64 ((rd_T77 t439 x6_1).f1)) ∧ w'.cell? ⟨(ad445.add ((x6_1).toNat * 3)).block, (ad445.add ((x6_1).toNat * 3)).off + 2, none⟩ = some (.int .i64 ((rd_T77 t439 x6_1).f2)) ∧ w'.cell? (ad446.add ((x6_1).toNat * 3)) = some (.int .i64 ((rd_T77 t442 x6_1).f0)) ∧ w'.cell? ⟨(ad446.add ((x6_1).toNat * 3)).block, (ad446.add ((x6_1).toNat * 3)).off + 1, none⟩ = some (.int .i64 ((rd_T77 t442 x6_1).f1)) ∧ w'.cell? ⟨(ad446.add ((x6_1).toNat * 3)).block, (ad446.add ((x6_1).toNat * 3)).off + 2, none⟩ = some (.int .i64 ((rd_T77 t442 x6_1).f2))) (ds := []) (bs 0 9) (by kernel_rfl) rfl rfl ⟨hx445_0, hx445_1, hx445_2, hx446_0, hx446_1, hx446_2⟩ (fun hHeld => ?_); refine with_tabW laws_FnPhantoms.tab11 laws_FnPhantoms.bits11 (fun HT_ HW_ => ?_)
    generalize wr.drew = w22 at HO_4 HO_5 HO_439000 BK438 HB hx445_0 hx445_1 hx445_2 hx446_0 hx446_1 hx446_2 hHeld ⊢
    refine pure_ (i := 0) (N := some 31) (v := ?_) (a' := ?_) (bs 1 9) rfl rfl (any_of HT_.out (by kernel_rfl)) (fun _ _ _ h => h) (Or.inl ⟨by rfl, ?_⟩) ?_ ?_
    rotate_left
    ·intro w'
     go_simp
     with_reducible rfl
    rotate_left
    ·simp only [pA, pS, pZ, pK, i64_w, i32_w]
     rfl
    refine pure_ (i := 1) (N := some 32) (v := ?_) (a' := ?_) (bs 3 9) rfl rfl (any_of HT_.out (by kernel_rfl)) (fun _ _ _ h => h) (Or.inl ⟨by rfl, ?_⟩) ?_ ?_
    rotate_left
    ·intro w'
     go_simp
     with_reducible rfl
    rotate_left
    ·simp only [pA, pS, pZ, pK, i64_w, i32_w]
     rfl
    refine pure_ (i := 2) (N := some 33) (v := ?_) (a' := ?_) (bs 7 9) rfl rfl (any_of HT_.out (by kernel_rfl)) (fun _ _ _ h => h) (Or.inl ⟨by rfl, ?_⟩) ?_ ?_
    rotate_left
    ·intro w'
     go_simp
     with_reducible rfl
    rotate_left
    ·simp only [pA, pS, pZ, pK, i64_w, i32_w]
     rfl
    refine pure_ (i := 4) (N := some 35) (v := ?_) (a' := ?_) (bs 23 9) rfl rfl (any_of HT_.out (by kernel_rfl)) (fun _ _ _ h => h) (Or.inl ⟨by rfl, ?_⟩) ?_ ?_
    rotate_left
    ·intro w'
     go_simp
     with_reducible rfl
    rotate_left
    ·simp only [pA, pS, pZ, pK, i64_w, i32_w]
     rfl
    refine pure_ (i := 5) (N := some 36) (v := ?_) (a' := ?_) (bs 55 9) rfl rfl (any_of HT_.out (by kernel_rfl)) (fun _ _ _ h => h) (Or.inl ⟨by rfl, ?_⟩) ?_ ?_
    rotate_left
    ·intro w'
     go_simp
     with_reducible rfl
    rotate_left
    ·simp only [pA, pS, pZ, pK, i64_w, i32_w]
     rfl
    refine pure_ (i := 6) (N := some 37) (v := ?_) (a' := ?_) (bs 119 9) rfl rfl (any_of HT_.out (by kernel_rfl)) (fun _ _ _ h => h) (Or.inl ⟨by rfl, ?_⟩) ?_ ?_
    rotate_left
    ·intro w'
     go_simp
     with_reducible rfl
    rotate_left
    ·simp only [pA, pS, pZ, pK, i64_w, i32_w]
     rfl
    refine take_ (i := 3) (N := some 34) (v := ?_) (a' := ?_) (bs 127 9) rfl rfl (take_ofW HT_.out HW_.out (by kernel_rfl)) (fun _ _ _ h => h) (Or.inl ⟨by rfl, ?_⟩) hHeld ?_ ?_
    rotate_left
    ·rintro w' ⟨s0, s1, s2, s3, s4, s5⟩
     go_simp
     with_reducible rfl
    rotate_left
    ·simp only [pA, pS, pZ, pK, i64_w, i32_w]
     rfl
    refine take_ (i := 7) (N := some 38) (v := ?_) (a' := ?_) (bs 255 9) rfl rfl (take_ofW HT_.out HW_.out (by kernel_rfl)) (fun _ _ _ h => h) (Or.inl ⟨by rfl, ?_⟩) hHeld ?_ ?_
    rotate_left
    ·rintro w' ⟨s0, s1, s2, s3, s4, s5⟩
     go_simp
     with_reducible rfl
    rotate_left
    ·simp only [pA, pS, pZ, pK, i64_w, i32_w]
     rfl
    refine pure_ (i := 8) (N := some 39) (v := ?_) (a' := ?_) (bs 511 9) rfl rfl (any_of HT_.out (by kernel_rfl)) (fun _ _ _ h => h) (Or.inl ⟨by rfl, ?_⟩) ?_ ?_
    rotate_left
    ·intro w'
     go_simp
     with_reducible rfl
    rotate_left
    ·simp only [pA, pS, pZ, pK, i64_w, i32_w]
     rfl
    refine done_ (done_of HT_.out (by kernel_rfl)) ?_
    try go_wp2
    go_roundg k1
    case measure => have := HK1.out; omega
    case rel => exact ⟨(wrap64 (x6_1 + 1)), (by first | rfl | (simp; done) | (simp [*]; done)), H', ⟨by have := HK1.out; omega⟩, ⟨by exact RL HO_4.out rfl⟩, ⟨by exact RL HO_5.out rfl⟩, ⟨by (with_reducible repeat (first | apply Kd.V_alloc | apply Kd.V_drewN | apply Kd.V_drew)); exact HO_439000.out⟩, ⟨by (with_reducible repeat (first | refine blk_drewN ?_ _ | refine blk_drew ?_ | refine blk_alloc ?_ _)); exact BK438.out⟩, ⟨by repeat (first | (with_reducible first | exact HB.out | apply below_alloc | apply pw_below_drewN | apply below_drew1 | refine below_set ?_ GE438.out) | exact HB.out)⟩⟩
   rw [if_neg c17] at H
   have c17b0 : decide (x6_1 < (t439.length : Int)) = false := decide_eq_false c17
   clear c17
   replace H := Option.bind_eq_some_iff.mp H
   obtain ⟨t447, A230, H⟩ := H
   replace H : (if t447 = true then ((laws_at.f l0 0).bind fun t448 => ((spec_StateAt.f k1 t435 (Int.tmod t448 12)).bind fun t449 => ((spec_LastStamp.f k1 t435).bind fun t452 => ((spec_StateAt.f k1 t435 t452).bind fun t453 => (laws_FnPhantoms.l1 k1 t439 (Int.tmod t448 12) t449 t453 0))))) else (some ((t439.length : Int) == 0))) = some r := H
   have A23 := AM_ A230
   clear A230
   by_cases c24 : t447 = true
   rotate_left
   ·replace c24 := Bool.eq_false_iff.mpr c24
    subst c24
    have H1 : (some ((t439.length : Int) == 0)) = some r := by rw [if_neg (show ¬ (false = true) by decide)] at H; exact H
    clear H
    have H := H1
    clear H1
    obtain rfl := Option.some.inj H
    have hcz70_0 : wr.cell? ⟨gb438, 0, none⟩ = some (.slice Ao10 t435.length co10) := (blk_cell BK438.out 0).trans rfl
    have hfz70_0 := blk_frozen BK438.out 0
    go_wp2_with (first | ((with_reducible refine gate_callee (f := 51) rfl ?_); refine goesL_ (some 41) rfl rfl Try.func51 (by kernel_rfl) rfl #[.agg #[.slice Ao10 t435.length co10]] rfl (by (try simp only [List.map_toArray, List.map_cons, List.map_nil]); first | done | rfl | (simp only [List.length_drop, List.length_take]; rfl)) ?_; (with_reducible refine (spec_IsValidStore.calls k1 _ _ t435 false _ ?side1 ?side2 A23.out).mono ?_); (case side1 => exact Kd.C_below (Kd.V_reads' HO_439000.out).2.2 (BL (Below.refl _ _) rfl rfl rfl rfl)); (case side2 => exact (Kd.V_reads' HO_439000.out).2.1); rintro e w71 ⟨rfl, hb⟩; refine ⟨_, rfl, ?_⟩; have n0_ := AM_ (Kd.R_below (by exact RL HO_4.out rfl) hb); have n1_ := AM_ (Kd.R_below (by exact RL HO_5.out rfl) hb); have n2_ := AM_ (Kd.V_below (by (with_reducible repeat (first | apply Kd.V_alloc | apply Kd.V_drewN | apply Kd.V_drew)); exact HO_439000.out) hb); have n3_ := AM_ (blk_below (g := gb438) (o := .cells #[.slice Ao10 t435.length co10] 72 (0, 0)) (by (with_reducible repeat (first | refine blk_drewN ?_ _ | refine blk_drew ?_ | refine blk_alloc ?_ _)); exact BK438.out) hb); have n4_ := AM_ (below_step (by repeat (first | (with_reducible first | exact HB.out | apply below_alloc | apply pw_below_drewN | apply below_drew1 | refine below_set ?_ GE438.out) | exact HB.out)) hb); clear HO_4; clear HO_5; clear HO_439000; clear BK438; clear HB; have HO_4 := n0_; have HO_5 := n1_; have HO_439000 := n2_; have BK438 := n3_; have HB := n4_; clear n0_ n1_ n2_ n3_ n4_; (try clear hb); (try clear hb2); (try clear hk); (try clear hi)))
    go_ret
    exact ⟨by first | rfl | (simp [errW_none, errW_some] <;> rfl) | (simp [*, errW_none, errW_some] <;> rfl), by repeat (first | (with_reducible first | exact HB.out | apply below_alloc | apply pw_below_drewN | apply below_drew1 | refine below_set ?_ GE438.out) | exact HB.out)⟩
   subst c24
   have H1 : ((laws_at.f l0 0).bind fun t448 => ((spec_StateAt.f k1 t435 (Int.tmod t448 12)).bind fun t449 => ((spec_LastStamp.f k1 t435).bind fun t452 => ((spec_StateAt.f k1 t435 t452).bind fun t453 => (laws_FnPhantoms.l1 k1 t439 (Int.tmod t448 12) t449 t453 0))))) = some r := by rw [if_pos rfl] at H; exact H
   clear H
   have H := H1
   clear H1
   replace H := Option.bind_eq_some_iff.mp H
   obtain ⟨t448, A250, H⟩ := H
   replace H : ((spec_StateAt.f k1 t435 (Int.tmod t448 12)).bind fun t449 => ((spec_LastStamp.f k1 t435).bind fun t452 => ((spec_StateAt.f k1 t435 t452).bind fun t453 => (laws_FnPhantoms.l1 k1 t439 (Int.tmod t448 12) t449 t453 0)))) = some r := H
   have A25 := AM_ A250
   clear A250
   replace H := Option.bind_eq_some_iff.mp H
   obtain ⟨t449, A260, H⟩ := H
   replace H : ((spec_LastStamp.f k1 t435).bind fun t452 => ((spec_StateAt.f k1 t435 t452).bind fun t453 => (laws_FnPhantoms.l1 k1 t439 (Int.tmod t448 12) t449 t453 0))) = some r := H
   have A26 := AM_ A260
   clear A260
   replace H := Option.bind_eq_some_iff.mp H
   obtain ⟨t452, A270, H⟩ := H
   replace H : ((spec_StateAt.f k1 t435 t452).bind fun t453 => (laws_FnPhantoms.l1 k1 t439 (Int.tmod t448 12) t449 t453 0)) = some r := H
   have A27 := AM_ A270
   clear A270
   replace H := Option.bind_eq_some_iff.mp H
   obtain ⟨t453, A280, H⟩ := H
   replace H : (laws_FnPhantoms.l1 k1 t439 (Int.tmod t448 12) t449 t453 0) = some r := H
   have A28 := AM_ A280
   clear A280
   have H' := AM_ H
   clear H
   have hcz29_0 : wr.cell? ⟨gb438, 0, none⟩ = some (.slice Ao10 t435.length co10) := (blk_cell BK438.out 0).trans rfl
   have hfz29_0 := blk_frozen BK438.out 0
   try go_wp2_with (first | ((with_reducible refine gate_callee (f := 51) rfl ?_); refine goesL_ (some 41) rfl rfl Try.func51 (by kernel_rfl) rfl #[.agg #[.slice Ao10 t435.length co10]] rfl (by (try simp only [List.map_toArray, List.map_cons, List.map_nil]); first | done | rfl | (simp only [List.length_drop, List.length_take]; rfl)) ?_; (with_reducible refine (spec_IsValidStore.calls k1 _ _ t435 true _ ?side1 ?side2 A23.out).mono ?_); (case side1 => exact Kd.C_below (Kd.V_reads' HO_439000.out).2.2 (BL (Below.refl _ _) rfl rfl rfl rfl)); (case side2 => exact (Kd.V_reads' HO_439000.out).2.1); rintro e w30 ⟨rfl, hb⟩; refine ⟨_, rfl, ?_⟩; have n0_ := AM_ (Kd.R_below (by exact RL HO_4.out rfl) hb); have n1_ := AM_ (Kd.R_below (by exact RL HO_5.out rfl) hb); have n2_ := AM_ (Kd.V_below (by (with_reducible repeat (first | apply Kd.V_alloc | apply Kd.V_drewN | apply Kd.V_drew)); exact HO_439000.out) hb); have n3_ := AM_ (blk_below (g := gb438) (o := .cells #[.slice Ao10 t435.length co10] 72 (0, 0)) (by (with_reducible repeat (first | refine blk_drewN ?_ _ | refine blk_drew ?_ | refine blk_alloc ?_ _)); exact BK438.out) hb); have n4_ := AM_ (below_step (by repeat (first | (with_reducible first | exact HB.out | apply below_alloc | apply pw_below_drewN | apply below_drew1 | refine below_set ?_ GE438.out) | exact HB.out)) hb); clear HO_4; clear HO_5; clear HO_439000; clear BK438; clear HB; have HO_4 := n0_; have HO_5 := n1_; have HO_439000 := n2_; have BK438 := n3_; have HB := n4_; clear n0_ n1_ n2_ n3_ n4_; (try clear hb); (try clear hb2); (try clear hk); (try clear hi)) | ((with_reducible refine gate_callee (f := 52) rfl ?_); refine goesL_ (some 47) rfl rfl Try.func52 (by kernel_rfl) rfl #[.slice A0 l0.length c0, .int .i64 0] rfl (by (try simp only [List.map_toArray, List.map_cons, List.map_nil]); first | done | rfl | (simp only [List.length_drop, List.length_take]; rfl)) ?_; (with_reducible refine (laws_at.calls _ _ l0 0 t448 _ ?side1 ?side2 A25.out).mono ?_); (case side1 => exact Kd.C_below (Kd.C_below HR0.out HB.out) (BL (Below.refl _ _) rfl rfl rfl rfl)); (case side2 => exact HC0.out); rintro e w' ⟨rfl, ⟨nd, rfl⟩⟩; refine ⟨_, rfl, ?_⟩; have hcz31_0 : w30.cell? ⟨gb438, 0, none⟩ = some (.slice Ao10 t435.length co10) := (blk_cell BK438.out 0).trans rfl; have hfz31_0 := blk_frozen BK438.out 0) | ((with_reducible refine gate_callee (f := 53) rfl ?_); refine goesL_ (some 51) rfl rfl Try.func53 (by kernel_rfl) rfl #[.agg #[.slice Ao10 t435.length co10], .int .i64 (Int.tmod t448 12)] rfl (by (try simp only [List.map_toArray, List.map_cons, List.map_nil]); first | done | rfl | (simp only [List.length_drop, List.length_take]; rfl)) ?_; (with_reducible refine (spec_StateAt.calls k1 _ _ t435 (Int.tmod t448 12) t449 _ ?side1 ?side2 A26.out).mono ?_); (case side1 => exact Kd.C_below (Kd.V_reads' HO_439000.out).2.2 (BL (Below.refl _ _) rfl rfl rfl rfl)); (case side2 => exact (Kd.V_reads' HO_439000.out).2.1); rintro e w32 ⟨v450, rfl, ho0, hb⟩; refine ⟨_, rfl, ?_⟩; have n0_ := AM_ (Kd.R_below (by exact RL HO_4.out rfl) hb); have n1_ := AM_ (Kd.R_below (by exact RL HO_5.out rfl) hb); have n2_ := AM_ (Kd.V_elder' (by (with_reducible repeat (first | apply Kd.V_alloc | apply Kd.V_drewN | apply Kd.V_drew)); exact HO_439000.out) (Kd.R_base ho0) hb); have n3_ := AM_ (Kd.R_lower ho0 (below_size (by repeat (first | (with_reducible first | exact HB.out | apply below_alloc | apply pw_below_drewN | apply below_drew1 | refine below_set ?_ GE438.out) | exact HB.out)))); have n4_ := AM_ (blk_below (g := gb438) (o := .cells #[.slice Ao10 t435.length co10] 72 (0, 0)) (by (with_reducible repeat (first | refine blk_drewN ?_ _ | refine blk_drew ?_ | refine blk_alloc ?_ _)); exact BK438.out) hb); have n5_ := AM_ (below_step (by repeat (first | (with_reducible first | exact HB.out | apply below_alloc | apply pw_below_drewN | apply below_drew1 | refine below_set ?_ GE438.out) | exact HB.out)) hb); clear HO_4; clear HO_5; clear HO_439000; clear BK438; clear HB; have HO_4 := n0_; have HO_5 := n1_; have HO_439000 := n2_; have HO451 := n3_; have BK438 := n4_; have HB := n5_; clear n0_ n1_ n2_ n3_ n4_ n5_; (try clear hb); (try clear hb2); (try clear hk); (try clear hi); (try clear ho0)))
   have n0_ := AM_ (Kd.R_drew HO_4.out)
   have n1_ := AM_ (Kd.R_drew HO_5.out)
   have n2_ := AM_ (Kd.V_drew HO_439000.out)
   have n3_ := AM_ (Kd.R_drew HO451.out)
   have n4_ := AM_ (blk_drew BK438.out)
   have n5_ := AM_ (below_drew1 HB.out)
   clear HO_4
   clear HO_5
   clear HO_439000
   clear HO451
   clear BK438
   clear HB
   have HO_4 := n0_
   have HO_5 := n1_
   have HO_439000 := n2_
   have HO451 := n3_
   have BK438 := n4_
   have HB := n5_
   clear n0_ n1_ n2_ n3_ n4_ n5_
   refine start_ (n := 5) (S := fun w' => w'.cell? ⟨gb438, 0, none⟩ = some (.slice Ao10 t435.length co10)) (ds := []) (bs 0 5) (by kernel_rfl) rfl rfl ((blk_cell BK438.out 0).trans rfl) (fun hHeld => ?_)
   generalize w32.drew = w33 at HO_4 HO_5 HO_439000 HO451 BK438 HB hHeld ⊢
   refine take_ (i := 0) (N := some 52) (v := ?_) (a' := ?_) (bs 1 5) rfl rfl (by kernel_rfl) (fun _ _ _ h => h) (Or.inl ⟨by rfl, ?_⟩) hHeld ?_ ?_
   rotate_left
   ·intro w' s0
    go_simp
    with_reducible rfl
   rotate_left
   ·simp only [pA, pS, pZ, pK, i64_w, i32_w]
    rfl
   refine take_ (i := 1) (N := some 53) (v := ?_) (a' := ?_) (bs 3 5) rfl rfl (by kernel_rfl) (fun _ _ _ h => h) (Or.inl ⟨by rfl, ?_⟩) hHeld ?_ ?_
   rotate_left
   ·intro w' s0
    go_simp
    with_reducible rfl
   rotate_left
   ·simp only [pA, pS, pZ, pK, i64_w, i32_w]
    rfl
   refine one_ (i := 2) (N := some 54) (bs 7 5) rfl rfl (by kernel_rfl) (by decide) (fun K hK => ?_)
   refine goes_ Try.func54 (by kernel_rfl) rfl #[.agg #[.slice Ao10 t435.length co10]] (by rfl) rfl rfl (by (try simp only [List.map_toArray, List.map_cons, List.map_nil]); first | done | rfl | (simp only [List.length_drop, List.length_take]; rfl)) ?_
   with_reducible refine (spec_LastStamp.calls k1 _ _ t435 t452 _ ?side1 ?side2 A27.out).mono ?_
   (case side1 => exact Kd.C_below (Kd.V_reads' HO_439000.out).2.2 (BL (Below.refl _ _) rfl rfl rfl rfl))
   (case side2 => exact (Kd.V_reads' HO_439000.out).2.1)
   rintro e w34 ⟨rfl, hb⟩
   refine ⟨_, rfl, ?_⟩
   have n0_ := AM_ (Kd.R_below (by exact RL HO_4.out rfl) hb)
   have n1_ := AM_ (Kd.R_below (by exact RL HO_5.out rfl) hb)
   have n2_ := AM_ (Kd.V_below (by (with_reducible repeat (first | apply Kd.V_alloc | apply Kd.V_drewN | apply Kd.V_drew)); exact HO_439000.out) hb)
   have n3_ := AM_ (Kd.R_below (by exact RL HO451.out rfl) hb)
   have n4_ := AM_ (blk_below (g := gb438) (o := .cells #[.slice Ao10 t435.length co10] 72 (0, 0)) (by (with_reducible repeat (first | refine blk_drewN ?_ _ | refine blk_drew ?_ | refine blk_alloc ?_ _)); exact BK438.out) hb)
   have n5_ := AM_ (below_step (by repeat (first | (with_reducible first | exact HB.out | apply below_alloc | apply pw_below_drewN | apply below_drew1 | refine below_set ?_ GE438.out) | exact HB.out)) hb)
   clear HO_4
   clear HO_5
   clear HO_439000
   clear HO451
   clear BK438
   clear HB
   have HO_4 := n0_
   have HO_5 := n1_
   have HO_439000 := n2_
   have HO451 := n3_
   have BK438 := n4_
   have HB := n5_
   clear n0_ n1_ n2_ n3_ n4_ n5_
   (try clear hb)
   (try clear hb2)
   (try clear hk)
   (try clear hi)
   refine hK.out _ _ ((blk_cell BK438.out 0).trans rfl) (fun hHeld => ?_)
   clear hK K
   refine norm_ (a' := ?_) ?_ ?_
   rotate_left
   ·show Act.put _ (some 54) _ = _
    simp only [pA, pS, pZ, pK, i64_w, i32_w]
    rfl
   refine one_ (i := 3) (N := some 55) (bs 15 5) rfl rfl (by kernel_rfl) (by decide) (fun K hK => ?_)
   refine goes_ Try.func53 (by kernel_rfl) rfl #[.agg #[.slice Ao10 t435.length co10], .int .i64 t452] (by rfl) rfl rfl (by (try simp only [List.map_toArray, List.map_cons, List.map_nil]); first | done | rfl | (simp only [List.length_drop, List.length_take]; rfl)) ?_
   with_reducible refine (spec_StateAt.calls k1 _ _ t435 t452 t453 _ ?side1 ?side2 A28.out).mono ?_
   (case side1 => exact Kd.C_below (Kd.V_reads' HO_439000.out).2.2 (BL (Below.refl _ _) rfl rfl rfl rfl))
   (case side2 => exact (Kd.V_reads' HO_439000.out).2.1)
   rintro e w35 ⟨v454, rfl, ho0, hb⟩
   refine ⟨_, rfl, ?_⟩
   have n0_ := AM_ (Kd.R_below (by exact RL HO_4.out rfl) hb)
   have n1_ := AM_ (Kd.R_below (by exact RL HO_5.out rfl) hb)
   have n2_ := AM_ (Kd.V_elder' (by (with_reducible repeat (first | apply Kd.V_alloc | apply Kd.V_drewN | apply Kd.V_drew)); exact HO_439000.out) (Kd.R_base ho0) hb)
   have n3_ := AM_ (Kd.R_elder' (by exact RL HO451.out rfl) (Kd.R_base ho0) hb)
   have n4_ := AM_ (Kd.R_lower (Kd.R_new' ho0 (Kd.R_lt (by exact RL HO451.out rfl))) (below_size (by repeat (first | (with_reducible first | exact HB.out | apply below_alloc | apply pw_below_drewN | apply below_drew1 | refine below_set ?_ GE438.out) | exact HB.out))))
   have n5_ := AM_ (blk_below (g := gb438) (o := .cells #[.slice Ao10 t435.length co10] 72 (0, 0)) (by (with_reducible repeat (first | refine blk_drewN ?_ _ | refine blk_drew ?_ | refine blk_alloc ?_ _)); exact BK438.out) hb)
   have n6_ := AM_ (below_step (by repeat (first | (with_reducible first | exact HB.out | apply below_alloc | apply pw_below_drewN | apply below_drew1 | refine below_set ?_ GE438.out) | exact HB.out)) hb)
   clear HO_4
   clear HO_5
   clear HO_439000
   clear HO451
   clear BK438
   clear HB
   have HO_4 := n0_
   have HO_5 := n1_
   have HO_439000 := n2_
   have HO451 := n3_
   have HO455 := n4_
   have BK438 := n5_
   have HB := n6_
   clear n0_ n1_ n2_ n3_ n4_ n5_ n6_
   (try clear hb)
   (try clear hb2)
   (try clear hk)
   (try clear hi)
   (try clear ho0)
   refine hK.out _ _ ((blk_cell BK438.out 0).trans rfl) (fun hHeld => ?_)
   clear hK K
   refine norm_ (a' := ?_) ?_ ?_
   rotate_left
   ·show Act.put _ (some 55) _ = _
    simp only [pA, pS, pZ, pK, i64_w, i32_w]
    rfl
   refine pure_ (i := 4) (N := some 9) (v := ?_) (a' := ?_) (bs 31 5) rfl rfl (by kernel_rfl) (fun _ _ _ h => h) (Or.inl ⟨by rfl, ?_⟩) ?_ ?_
   rotate_left
   ·intro w'
    go_simp
    with_reducible rfl
   rotate_left
   ·simp only [pA, pS, pZ, pK, i64_w, i32_w]
    rfl
   refine done_ (by kernel_rfl) ?_
   try go_wp2
   go_loopg [10] k1 (fun kq v10 w' => ∃ (x10_2 : Int), v10 = .int .i64 x10_2 ∧ Aside0 (laws_FnPhantoms.l1 kq t439 (Int.tmod t448 12) t449 t453 x10_2 = some r) ∧ Aside0 (kq ≤ k1) ∧ Aside0 (Kd.R k77 77 w' w.heap.size (fun _ => True) (.slice Ao15 t439.length co15) t439) ∧ Aside0 (Kd.R (Kd.int .i64) 3 w' w.heap.size (fun k_ => some k_ ≠ (v454 : Value).ownBlock) v450 t449) ∧ Aside0 (Kd.R (Kd.int .i64) 3 w' w.heap.size (fun k_ => some k_ ≠ (v450 : Value).ownBlock) v454 t453) ∧ Aside0 (Kd.V (Kd.slice 160 k160) 158 w' w.heap.size (fun k_ => some k_ ≠ ((.slice Ao15 t439.length co15) : Value).ownBlock ∧ some k_ ≠ (v450 : Value).ownBlock ∧ some k_ ≠ (v454 : Value).ownBlock ∧ k_ ≠ gb438) (.slice Ao10 t435.length co10) t435) ∧ Aside0 (w'.heap[gb438]? = some (.cells #[(.slice Ao10 t435.length co10)] 72 (0, 0))) ∧ Aside0 (Below w.heap.size w w'))
   case atStart => exact ⟨(0), (by first | rfl | (simp; done) | (simp [*]; done)), H', ⟨Nat.le_refl _⟩, ⟨by (with_reducible repeat (first | apply Kd.R_alloc | apply Kd.R_drewN | apply Kd.R_drew)); exact Kd.R_mono HO_4.out (fun _ hk => trivial)⟩, ⟨by (with_reducible repeat (first | apply Kd.R_alloc | apply Kd.R_drewN | apply Kd.R_drew)); exact Kd.R_mono HO451.out (fun _ hk => hk.2)⟩, ⟨by (with_reducible repeat (first | apply Kd.R_alloc | apply Kd.R_drewN | apply Kd.R_drew)); exact Kd.R_mono HO455.out (fun _ hk => hk.2)⟩, ⟨by (with_reducible repeat (first | apply Kd.V_alloc | apply Kd.V_drewN | apply Kd.V_drew)); exact Kd.V_mono HO_439000.out (fun _ hk => ⟨hk.1.1.1, ⟨hk.1.2, ⟨hk.2, hk.1.1.2.2⟩⟩⟩)⟩, ⟨by (with_reducible repeat (first | refine blk_drewN ?_ _ | refine blk_drew ?_ | refine blk_alloc ?_ _)); exact BK438.out⟩, ⟨by repeat (first | (with_reducible first | exact HB.out | apply below_alloc | apply pw_below_drewN | apply below_drew1 | refine below_set ?_ GE438.out) | exact HB.out)⟩⟩
   case round =>
    clear H'
    try clear c1
    try clear c2
    try clear p2
    try clear c3
    try clear c4
    try clear p4
    try clear q4
    try clear hx4
    try clear c5
    try clear p6
    try clear c7
    try clear c7b0
    try clear c7b1
    try clear c7b2
    try clear c9
    try clear c17
    try clear c17b0
    try clear c18
    try clear c18b0
    try clear c19
    try clear c19b0
    try clear c20
    try clear c20b0
    try clear c24
    try clear hcz11_0
    try clear hcz13_0
    try clear hcz29_0
    try clear hcz31_0
    try clear hfz11_0
    try clear hfz13_0
    try clear hfz29_0
    try clear hfz31_0
    try clear hx445_0
    try clear hx445_1
    try clear hx445_2
    try clear hx446_0
    try clear hx446_1
    try clear hx446_2
    try clear p2
    try clear p445
    try clear p446
    try clear q445
    try clear q446
    obtain ⟨x10_2, rfl, HA, HK2, HO_4, HO_8, HO_9, HO_439000, BK438, HB⟩ := hrel
    cases gk with
    | zero => exact absurd HA.out (by simp [laws_FnPhantoms.l1])
    | succ k2 =>
     have H := HA.out
     clear HA
     simp only [laws_FnPhantoms.l1] at H
     have HC36 := AM_ H
     clear H
     go_upto_region 19 with (fail)
     go_cut [65] (fun v65 wc => ∃ (kq : Nat) (x65_35 : Bool), v65 = .bool x65_35 ∧ Aside0 (laws_FnPhantoms.j2 kq t439 (Int.tmod t448 12) t449 t453 x10_2 x65_35 = some r) ∧ Aside0 (kq ≤ k2) ∧ Aside0 (Kd.R k77 77 wc w.heap.size (fun _ => True) (.slice Ao15 t439.length co15) t439) ∧ Aside0 (Kd.R (Kd.int .i64) 3 wc w.heap.size (fun k_ => some k_ ≠ (v454 : Value).ownBlock) v450 t449) ∧ Aside0 (Kd.R (Kd.int .i64) 3 wc w.heap.size (fun k_ => some k_ ≠ (v450 : Value).ownBlock) v454 t453) ∧ Aside0 (Kd.V (Kd.slice 160 k160) 158 wc w.heap.size (fun k_ => some k_ ≠ ((.slice Ao15 t439.length co15) : Value).ownBlock ∧ some k_ ≠ (v450 : Value).ownBlock ∧ some k_ ≠ (v454 : Value).ownBlock ∧ k_ ≠ gb438) (.slice Ao10 t435.length co10) t435) ∧ Aside0 (wc.heap[gb438]? = some (.cells #[(.slice Ao10 t435.length co10)] 72 (0, 0))) ∧ Aside0 (Below w.heap.size w wc))
     case first =>
      have H := HC36.out
      clear HC36
      by_cases c37 : x10_2 < (t449.length : Int)
      rotate_left
      ·rw [if_neg c37] at H
       have c37b0 : decide (x10_2 < (t449.length : Int)) = false := decide_eq_false c37
       clear c37
       (first | rw [c37b0] | (simp only [i64_w, i32_w]; rw [c37b0]) | skip)
       have H' := AM_ H
       clear H
       obtain ⟨Ao40, co40, eo40⟩ := Kd.R_slice HO_8.out
       subst eo40
       go_wp2
       go_meet
       case rel => exact ⟨_, (false), (by first | rfl | (simp; done) | (simp [*]; done)), H', ⟨by have := HK1.out; have := HK2.out; first | omega | exact Nat.le_refl _⟩, ⟨by exact RL HO_4.out rfl⟩, ⟨by exact RL HO_8.out rfl⟩, ⟨by exact RL HO_9.out rfl⟩, ⟨by (with_reducible repeat (first | apply Kd.V_alloc | apply Kd.V_drewN | apply Kd.V_drew)); exact HO_439000.out⟩, ⟨by (with_reducible repeat (first | refine blk_drewN ?_ _ | refine blk_drew ?_ | refine blk_alloc ?_ _)); exact BK438.out⟩, ⟨by repeat (first | (with_reducible first | exact HB.out | apply below_alloc | apply pw_below_drewN | apply below_drew1 | refine below_set ?_ GE438.out) | exact HB.out)⟩⟩
      rw [if_pos c37] at H
      have c37b0 : decide (x10_2 < (t449.length : Int)) = true := decide_eq_true c37
      clear c37
      (first | rw [c37b0] | (simp only [i64_w, i32_w]; rw [c37b0]) | skip)
      have H' := AM_ H
      clear H
      obtain ⟨Ao38, co38, eo38⟩ := Kd.R_slice HO_8.out
      subst eo38
      obtain ⟨Ao39, co39, eo39⟩ := Kd.R_slice HO_9.out
      subst eo39
      go_wp2
      go_meet
      case rel => exact ⟨_, (decide (x10_2 < (t453.length : Int))), (by first | rfl | (simp; done) | (simp [*]; done)), H', ⟨by have := HK1.out; have := HK2.out; first | omega | exact Nat.le_refl _⟩, ⟨by exact RL HO_4.out rfl⟩, ⟨by exact RL HO_8.out rfl⟩, ⟨by exact RL HO_9.out rfl⟩, ⟨by (with_reducible repeat (first | apply Kd.V_alloc | apply Kd.V_drewN | apply Kd.V_drew)); exact HO_439000.out⟩, ⟨by (with_reducible repeat (first | refine blk_drewN ?_ _ | refine blk_drew ?_ | refine blk_alloc ?_ _)); exact BK438.out⟩, ⟨by repeat (first | (with_reducible first | exact HB.out | apply below_alloc | apply pw_below_drewN | apply below_drew1 | refine below_set ?_ GE438.out) | exact HB.out)⟩⟩
     case rest =>
      clear HC36
      try clear c1
      try clear c2
      try clear p2
      try clear c3
      try clear c4
      try clear p4
      try clear q4
      try clear hx4
      try clear c5
      try clear p6
      try clear c7
      try clear c7b0
      try clear c7b1
      try clear c7b2
      try clear c9
      try clear c17
      try clear c17b0
      try clear c18
      try clear c18b0
      try clear c19
      try clear c19b0
      try clear c20
      try clear c20b0
      try clear c24
      try clear c37
      try clear c37b0
      try clear hcz11_0
      try clear hcz13_0
      try clear hcz29_0
      try clear hcz31_0
      try clear hfz11_0
      try clear hfz13_0
      try clear hfz29_0
      try clear hfz31_0
      try clear hx445_0
      try clear hx445_1
      try clear hx445_2
      try clear hx446_0
      try clear hx446_1
      try clear hx446_2
      try clear p2
      try clear p4
      try clear p445
      try clear p446
      try clear p6
      try clear q4
      try clear q445
      try clear q446
      obtain ⟨kq, x65_35, rfl, HA, HJ35, HO_4, HO_8, HO_9, HO_439000, BK438, HB⟩ := hcut
      cases kq with
      | zero => exact absurd HA.out (by simp [laws_FnPhantoms.j2])
      | succ kj35 =>
       have H := HA.out
       clear HA
       simp only [laws_FnPhantoms.j2] at H
       by_cases c41 : x65_35 = true
       rotate_left
       ·replace c41 := Bool.eq_false_iff.mpr c41
        subst c41
        have H1 : ((impl_IsIndex.f kj35 t439).bind fun t462 => (some t462)) = some r := by rw [if_neg (show ¬ (false = true) by decide)] at H; exact H
        clear H
        have H := H1
        clear H1
        replace H := Option.bind_eq_some_iff.mp H
        obtain ⟨t462, A680, H⟩ := H
        replace H : (some t462) = some r := H
        have A68 := AM_ A680
        clear A680
        obtain rfl := Option.some.inj H
        go_wp2_with (first | ((with_reducible refine gate_callee (f := 56) rfl ?_); refine goesL_ (some 97) rfl rfl Try.func56 (by kernel_rfl) rfl #[.slice Ao15 t439.length co15] rfl (by (try simp only [List.map_toArray, List.map_cons, List.map_nil]); first | done | rfl | (simp only [List.length_drop, List.length_take]; rfl)) ?_; (with_reducible refine (impl_IsIndex.calls kj35 _ _ t439 t462 _ ?side1 ?side2 A68.out).mono ?_); (case side1 => exact Kd.C_below (Kd.R_reads' HO_4.out).2.2 (BL (Below.refl _ _) rfl rfl rfl rfl)); (case side2 => exact (Kd.R_reads' HO_4.out).2.1); rintro e w69 ⟨rfl, hb⟩; refine ⟨_, rfl, ?_⟩; have n0_ := AM_ (Kd.R_below (by exact RL HO_4.out rfl) hb); have n1_ := AM_ (Kd.R_below (by exact RL HO_8.out rfl) hb); have n2_ := AM_ (Kd.R_below (by exact RL HO_9.out rfl) hb); have n3_ := AM_ (Kd.V_below (by (with_reducible repeat (first | apply Kd.V_alloc | apply Kd.V_drewN | apply Kd.V_drew)); exact HO_439000.out) hb); have n4_ := AM_ (blk_below (g := gb438) (o := .cells #[.slice Ao10 t435.length co10] 72 (0, 0)) (by (with_reducible repeat (first | refine blk_drewN ?_ _ | refine blk_drew ?_ | refine blk_alloc ?_ _)); exact BK438.out) hb); have n5_ := AM_ (below_step (by repeat (first | (with_reducible first | exact HB.out | apply below_alloc | apply pw_below_drewN | apply below_drew1 | refine below_set ?_ GE438.out) | exact HB.out)) hb); clear HO_4; clear HO_8; clear HO_9; clear HO_439000; clear BK438; clear HB; have HO_4 := n0_; have HO_8 := n1_; have HO_9 := n2_; have HO_439000 := n3_; have BK438 := n4_; have HB := n5_; clear n0_ n1_ n2_ n3_ n4_ n5_; (try clear hb); (try clear hb2); (try clear hk); (try clear hi)))
        go_ret
        exact ⟨by first | rfl | (simp [errW_none, errW_some] <;> rfl) | (simp [*, errW_none, errW_some] <;> rfl), by repeat (first | (with_reducible first | exact HB.out | apply below_alloc | apply pw_below_drewN | apply below_drew1 | refine below_set ?_ GE438.out) | exact HB.out)⟩
       subst c41
       have H1 : ((impl_NodesFor.f kj35 t439 x10_2 x10_2).bind fun t456 => (if (t456.length : Int) = 1 then (if 0 ≤ x10_2 then (if x10_2 < (t449.length : Int) then (if x10_2 < (t453.length : Int) then (if (((rd t449 x10_2) == (-1)) != ((rd t453 x10_2) == (-1))) = true then (if 0 < (t456.length : Int) then (if ((rd_T77 t456 0).f2) ≤ (Int.tmod t448 12) then (some false) else (laws_FnPhantoms.l1 kj35 t439 (Int.tmod t448 12) t449 t453 (wrap64 (x10_2 + 1)))) else (none)) else (laws_FnPhantoms.l1 kj35 t439 (Int.tmod t448 12) t449 t453 (wrap64 (x10_2 + 1)))) else (none)) else (none)) else (none)) else (some false))) = some r := by rw [if_pos rfl] at H; exact H
       clear H
       have H := H1
       clear H1
       replace H := Option.bind_eq_some_iff.mp H
       obtain ⟨t456, A420, H⟩ := H
       replace H : (if (t456.length : Int) = 1 then (if 0 ≤ x10_2 then (if x10_2 < (t449.length : Int) then (if x10_2 < (t453.length : Int) then (if (((rd t449 x10_2) == (-1)) != ((rd t453 x10_2) == (-1))) = true then (if 0 < (t456.length : Int) then (if ((rd_T77 t456 0).f2) ≤ (Int.tmod t448 12) then (some false) else (laws_FnPhantoms.l1 kj35 t439 (Int.tmod t448 12) t449 t453 (wrap64 (x10_2 + 1)))) else (none)) else (laws_FnPhantoms.l1 kj35 t439 (Int.tmod t448 12) t449 t453 (wrap64 (x10_2 + 1)))) else (none)) else (none)) else (none)) else (some false)) = some r := H
       have A42 := AM_ A420
       clear A420
       by_cases c43 : (t456.length : Int) = 1
       rotate_left
       ·rw [if_neg c43] at H
        have c43b0 : ((t456.length : Int) == 1) = false := beq_eq_false_iff_ne.mpr c43
        have c43b1 : ((t456.length : Int) != 1) = true := bne_iff_ne.mpr c43
        obtain rfl := Option.some.inj H
        try go_wp2_with (first | ((with_reducible refine gate_callee (f := 55) rfl ?_); refine goesL_ (some 71) rfl rfl Try.func55 (by kernel_rfl) rfl #[.slice Ao15 t439.length co15, .int .i64 x10_2, .int .i64 x10_2] rfl (by (try simp only [List.map_toArray, List.map_cons, List.map_nil]); first | done | rfl | (simp only [List.length_drop, List.length_take]; rfl)) ?_; (with_reducible refine (impl_NodesFor.calls kj35 _ _ t439 x10_2 x10_2 t456 _ ?side1 ?side2 A42.out).mono ?_); (case side1 => exact Kd.C_below (Kd.R_reads' HO_4.out).2.2 (BL (Below.refl _ _) rfl rfl rfl rfl)); (case side2 => exact (Kd.R_reads' HO_4.out).2.1); rintro e w65 ⟨v457, rfl, ho0, hb⟩; refine ⟨_, rfl, ?_⟩; have n0_ := AM_ (Kd.R_elder' (by exact RL HO_4.out rfl) (Kd.R_base ho0) hb); have n1_ := AM_ (Kd.R_below (by exact RL HO_8.out rfl) hb); have n2_ := AM_ (Kd.R_below (by exact RL HO_9.out rfl) hb); have n3_ := AM_ (Kd.V_elder' (by (with_reducible repeat (first | apply Kd.V_alloc | apply Kd.V_drewN | apply Kd.V_drew)); exact HO_439000.out) (Kd.R_base ho0) hb); have n4_ := AM_ (Kd.R_lower (Kd.R_new' ho0 (Kd.R_lt (by exact RL HO_4.out rfl))) (below_size (by repeat (first | (with_reducible first | exact HB.out | apply below_alloc | apply pw_below_drewN | apply below_drew1 | refine below_set ?_ GE438.out) | exact HB.out)))); have n5_ := AM_ (blk_below (g := gb438) (o := .cells #[.slice Ao10 t435.length co10] 72 (0, 0)) (by (with_reducible repeat (first | refine blk_drewN ?_ _ | refine blk_drew ?_ | refine blk_alloc ?_ _)); exact BK438.out) hb); have n6_ := AM_ (below_step (by repeat (first | (with_reducible first | exact HB.out | apply below_alloc | apply pw_below_drewN | apply below_drew1 | refine below_set ?_ GE438.out) | exact HB.out)) hb); clear HO_4; clear HO_8; clear HO_9; clear HO_439000; clear BK438; clear HB; have HO_4 := n0_; have HO_8 := n1_; have HO_9 := n2_; have HO_439000 := n3_; have HO458 := n4_; have BK438 := n5_; have HB := n6_; clear n0_ n1_ n2_ n3_ n4_ n5_ n6_; (try clear hb); (try clear hb2); (try clear hk); (try clear hi); (try clear ho0)))
        have n0_ := AM_ (Kd.R_drew HO_4.out)
        have n1_ := AM_ (Kd.R_drew HO_8.out)
        have n2_ := AM_ (Kd.R_drew HO_9.out)
        have n3_ := AM_ (Kd.V_drew HO_439000.out)
        have n4_ := AM_ (Kd.R_drew HO458.out)
        have n5_ := AM_ (blk_drew BK438.out)
        have n6_ := AM_ (below_drew1 HB.out)
        clear HO_4
        clear HO_8
        clear HO_9
        clear HO_439000
        clear HO458
        clear BK438
        clear HB
        have HO_4 := n0_
        have HO_8 := n1_
        have HO_9 := n2_
        have HO_439000 := n3_
        have HO458 := n4_
        have BK438 := n5_
        have HB := n6_
        clear n0_ n1_ n2_ n3_ n4_ n5_ n6_
        obtain ⟨Ao67, co67, eo67⟩ := Kd.R_slice HO458.out
        (first | subst eo67 | (injection eo67 with f1_ f2_ f3_; have f4_ := f1_.symm; have f5_ := f3_.symm; clear f1_ f2_ f3_; subst f4_; subst f5_))
        refine start_ (n := 24) (S := fun w' => True) (ds := []) (bs 0 24) (by kernel_rfl) rfl rfl trivial (fun hHeld => ?_); refine with_tabW laws_FnPhantoms.tab22 laws_FnPhantoms.bits22 (fun HT_ HW_ => ?_)
        generalize w65.drew = w66 at HO_4 HO_8 HO_9 HO_439000 HO458 BK438 HB hHeld ⊢
        refine pure_ (i := 0) (N := some 72) (v := ?_) (a' := ?_) (bs 1 24) rfl rfl (any_of HT_.out (by kernel_rfl)) (fun _ _ _ h => h) (Or.inl ⟨by rfl, ?_⟩) ?_ ?_
        rotate_left
        ·intro w'
         go_simp
         with_reducible rfl
        rotate_left
        ·simp only [pA, pS, pZ, pK, i64_w, i32_w]
         rfl
        refine pure_ (i := 1) (N := some 73) (v := ?_) (a' := ?_) (bs 3 24) rfl rfl (any_of HT_.out (by kernel_rfl)) (fun _ _ _ h => h) (Or.inl ⟨by rfl, ?_⟩) ?_ ?_
        rotate_left
        ·intro w'
         go_simp
         with_reducible rfl
        rotate_left
        ·simp only [pA, pS, pZ, pK, i64_w, i32_w]
         rfl
        refine pure_ (i := 2) (N := some 74) (v := ?_) (a' := ?_) (bs 7 24) rfl rfl (any_of HT_.out (by kernel_rfl)) (fun _ _ _ h => h) (Or.inl ⟨by rfl, ?_⟩) ?_ ?_
        rotate_left
        ·intro w'
         go_simp
         with_reducible rfl
        rotate_left
        ·simp only [pA, pS, pZ, pK, i64_w, i32_w]
         rfl
        refine pure_ (i := 3) (N := some 75) (v := ?_) (a' := ?_) (bs 15 24) rfl rfl (any_of HT_.out (by kernel_rfl)) (fun _ _ _ h => h) (Or.inl ⟨by rfl, ?_⟩) ?_ ?_
        rotate_left
        ·intro w'
         go_simp
         with_reducible rfl
        rotate_left
        ·simp only [pA, pS, pZ, pK, i64_w, i32_w]
         rfl
        refine pure_ (i := 4) (N := some 76) (v := undef) (a' := ?_) (bs 31 24) rfl rfl (any_of HT_.out (by kernel_rfl)) (fun _ _ _ h => h) (Or.inr ⟨by rfl, rfl⟩) ?_ ?_
        rotate_left
        ·simp only [pA, pS, pZ, pK, i64_w, i32_w]
         rfl
        refine pure_ (i := 5) (N := some 77) (v := undef) (a' := ?_) (bs 63 24) rfl rfl (any_of HT_.out (by kernel_rfl)) (fun _ _ _ h => h) (Or.inr ⟨by rfl, rfl⟩) ?_ ?_
        rotate_left
        ·simp only [pA, pS, pZ, pK, i64_w, i32_w]
         rfl
        refine pure_ (i := 6) (N := some 78) (v := undef) (a' := ?_) (bs 127 24) rfl rfl (any_of HT_.out (by kernel_rfl)) (fun _ _ _ h => h) (Or.inr ⟨by rfl, rfl⟩) ?_ ?_
        rotate_left
        ·simp only [pA, pS, pZ, pK, i64_w, i32_w]
         rfl
        refine pure_ (i := 7) (N := some 79) (v := undef) (a' := ?_) (bs 255 24) rfl rfl (any_of HT_.out (by kernel_rfl)) (fun _ _ _ h => h) (Or.inr ⟨by rfl, rfl⟩) ?_ ?_
        rotate_left
        ·simp only [pA, pS, pZ, pK, i64_w, i32_w]
         rfl
        refine pure_ (i := 8) (N := some 80) (v := undef) (a' := ?_) (bs 511 24) rfl rfl (any_of HT_.out (by kernel_rfl)) (fun _ _ _ h => h) (Or.inr ⟨by rfl, rfl⟩) ?_ ?_
        rotate_left
        ·simp only [pA, pS, pZ, pK, i64_w, i32_w]
         rfl
        refine pure_ (i := 9) (N := some 81) (v := undef) (a' := ?_) (bs 1023 24) rfl rfl (any_of HT_.out (by kernel_rfl)) (fun _ _ _ h => h) (Or.inr ⟨by rfl, rfl⟩) ?_ ?_
        rotate_left
        ·simp only [pA, pS, pZ, pK, i64_w, i32_w]
         rfl
        refine pure_ (i := 10) (N := some 82) (v := undef) (a' := ?_) (bs 2047 24) rfl rfl (any_of HT_.out (by kernel_rfl)) (fun _ _ _ h => h) (Or.inr ⟨by rfl, rfl⟩) ?_ ?_
        rotate_left
        ·simp only [pA, pS, pZ, pK, i64_w, i32_w]
         rfl
        refine pure_ (i := 11) (N := some 83) (v := undef) (a' := ?_) (bs 4095 24) rfl rfl (any_of HT_.out (by kernel_rfl)) (fun _ _ _ h => h) (Or.inr ⟨by rfl, rfl⟩) ?_ ?_
        rotate_left
        ·simp only [pA, pS, pZ, pK, i64_w, i32_w]
         rfl
        refine pure_ (i := 12) (N := some 84) (v := undef) (a' := ?_) (bs 8191 24) rfl rfl (any_of HT_.out (by kernel_rfl)) (fun _ _ _ h => h) (Or.inr ⟨by rfl, rfl⟩) ?_ ?_
        rotate_left
        ·simp only [pA, pS, pZ, pK, i64_w, i32_w]
         rfl
        refine pure_ (i := 13) (N := some 85) (v := undef) (a' := ?_) (bs 16383 24) rfl rfl (any_of HT_.out (by kernel_rfl)) (fun _ _ _ h => h) (Or.inr ⟨by rfl, rfl⟩) ?_ ?_
        rotate_left
        ·simp only [pA, pS, pZ, pK, i64_w, i32_w]
         rfl
        refine pure_ (i := 14) (N := some 86) (v := undef) (a' := ?_) (bs 32767 24) rfl rfl (any_of HT_.out (by kernel_rfl)) (fun _ _ _ h => h) (Or.inr ⟨by rfl, rfl⟩) ?_ ?_
        rotate_left
        ·simp only [pA, pS, pZ, pK, i64_w, i32_w]
         rfl
        refine pure_ (i := 15) (N := some 87) (v := undef) (a' := ?_) (bs 65535 24) rfl rfl (any_of HT_.out (by kernel_rfl)) (fun _ _ _ h => h) (Or.inr ⟨by rfl, rfl⟩) ?_ ?_
        rotate_left
        ·simp only [pA, pS, pZ, pK, i64_w, i32_w]
         rfl
        refine pure_ (i := 16) (N := some 88) (v := undef) (a' := ?_) (bs 131071 24) rfl rfl (any_of HT_.out (by kernel_rfl)) (fun _ _ _ h => h) (Or.inr ⟨by rfl, rfl⟩) ?_ ?_
        rotate_left
        ·simp only [pA, pS, pZ, pK, i64_w, i32_w]
         rfl
        refine pure_ (i := 17) (N := some 89) (v := undef) (a' := ?_) (bs 262143 24) rfl rfl (any_of HT_.out (by kernel_rfl)) (fun _ _ _ h => h) (Or.inr ⟨by rfl, rfl⟩) ?_ ?_
        rotate_left
        ·simp only [pA, pS, pZ, pK, i64_w, i32_w]
         rfl
        refine pure_ (i := 18) (N := some 90) (v := undef) (a' := ?_) (bs 524287 24) rfl rfl (any_of HT_.out (by kernel_rfl)) (fun _ _ _ h => h) (Or.inr ⟨by rfl, rfl⟩) ?_ ?_
        rotate_left
        ·simp only [pA, pS, pZ, pK, i64_w, i32_w]
         rfl
        refine pure_ (i := 19) (N := some 91) (v := undef) (a' := ?_) (bs 1048575 24) rfl rfl (any_of HT_.out (by kernel_rfl)) (fun _ _ _ h => h) (Or.inr ⟨by rfl, rfl⟩) ?_ ?_
        rotate_left
        ·simp only [pA, pS, pZ, pK, i64_w, i32_w]
         rfl
        refine pure_ (i := 20) (N := some 92) (v := undef) (a' := ?_) (bs 2097151 24) rfl rfl (any_of HT_.out (by kernel_rfl)) (fun _ _ _ h => h) (Or.inr ⟨by rfl, rfl⟩) ?_ ?_
        rotate_left
        ·simp only [pA, pS, pZ, pK, i64_w, i32_w]
         rfl
        refine pure_ (i := 21) (N := some 93) (v := undef) (a' := ?_) (bs 4194303 24) rfl rfl (any_of HT_.out (by kernel_rfl)) (fun _ _ _ h => h) (Or.inr ⟨by rfl, rfl⟩) ?_ ?_
        rotate_left
        ·simp only [pA, pS, pZ, pK, i64_w, i32_w]
         rfl
        refine pure_ (i := 22) (N := some 94) (v := undef) (a' := ?_) (bs 8388607 24) rfl rfl (any_of HT_.out (by kernel_rfl)) (fun _ _ _ h => h) (Or.inr ⟨by rfl, rfl⟩) ?_ ?_
        rotate_left
        ·simp only [pA, pS, pZ, pK, i64_w, i32_w]
         rfl
        refine pure_ (i := 23) (N := some 95) (v := ?_) (a' := ?_) (bs 16777215 24) rfl rfl (any_of HT_.out (by kernel_rfl)) (fun _ _ _ h => h) (Or.inl ⟨by rfl, ?_⟩) ?_ ?_
        rotate_left
        ·intro w'
         go_simp
         with_reducible rfl
        rotate_left
        ·simp only [pA, pS, pZ, pK, i64_w, i32_w]
         rfl
        refine done_ (done_of HT_.out (by kernel_rfl)) ?_
        try go_wp2
        go_ret
        exact ⟨by first | rfl | (simp [errW_none, errW_some] <;> rfl) | (simp [*, errW_none, errW_some] <;> rfl), by repeat (first | (with_reducible first | exact HB.out | apply below_alloc | apply pw_below_drewN | apply below_drew1 | refine below_set ?_ GE438.out) | exact HB.out)⟩
       rw [if_pos c43] at H
       have c43b0 : ((t456.length : Int) == 1) = true := beq_iff_eq.mpr c43
       have c43b1 : ((t456.length : Int) != 1) = false := bne_eq_false_iff_eq.mpr c43
       clear c43
       by_cases c44 : 0 ≤ x10_2
       rotate_left
       ·rw [if_neg c44] at H
        exact absurd H (by simp)
       rw [if_pos c44] at H
       have c44b0 : decide (0 ≤ x10_2) = true := decide_eq_true c44
       clear c44
       by_cases c45 : x10_2 < (t449.length : Int)
       rotate_left
       ·rw [if_neg c45] at H
        exact absurd H (by simp)
       rw [if_pos c45] at H
       have c45b0 : decide (x10_2 < (t449.length : Int)) = true := decide_eq_true c45
       clear c45
       by_cases c46 : x10_2 < (t453.length : Int)
       rotate_left
       ·rw [if_neg c46] at H
        exact absurd H (by simp)
       rw [if_pos c46] at H
       have c46b0 : decide (x10_2 < (t453.length : Int)) = true := decide_eq_true c46
       clear c46
       by_cases c47 : (((rd t449 x10_2) == (-1)) != ((rd t453 x10_2) == (-1))) = true
       rotate_left
       ·rw [if_neg c47] at H
        have c47b0 : (((rd t449 x10_2) == (-1)) != ((rd t453 x10_2) == (-1))) = false := by simpa using c47
        (try (have c47b1 : decide (((rd t449 x10_2) == (-1)) = ((rd t453 x10_2) == (-1))) = true := by simpa using c47))
        (try (have c47b2 : (((rd t449 x10_2) == (-1)) == ((rd t453 x10_2) == (-1))) = true := by simpa using c47))
        clear c47
        have H' := AM_ H
        clear H
        try go_wp2_with (first | ((with_reducible refine gate_callee (f := 55) rfl ?_); refine goesL_ (some 71) rfl rfl Try.func55 (by kernel_rfl) rfl #[.slice Ao15 t439.length co15, .int .i64 x10_2, .int .i64 x10_2] rfl (by (try simp only [List.map_toArray, List.map_cons, List.map_nil]); first | done | rfl | (simp only [List.length_drop, List.length_take]; rfl)) ?_; (with_reducible refine (impl_NodesFor.calls kj35 _ _ t439 x10_2 x10_2 t456 _ ?side1 ?side2 A42.out).mono ?_); (case side1 => exact Kd.C_below (Kd.R_reads' HO_4.out).2.2 (BL (Below.refl _ _) rfl rfl rfl rfl)); (case side2 => exact (Kd.R_reads' HO_4.out).2.1); rintro e w60 ⟨v457, rfl, ho0, hb⟩; refine ⟨_, rfl, ?_⟩; have n0_ := AM_ (Kd.R_elder' (by exact RL HO_4.out rfl) (Kd.R_base ho0) hb); have n1_ := AM_ (Kd.R_below (by exact RL HO_8.out rfl) hb); have n2_ := AM_ (Kd.R_below (by exact RL HO_9.out rfl) hb); have n3_ := AM_ (Kd.V_elder' (by (with_reducible repeat (first | apply Kd.V_alloc | apply Kd.V_drewN | apply Kd.V_drew)); exact HO_439000.out) (Kd.R_base ho0) hb); have n4_ := AM_ (Kd.R_lower (Kd.R_new' ho0 (Kd.R_lt (by exact RL HO_4.out rfl))) (below_size (by repeat (first | (with_reducible first | exact HB.out | apply below_alloc | apply pw_below_drewN | apply below_drew1 | refine below_set ?_ GE438.out) | exact HB.out)))); have n5_ := AM_ (blk_below (g := gb438) (o := .cells #[.slice Ao10 t435.length co10] 72 (0, 0)) (by (with_reducible repeat (first | refine blk_drewN ?_ _ | refine blk_drew ?_ | refine blk_alloc ?_ _)); exact BK438.out) hb); have n6_ := AM_ (below_step (by repeat (first | (with_reducible first | exact HB.out | apply below_alloc | apply pw_below_drewN | apply below_drew1 | refine below_set ?_ GE438.out) | exact HB.out)) hb); clear HO_4; clear HO_8; clear HO_9; clear HO_439000; clear BK438; clear HB; have HO_4 := n0_; have HO_8 := n1_; have HO_9 := n2_; have HO_439000 := n3_; have HO458 := n4_; have BK438 := n5_; have HB := n6_; clear n0_ n1_ n2_ n3_ n4_ n5_ n6_; (try clear hb); (try clear hb2); (try clear hk); (try clear hi); (try clear ho0); obtain ⟨Ao61, co61, eo61⟩ := Kd.R_slice HO_8.out; subst eo61; obtain ⟨Ao62, co62, eo62⟩ := Kd.R_slice HO_9.out; subst eo62))
        have n0_ := AM_ (Kd.R_drew HO_4.out)
        have n1_ := AM_ (Kd.R_drew HO_8.out)
        have n2_ := AM_ (Kd.R_drew HO_9.out)
        have n3_ := AM_ (Kd.V_drew HO_439000.out)
        have n4_ := AM_ (Kd.R_drew HO458.out)
        have n5_ := AM_ (blk_drew BK438.out)
        have n6_ := AM_ (below_drew1 HB.out)
        clear HO_4
        clear HO_8
        clear HO_9
        clear HO_439000
        clear HO458
        clear BK438
        clear HB
        have HO_4 := n0_
        have HO_8 := n1_
        have HO_9 := n2_
        have HO_439000 := n3_
        have HO458 := n4_
        have BK438 := n5_
        have HB := n6_
        clear n0_ n1_ n2_ n3_ n4_ n5_ n6_
        obtain ⟨Ao64, co64, eo64⟩ := Kd.R_slice HO458.out
        (first | subst eo64 | (injection eo64 with f1_ f2_ f3_; have f4_ := f1_.symm; have f5_ := f3_.symm; clear f1_ f2_ f3_; subst f4_; subst f5_))
        have p459 : 0 ≤ (x10_2 : Int) := of_decide_eq_true (by first | (with_reducible assumption) | assumption)
        have q459 : x10_2 < (t449.length : Int) := of_decide_eq_true (by first | (with_reducible assumption) | assumption)
        obtain ⟨ad459, e459, hx459_0⟩ := Kd.at_int (Kd.R_reads' HO_8.out).2.2 x10_2 p459 q459
        cases e459
        replace p459 := eq_true p459
        replace q459 := eq_true q459
        have p460 : 0 ≤ (x10_2 : Int) := of_decide_eq_true (by first | (with_reducible assumption) | assumption)
        have q460 : x10_2 < (t453.length : Int) := of_decide_eq_true (by first | (with_reducible assumption) | assumption)
        obtain ⟨ad460, e460, hx460_0⟩ := Kd.at_int (Kd.R_reads' HO_9.out).2.2 x10_2 p460 q460
        cases e460
        replace p460 := eq_true p460
        replace q460 := eq_true q460
        refine start_ (n := 24) (S := fun w' => w'.cell? (ad459.add (x10_2).toNat) = some (.int .i64 (rd t449 x10_2)) ∧ w'.cell? (ad460.add (x10_2).toNat) = some (.int .i64 (rd t453 x10_2))) (ds := []) (bs 0 24) (by kernel_rfl) rfl rfl ⟨hx459_0, hx460_0⟩ (fun hHeld => ?_); refine with_tabW laws_FnPhantoms.tab22 laws_FnPhantoms.bits22 (fun HT_ HW_ => ?_)
        generalize w60.drew = w63 at HO_4 HO_8 HO_9 HO_439000 HO458 BK438 HB hx459_0 hx460_0 hHeld ⊢
        refine pure_ (i := 0) (N := some 72) (v := ?_) (a' := ?_) (bs 1 24) rfl rfl (any_of HT_.out (by kernel_rfl)) (fun _ _ _ h => h) (Or.inl ⟨by rfl, ?_⟩) ?_ ?_
        rotate_left
        ·intro w'
         go_simp
         with_reducible rfl
        rotate_left
        ·simp only [pA, pS, pZ, pK, i64_w, i32_w]
         rfl
        refine pure_ (i := 1) (N := some 73) (v := ?_) (a' := ?_) (bs 3 24) rfl rfl (any_of HT_.out (by kernel_rfl)) (fun _ _ _ h => h) (Or.inl ⟨by rfl, ?_⟩) ?_ ?_
        rotate_left
        ·intro w'
         go_simp
         with_reducible rfl
        rotate_left
        ·simp only [pA, pS, pZ, pK, i64_w, i32_w]
         rfl
        refine pure_ (i := 2) (N := some 74) (v := ?_) (a' := ?_) (bs 7 24) rfl rfl (any_of HT_.out (by kernel_rfl)) (fun _ _ _ h => h) (Or.inl ⟨by rfl, ?_⟩) ?_ ?_
        rotate_left
        ·intro w'
         go_simp
         with_reducible rfl
        rotate_left
        ·simp only [pA, pS, pZ, pK, i64_w, i32_w]
         rfl
        refine pure_ (i := 3) (N := some 75) (v := ?_) (a' := ?_) (bs 15 24) rfl rfl (any_of HT_.out (by kernel_rfl)) (fun _ _ _ h => h) (Or.inl ⟨by rfl, ?_⟩) ?_ ?_
        rotate_left
        ·intro w'
         go_simp
         with_reducible rfl
        rotate_left
        ·simp only [pA, pS, pZ, pK, i64_w, i32_w]
         rfl
        refine pure_ (i := 4) (N := some 76) (v := ?_) (a' := ?_) (bs 31 24) rfl rfl (any_of HT_.out (by kernel_rfl)) (fun _ _ _ h => h) (Or.inl ⟨by rfl, ?_⟩) ?_ ?_
        rotate_left
        ·intro w'
         go_simp
         with_reducible rfl
        rotate_left
        ·simp only [pA, pS, pZ, pK, i64_w, i32_w]
         rfl
        refine pure_ (i := 5) (N := some 77) (v := ?_) (a' := ?_) (bs 63 24) rfl rfl (any_of HT_.out (by kernel_rfl)) (fun _ _ _ h => h) (Or.inl ⟨by rfl, ?_⟩) ?_ ?_
        rotate_left
        ·intro w'
         go_simp
         with_reducible rfl
        rotate_left
        ·simp only [pA, pS, pZ, pK, i64_w, i32_w]
         rfl
        refine pure_ (i := 6) (N := some 78) (v := ?_) (a' := ?_) (bs 127 24) rfl rfl (any_of HT_.out (by kernel_rfl)) (fun _ _ _ h => h) (Or.inl ⟨by rfl, ?_⟩) ?_ ?_
        rotate_left
        ·intro w'
         go_simp
         with_reducible rfl
        rotate_left
        ·simp only [pA, pS, pZ, pK, i64_w, i32_w]
         rfl
        refine pure_ (i := 9) (N := some 81) (v := ?_) (a' := ?_) (bs 639 24) rfl rfl (any_of HT_.out (by kernel_rfl)) (fun _ _ _ h => h) (Or.inl ⟨by rfl, ?_⟩) ?_ ?_
        rotate_left
        ·intro w'
         go_simp
         with_reducible rfl
        rotate_left
        ·simp only [pA, pS, pZ, pK, i64_w, i32_w]
         rfl
        refine pure_ (i := 10) (N := some 82) (v := ?_) (a' := ?_) (bs 1663 24) rfl rfl (any_of HT_.out (by kernel_rfl)) (fun _ _ _ h => h) (Or.inl ⟨by rfl, ?_⟩) ?_ ?_
        rotate_left
        ·intro w'
         go_simp
         with_reducible rfl
        rotate_left
        ·simp only [pA, pS, pZ, pK, i64_w, i32_w]
         rfl
        refine pure_ (i := 11) (N := some 83) (v := ?_) (a' := ?_) (bs 3711 24) rfl rfl (any_of HT_.out (by kernel_rfl)) (fun _ _ _ h => h) (Or.inl ⟨by rfl, ?_⟩) ?_ ?_
        rotate_left
        ·intro w'
         go_simp
         with_reducible rfl
        rotate_left
        ·simp only [pA, pS, pZ, pK, i64_w, i32_w]
         rfl
        refine take_ (i := 7) (N := some 79) (v := ?_) (a' := ?_) (bs 3839 24) rfl rfl (take_ofW HT_.out HW_.out (by kernel_rfl)) (fun _ _ _ h => h) (Or.inl ⟨by rfl, ?_⟩) hHeld ?_ ?_
        rotate_left
        ·rintro w' ⟨s0, s1⟩
         go_simp
         with_reducible rfl
        rotate_left
        ·simp only [pA, pS, pZ, pK, i64_w, i32_w]
         rfl
        refine pure_ (i := 8) (N := some 80) (v := ?_) (a' := ?_) (bs 4095 24) rfl rfl (any_of HT_.out (by kernel_rfl)) (fun _ _ _ h => h) (Or.inl ⟨by rfl, ?_⟩) ?_ ?_
        rotate_left
        ·intro w'
         go_simp
         with_reducible rfl
        rotate_left
        ·simp only [pA, pS, pZ, pK, i64_w, i32_w]
         rfl
        refine take_ (i := 12) (N := some 84) (v := ?_) (a' := ?_) (bs 8191 24) rfl rfl (take_ofW HT_.out HW_.out (by kernel_rfl)) (fun _ _ _ h => h) (Or.inl ⟨by rfl, ?_⟩) hHeld ?_ ?_
        rotate_left
        ·rintro w' ⟨s0, s1⟩
         go_simp
         with_reducible rfl
        rotate_left
        ·simp only [pA, pS, pZ, pK, i64_w, i32_w]
         rfl
        refine pure_ (i := 13) (N := some 85) (v := ?_) (a' := ?_) (bs 16383 24) rfl rfl (any_of HT_.out (by kernel_rfl)) (fun _ _ _ h => h) (Or.inl ⟨by rfl, ?_⟩) ?_ ?_
        rotate_left
        ·intro w'
         go_simp
         with_reducible rfl
        rotate_left
        ·simp only [pA, pS, pZ, pK, i64_w, i32_w]
         rfl
        refine pure_ (i := 14) (N := some 86) (v := ?_) (a' := ?_) (bs 32767 24) rfl rfl (any_of HT_.out (by kernel_rfl)) (fun _ _ _ h => h) (Or.inl ⟨by rfl, ?_⟩) ?_ ?_
        rotate_left
        ·intro w'
         go_simp
         with_reducible rfl
        rotate_left
        ·simp only [pA, pS, pZ, pK, i64_w, i32_w]
         rfl
        refine pure_ (i := 15) (N := some 87) (v := ?_) (a' := ?_) (bs 65535 24) rfl rfl (any_of HT_.out (by kernel_rfl)) (fun _ _ _ h => h) (Or.inl ⟨by rfl, ?_⟩) ?_ ?_
        rotate_left
        ·intro w'
         go_simp
         with_reducible rfl
        rotate_left
        ·simp only [pA, pS, pZ, pK, i64_w, i32_w]
         rfl
        refine pure_ (i := 16) (N := some 88) (v := undef) (a' := ?_) (bs 131071 24) rfl rfl (any_of HT_.out (by kernel_rfl)) (fun _ _ _ h => h) (Or.inr ⟨by rfl, rfl⟩) ?_ ?_
        rotate_left
        ·simp only [pA, pS, pZ, pK, i64_w, i32_w]
         rfl
        refine pure_ (i := 17) (N := some 89) (v := undef) (a' := ?_) (bs 262143 24) rfl rfl (any_of HT_.out (by kernel_rfl)) (fun _ _ _ h => h) (Or.inr ⟨by rfl, rfl⟩) ?_ ?_
        rotate_left
        ·simp only [pA, pS, pZ, pK, i64_w, i32_w]
         rfl
        refine pure_ (i := 18) (N := some 90) (v := undef) (a' := ?_) (bs 524287 24) rfl rfl (any_of HT_.out (by kernel_rfl)) (fun _ _ _ h => h) (Or.inr ⟨by rfl, rfl⟩) ?_ ?_
        rotate_left
        ·simp only [pA, pS, pZ, pK, i64_w, i32_w]
         rfl
        refine pure_ (i := 19) (N := some 91) (v := undef) (a' := ?_) (bs 1048575 24) rfl rfl (any_of HT_.out (by kernel_rfl)) (fun _ _ _ h => h) (Or.inr ⟨by rfl, rfl⟩) ?_ ?_
        rotate_left
        ·simp only [pA, pS, pZ, pK, i64_w, i32_w]
         rfl
        refine pure_ (i := 20) (N := some 92) (v := undef) (a' := ?_) (bs 2097151 24) rfl rfl (any_of HT_.out (by kernel_rfl)) (fun _ _ _ h => h) (Or.inr ⟨by rfl, rfl⟩) ?_ ?_
        rotate_left
        ·simp only [pA, pS, pZ, pK, i64_w, i32_w]
         rfl
        refine pure_ (i := 21) (N := some 93) (v := undef) (a' := ?_) (bs 4194303 24) rfl rfl (any_of HT_.out (by kernel_rfl)) (fun _ _ _ h => h) (Or.inr ⟨by rfl, rfl⟩) ?_ ?_
        rotate_left
        ·simp only [pA, pS, pZ, pK, i64_w, i32_w]
         rfl
        refine pure_ (i := 22) (N := some 94) (v := ?_) (a' := ?_) (bs 8388607 24) rfl rfl (any_of HT_.out (by kernel_rfl)) (fun _ _ _ h => h) (Or.inl ⟨by rfl, ?_⟩) ?_ ?_
        rotate_left
        ·intro w'
         go_simp
         with_reducible rfl
        rotate_left
        ·simp only [pA, pS, pZ, pK, i64_w, i32_w]
         rfl
        refine pure_ (i := 23) (N := some 95) (v := ?_) (a' := ?_) (bs 16777215 24) rfl rfl (any_of HT_.out (by kernel_rfl)) (fun _ _ _ h => h) (Or.inl ⟨by rfl, ?_⟩) ?_ ?_
        rotate_left
        ·intro w'
         go_simp
         with_reducible rfl
        rotate_left
        ·simp only [pA, pS, pZ, pK, i64_w, i32_w]
         rfl
        refine done_ (done_of HT_.out (by kernel_rfl)) ?_
        try go_wp2
        go_roundg kj35
        case measure => have := HK1.out; have := HK2.out; have := HJ35.out; omega
        case rel => exact ⟨(wrap64 (x10_2 + 1)), (by first | rfl | (simp; done) | (simp [*]; done)), H', ⟨by have := HK1.out; have := HK2.out; have := HJ35.out; omega⟩, ⟨by (with_reducible repeat (first | apply Kd.R_alloc | apply Kd.R_drewN | apply Kd.R_drew)); exact Kd.R_mono HO_4.out (fun _ hk => trivial)⟩, ⟨by exact RL HO_8.out rfl⟩, ⟨by exact RL HO_9.out rfl⟩, ⟨by (with_reducible repeat (first | apply Kd.V_alloc | apply Kd.V_drewN | apply Kd.V_drew)); exact Kd.V_mono HO_439000.out (fun _ hk => ⟨hk.1.1, ⟨hk.1.2.1, ⟨hk.1.2.2.1, hk.1.2.2.2⟩⟩⟩)⟩, ⟨by (with_reducible repeat (first | refine blk_drewN ?_ _ | refine blk_drew ?_ | refine blk_alloc ?_ _)); exact BK438.out⟩, ⟨by repeat (first | (with_reducible first | exact HB.out | apply below_alloc | apply pw_below_drewN | apply below_drew1 | refine below_set ?_ GE438.out) | exact HB.out)⟩⟩
       rw [if_pos c47] at H
       have c47b0 : (((rd t449 x10_2) == (-1)) != ((rd t453 x10_2) == (-1))) = true := c47
       (try (have c47b1 : decide (((rd t449 x10_2) == (-1)) = ((rd t453 x10_2) == (-1))) = false := by simpa using c47))
       (try (have c47b2 : (((rd t449 x10_2) == (-1)) == ((rd t453 x10_2) == (-1))) = false := by simpa using c47))
       (try (have c47b3 : ¬ (((rd t449 x10_2) == (-1)) = ((rd t453 x10_2) == (-1))) := by simpa using c47))
       clear c47
       by_cases c48 : 0 < (t456.length : Int)
       rotate_left
       ·rw [if_neg c48] at H
        exact absurd H (by simp)
       rw [if_pos c48] at H
       have c48b0 : decide (0 < (t456.length : Int)) = true := decide_eq_true c48
       have c48b1 : decide (0 < t456.length) = true := decide_eq_true (by omega)
       clear c48
       by_cases c49 : ((rd_T77 t456 0).f2) ≤ (Int.tmod t448 12)
       ·rw [if_pos c49] at H
        have c49b0 : decide (((rd_T77 t456 0).f2) ≤ (Int.tmod t448 12)) = true := decide_eq_true c49
        clear c49
        obtain rfl := Option.some.inj H
        try go_wp2_with (first | ((with_reducible refine gate_callee (f := 55) rfl ?_); refine goesL_ (some 71) rfl rfl Try.func55 (by kernel_rfl) rfl #[.slice Ao15 t439.length co15, .int .i64 x10_2, .int .i64 x10_2] rfl (by (try simp only [List.map_toArray, List.map_cons, List.map_nil]); first | done | rfl | (simp only [List.length_drop, List.length_take]; rfl)) ?_; (with_reducible refine (impl_NodesFor.calls kj35 _ _ t439 x10_2 x10_2 t456 _ ?side1 ?side2 A42.out).mono ?_); (case side1 => exact Kd.C_below (Kd.R_reads' HO_4.out).2.2 (BL (Below.refl _ _) rfl rfl rfl rfl)); (case side2 => exact (Kd.R_reads' HO_4.out).2.1); rintro e w50 ⟨v457, rfl, ho0, hb⟩; refine ⟨_, rfl, ?_⟩; have n0_ := AM_ (Kd.R_elder' (by exact RL HO_4.out rfl) (Kd.R_base ho0) hb); have n1_ := AM_ (Kd.R_below (by exact RL HO_8.out rfl) hb); have n2_ := AM_ (Kd.R_below (by exact RL HO_9.out rfl) hb); have n3_ := AM_ (Kd.V_elder' (by (with_reducible repeat (first | apply Kd.V_alloc | apply Kd.V_drewN | apply Kd.V_drew)); exact HO_439000.out) (Kd.R_base ho0) hb); have n4_ := AM_ (Kd.R_lower (Kd.R_new' ho0 (Kd.R_lt (by exact RL HO_4.out rfl))) (below_size (by repeat (first | (with_reducible first | exact HB.out | apply below_alloc | apply pw_below_drewN | apply below_drew1 | refine below_set ?_ GE438.out) | exact HB.out)))); have n5_ := AM_ (blk_below (g := gb438) (o := .cells #[.slice Ao10 t435.length co10] 72 (0, 0)) (by (with_reducible repeat (first | refine blk_drewN ?_ _ | refine blk_drew ?_ | refine blk_alloc ?_ _)); exact BK438.out) hb); have n6_ := AM_ (below_step (by repeat (first | (with_reducible first | exact HB.out | apply below_alloc | apply pw_below_drewN | apply below_drew1 | refine below_set ?_ GE438.out) | exact HB.out)) hb); clear HO_4; clear HO_8; clear HO_9; clear HO_439000; clear BK438; clear HB; have HO_4 := n0_; have HO_8 := n1_; have HO_9 := n2_; have HO_439000 := n3_; have HO458 := n4_; have BK438 := n5_; have HB := n6_; clear n0_ n1_ n2_ n3_ n4_ n5_ n6_; (try clear hb); (try clear hb2); (try clear hk); (try clear hi); (try clear ho0); obtain ⟨Ao51, co51, eo51⟩ := Kd.R_slice HO_8.out; subst eo51; obtain ⟨Ao52, co52, eo52⟩ := Kd.R_slice HO_9.out; subst eo52; obtain ⟨Ao53, co53, eo53⟩ := Kd.R_slice HO458.out; subst eo53))
        have n0_ := AM_ (Kd.R_drew HO_4.out)
        have n1_ := AM_ (Kd.R_drew HO_8.out)
        have n2_ := AM_ (Kd.R_drew HO_9.out)
        have n3_ := AM_ (Kd.V_drew HO_439000.out)
        have n4_ := AM_ (Kd.R_drew HO458.out)
        have n5_ := AM_ (blk_drew BK438.out)
        have n6_ := AM_ (below_drew1 HB.out)
        clear HO_4
        clear HO_8
        clear HO_9
        clear HO_439000
        clear HO458
        clear BK438
        clear HB
        have HO_4 := n0_
        have HO_8 := n1_
        have HO_9 := n2_
        have HO_439000 := n3_
        have HO458 := n4_
        have BK438 := n5_
        have HB := n6_
        clear n0_ n1_ n2_ n3_ n4_ n5_ n6_
        have p459 : 0 ≤ (x10_2 : Int) := of_decide_eq_true (by first | (with_reducible assumption) | assumption)
        have q459 : x10_2 < (t449.length : Int) := of_decide_eq_true (by first | (with_reducible assumption) | assumption)
        obtain ⟨ad459, e459, hx459_0⟩ := Kd.at_int (Kd.R_reads' HO_8.out).2.2 x10_2 p459 q459
        cases e459
        replace p459 := eq_true p459
        replace q459 := eq_true q459
        have p460 : 0 ≤ (x10_2 : Int) := of_decide_eq_true (by first | (with_reducible assumption) | assumption)
        have q460 : x10_2 < (t453.length : Int) := of_decide_eq_true (by first | (with_reducible assumption) | assumption)
        obtain ⟨ad460, e460, hx460_0⟩ := Kd.at_int (Kd.R_reads' HO_9.out).2.2 x10_2 p460 q460
        cases e460
        replace p460 := eq_true p460
        replace q460 := eq_true q460
        have p461 : 0 ≤ (0 : Int) := (by omega)
        have q461 : 0 < (t456.length : Int) := of_decide_eq_true (by first | (with_reducible assumption) | assumption)
        obtain ⟨ad461, e461, hx461_0, hx461_1, hx461_2⟩ := at_T77 (Kd.R_reads' HO458.out).2.2 0 p461 q461
        cases e461
        have qi461 : (0 < t456.length) = True := eq_true (by omega)
        (try rw [show ((0 : Int)).toNat = 0 from rfl] at hx461_0)
        (try rw [show 0 * 3 = 0 from rfl] at hx461_0)
        (try rw [Addr.add_zero'] at hx461_0)
        (try rw [show ((0 : Int)).toNat = 0 from rfl] at hx461_1)
        (try rw [show 0 * 3 = 0 from rfl] at hx461_1)
        (try rw [Addr.add_zero'] at hx461_1)
        (try rw [show ((0 : Int)).toNat = 0 from rfl] at hx461_2)
        (try rw [show 0 * 3 = 0 from rfl] at hx461_2)
        (try rw [Addr.add_zero'] at hx461_2)
        replace p461 := eq_true p461
        replace q461 := eq_true q461
        refine start_ (n := 24) (S := fun w' => w'.cell? (ad459.add (x10_2).toNat) = some (.int .i64 (rd t449 x10_2)) ∧ w'.cell? (ad460.add (x10_2).toNat) = some (.int .i64 (rd t453 x10_2)) ∧ w'.cell? ad461 = some (.int .i64 ((rd_T77 t456 0).f0)) ∧ w'.cell? ⟨ad461.block, ad461.off + 1, none⟩ = some (.int .i64 ((rd_T77 t456 0).f1)) ∧ w'.cell? ⟨ad461.block, ad461.off + 2, none⟩ = some (.int .i64 ((rd_T77 t456 0).f2))) (ds := []) (bs 0 24) (by kernel_rfl) rfl rfl ⟨hx459_0, hx460_0, hx461_0, hx461_1, hx461_2⟩ (fun hHeld => ?_); refine with_tabW laws_FnPhantoms.tab22 laws_FnPhantoms.bits22 (fun HT_ HW_ => ?_)
        generalize w50.drew = w54 at HO_4 HO_8 HO_9 HO_439000 HO458 BK438 HB hx459_0 hx460_0 hx461_0 hx461_1 hx461_2 hHeld ⊢
        refine pure_ (i := 0) (N := some 72) (v := ?_) (a' := ?_) (bs 1 24) rfl rfl (any_of HT_.out (by kernel_rfl)) (fun _ _ _ h => h) (Or.inl ⟨by rfl, ?_⟩) ?_ ?_
        rotate_left
        ·intro w'
         go_simp
         with_reducible rfl
        rotate_left
        ·simp only [pA, pS, pZ, pK, i64_w, i32_w]
         rfl
        refine pure_ (i := 1) (N := some 73) (v := ?_) (a' := ?_) (bs 3 24) rfl rfl (any_of HT_.out (by kernel_rfl)) (fun _ _ _ h => h) (Or.inl ⟨by rfl, ?_⟩) ?_ ?_
        rotate_left
        ·intro w'
         go_simp
         with_reducible rfl
        rotate_left
        ·simp only [pA, pS, pZ, pK, i64_w, i32_w]
         rfl
        refine pure_ (i := 2) (N := some 74) (v := ?_) (a' := ?_) (bs 7 24) rfl rfl (any_of HT_.out (by kernel_rfl)) (fun _ _ _ h => h) (Or.inl ⟨by rfl, ?_⟩) ?_ ?_
        rotate_left
        ·intro w'
         go_simp
         with_reducible rfl
        rotate_left
        ·simp only [pA, pS, pZ, pK, i64_w, i32_w]
         rfl
        refine pure_ (i := 3) (N := some 75) (v := ?_) (a' := ?_) (bs 15 24) rfl rfl (any_of HT_.out (by kernel_rfl)) (fun _ _ _ h => h) (Or.inl ⟨by rfl, ?_⟩) ?_ ?_
        rotate_left
        ·intro w'
         go_simp
         with_reducible rfl
        rotate_left
        ·simp only [pA, pS, pZ, pK, i64_w, i32_w]
         rfl
        refine pure_ (i := 4) (N := some 76) (v := ?_) (a' := ?_) (bs 31 24) rfl rfl (any_of HT_.out (by kernel_rfl)) (fun _ _ _ h => h) (Or.inl ⟨by rfl, ?_⟩) ?_ ?_
        rotate_left
        ·intro w'
         go_simp
         with_reducible rfl
        rotate_left
        ·simp only [pA, pS, pZ, pK, i64_w, i32_w]
         rfl
        refine pure_ (i := 5) (N := some 77) (v := ?_) (a' := ?_) (bs 63 24) rfl rfl (any_of HT_.out (by kernel_rfl)) (fun _ _ _ h => h) (Or.inl ⟨by rfl, ?_⟩) ?_ ?_
        rotate_left
        ·intro w'
         go_simp
         with_reducible rfl
        rotate_left
        ·simp only [pA, pS, pZ, pK, i64_w, i32_w]
         rfl
        refine pure_ (i := 6) (N := some 78) (v := ?_) (a' := ?_) (bs 127 24) rfl rfl (any_of HT_.out (by kernel_rfl)) (fun _ _ _ h => h) (Or.inl ⟨by rfl, ?_⟩) ?_ ?_
        rotate_left
        ·intro w'
         go_simp
         with_reducible rfl
        rotate_left
        ·simp only [pA, pS, pZ, pK, i64_w, i32_w]
         rfl
        refine pure_ (i := 9) (N := some 81) (v := ?_) (a' := ?_) (bs 639 24) rfl rfl (any_of HT_.out (by kernel_rfl)) (fun _ _ _ h => h) (Or.inl ⟨by rfl, ?_⟩) ?_ ?_
        rotate_left
        ·intro w'
         go_simp
         with_reducible rfl
        rotate_left
        ·simp only [pA, pS, pZ, pK, i64_w, i32_w]
         rfl
        refine pure_ (i := 10) (N := some 82) (v := ?_) (a' := ?_) (bs 1663 24) rfl rfl (any_of HT_.out (by kernel_rfl)) (fun _ _ _ h => h) (Or.inl ⟨by rfl, ?_⟩) ?_ ?_
        rotate_left
        ·intro w'
         go_simp
         with_reducible rfl
        rotate_left
        ·simp only [pA, pS, pZ, pK, i64_w, i32_w]
         rfl
        refine pure_ (i := 11) (N := some 83) (v := ?_) (a' := ?_) (bs 3711 24) rfl rfl (any_of HT_.out (by kernel_rfl)) (fun _ _ _ h => h) (Or.inl ⟨by rfl, ?_⟩) ?_ ?_
        rotate_left
        ·intro w'
         go_simp
         with_reducible rfl
        rotate_left
        ·simp only [pA, pS, pZ, pK, i64_w, i32_w]
         rfl
        refine take_ (i := 7) (N := some 79) (v := ?_) (a' := ?_) (bs 3839 24) rfl rfl (take_ofW HT_.out HW_.out (by kernel_rfl)) (fun _ _ _ h => h) (Or.inl ⟨by rfl, ?_⟩) hHeld ?_ ?_
        rotate_left
        ·rintro w' ⟨s0, s1, s2, s3, s4⟩
         go_simp
         with_reducible rfl
        rotate_left
        ·simp only [pA, pS, pZ, pK, i64_w, i32_w]
         rfl
        refine pure_ (i := 8) (N := some 80) (v := ?_) (a' := ?_) (bs 4095 24) rfl rfl (any_of HT_.out (by kernel_rfl)) (fun _ _ _ h => h) (Or.inl ⟨by rfl, ?_⟩) ?_ ?_
        rotate_left
        ·intro w'
         go_simp
         with_reducible rfl
        rotate_left
        ·simp only [pA, pS, pZ, pK, i64_w, i32_w]
         rfl
        refine take_ (i := 12) (N := some 84) (v := ?_) (a' := ?_) (bs 8191 24) rfl rfl (take_ofW HT_.out HW_.out (by kernel_rfl)) (fun _ _ _ h => h) (Or.inl ⟨by rfl, ?_⟩) hHeld ?_ ?_
        rotate_left
        ·rintro w' ⟨s0, s1, s2, s3, s4⟩
         go_simp
         with_reducible rfl
        rotate_left
        ·simp only [pA, pS, pZ, pK, i64_w, i32_w]
         rfl
        refine pure_ (i := 13) (N := some 85) (v := ?_) (a' := ?_) (bs 16383 24) rfl rfl (any_of HT_.out (by kernel_rfl)) (fun _ _ _ h => h) (Or.inl ⟨by rfl, ?_⟩) ?_ ?_
        rotate_left
        ·intro w'
         go_simp
         with_reducible rfl
        rotate_left
        ·simp only [pA, pS, pZ, pK, i64_w, i32_w]
         rfl
        refine pure_ (i := 14) (N := some 86) (v := ?_) (a' := ?_) (bs 32767 24) rfl rfl (any_of HT_.out (by kernel_rfl)) (fun _ _ _ h => h) (Or.inl ⟨by rfl, ?_⟩) ?_ ?_
        rotate_left
        ·intro w'
         go_simp
         with_reducible rfl
        rotate_left
        ·simp only [pA, pS, pZ, pK, i64_w, i32_w]
         rfl
        refine pure_ (i := 15) (N := some 87) (v := ?_) (a' := ?_) (bs 65535 24) rfl rfl (any_of HT_.out (by kernel_rfl)) (fun _ _ _ h => h) (Or.inl ⟨by rfl, ?_⟩) ?_ ?_
        rotate_left
        ·intro w'
         go_simp
         with_reducible rfl
        rotate_left
        ·simp only [pA, pS, pZ, pK, i64_w, i32_w]
         rfl
        refine pure_ (i := 16) (N := some 88) (v := ?_) (a' := ?_) (bs 131071 24) rfl rfl (any_of HT_.out (by kernel_rfl)) (fun _ _ _ h => h) (Or.inl ⟨by rfl, ?_⟩) ?_ ?_
        rotate_left
        ·intro w'
         go_simp
         with_reducible rfl
        rotate_left
        ·simp only [pA, pS, pZ, pK, i64_w, i32_w]
         rfl
        refine pure_ (i := 17) (N := some 89) (v := ?_) (a' := ?_) (bs 262143 24) rfl rfl (any_of HT_.out (by kernel_rfl)) (fun _ _ _ h => h) (Or.inl ⟨by rfl, ?_⟩) ?_ ?_
        rotate_left
        ·intro w'
         go_simp
         with_reducible rfl
        rotate_left
        ·simp only [pA, pS, pZ, pK, i64_w, i32_w]
         rfl
        refine pure_ (i := 18) (N := some 90) (v := ?_) (a' := ?_) (bs 524287 24) rfl rfl (any_of HT_.out (by kernel_rfl)) (fun _ _ _ h => h) (Or.inl ⟨by rfl, ?_⟩) ?_ ?_
        rotate_left
        ·intro w'
         go_simp
         with_reducible rfl
        rotate_left
        ·simp only [pA, pS, pZ, pK, i64_w, i32_w]
         rfl
        refine pure_ (i := 20) (N := some 92) (v := ?_) (a' := ?_) (bs 1572863 24) rfl rfl (any_of HT_.out (by kernel_rfl)) (fun _ _ _ h => h) (Or.inl ⟨by rfl, ?_⟩) ?_ ?_
        rotate_left
        ·intro w'
         go_simp
         with_reducible rfl
        rotate_left
        ·simp only [pA, pS, pZ, pK, i64_w, i32_w]
         rfl
        refine take_ (i := 19) (N := some 91) (v := ?_) (a' := ?_) (bs 2097151 24) rfl rfl (take_ofW HT_.out HW_.out (by kernel_rfl)) (fun _ _ _ h => h) (Or.inl ⟨by rfl, ?_⟩) hHeld ?_ ?_
        rotate_left
        ·rintro w' ⟨s0, s1, s2, s3, s4⟩
         go_simp
         with_reducible rfl
        rotate_left
        ·simp only [pA, pS, pZ, pK, i64_w, i32_w]
         rfl
        refine pure_ (i := 21) (N := some 93) (v := ?_) (a' := ?_) (bs 4194303 24) rfl rfl (any_of HT_.out (by kernel_rfl)) (fun _ _ _ h => h) (Or.inl ⟨by rfl, ?_⟩) ?_ ?_
        rotate_left
        ·intro w'
         go_simp
         with_reducible rfl
        rotate_left
        ·simp only [pA, pS, pZ, pK, i64_w, i32_w]
         rfl
        refine pure_ (i := 22) (N := some 94) (v := ?_) (a' := ?_) (bs 8388607 24) rfl rfl (any_of HT_.out (by kernel_rfl)) (fun _ _ _ h => h) (Or.inl ⟨by rfl, ?_⟩) ?_ ?_
        rotate_left
        ·intro w'
         go_simp
         with_reducible rfl
        rotate_left
        ·simp only [pA, pS, pZ, pK, i64_w, i32_w]
         rfl
        refine pure_ (i := 23) (N := some 95) (v := ?_) (a' := ?_) (bs 16777215 24) rfl rfl (any_of HT_.out (by kernel_rfl)) (fun _ _ _ h => h) (Or.inl ⟨by rfl, ?_⟩) ?_ ?_
        rotate_left
        ·intro w'
         go_simp
         with_reducible rfl
        rotate_left
        ·simp only [pA, pS, pZ, pK, i64_w, i32_w]
         rfl
        refine done_ (done_of HT_.out (by kernel_rfl)) ?_
        try go_wp2
        go_ret
        exact ⟨by first | rfl | (simp [errW_none, errW_some] <;> rfl) | (simp [*, errW_none, errW_some] <;> rfl), by repeat (first | (with_reducible first | exact HB.out | apply below_alloc | apply pw_below_drewN | apply below_drew1 | refine below_set ?_ GE438.out) | exact HB.out)⟩
       rw [if_neg c49] at H
       have c49b0 : decide (((rd_T77 t456 0).f2) ≤ (Int.tmod t448 12)) = false := decide_eq_false c49
       clear c49
       have H' := AM_ H
       clear H
       try go_wp2_with (first | ((with_reducible refine gate_callee (f := 55) rfl ?_); refine goesL_ (some 71) rfl rfl Try.func55 (by kernel_rfl) rfl #[.slice Ao15 t439.length co15, .int .i64 x10_2, .int .i64 x10_2] rfl (by (try simp only [List.map_toArray, List.map_cons, List.map_nil]); first | done | rfl | (simp only [List.length_drop, List.length_take]; rfl)) ?_; (with_reducible refine (impl_NodesFor.calls kj35 _ _ t439 x10_2 x10_2 t456 _ ?side1 ?side2 A42.out).mono ?_); (case side1 => exact Kd.C_below (Kd.R_reads' HO_4.out).2.2 (BL (Below.refl _ _) rfl rfl rfl rfl)); (case side2 => exact (Kd.R_reads' HO_4.out).2.1); rintro e w55 ⟨v457, rfl, ho0, hb⟩; refine ⟨_, rfl, ?_⟩; have n0_ := AM_ (Kd.R_elder' (by exact RL HO_4.out rfl) (Kd.R_base ho0) hb); have n1_ := AM_ (Kd.R_below (by exact RL HO_8.out rfl) hb); have n2_ := AM_ (Kd.R_below (by exact RL HO_9.out rfl) hb); have n3_ := AM_ (Kd.V_elder' (by (with_reducible repeat (first | apply Kd.V_alloc | apply Kd.V_drewN | apply Kd.V_drew)); exact HO_439000.out) (Kd.R_base ho0) hb); have n4_ := AM_ (Kd.R_lower (Kd.R_new' ho0 (Kd.R_lt (by exact RL HO_4.out rfl))) (below_size (by repeat (first | (with_reducible first | exact HB.out | apply below_alloc | apply pw_below_drewN | apply below_drew1 | refine below_set ?_ GE438.out) | exact HB.out)))); have n5_ := AM_ (blk_below (g := gb438) (o := .cells #[.slice Ao10 t435.length co10] 72 (0, 0)) (by (with_reducible repeat (first | refine blk_drewN ?_ _ | refine blk_drew ?_ | refine blk_alloc ?_ _)); exact BK438.out) hb); have n6_ := AM_ (below_step (by repeat (first | (with_reducible first | exact HB.out | apply below_alloc | apply pw_below_drewN | apply below_drew1 | refine below_set ?_ GE438.out) | exact HB.out)) hb); clear HO_4; clear HO_8; clear HO_9; clear HO_439000; clear BK438; clear HB; have HO_4 := n0_; have HO_8 := n1_; have HO_9 := n2_; have HO_439000 := n3_; have HO458 := n4_; have BK438 := n5_; have HB := n6_; clear n0_ n1_ n2_ n3_ n4_ n5_ n6_; (try clear hb); (try clear hb2); (try clear hk); (try clear hi); (try clear ho0); obtain ⟨Ao56, co56, eo56⟩ := Kd.R_slice HO_8.out; subst eo56; obtain ⟨Ao57, co57, eo57⟩ := Kd.R_slice HO_9.out; subst eo57; obtain ⟨Ao58, co58, eo58⟩ := Kd.R_slice HO458.out; subst eo58))
       have n0_ := AM_ (Kd.R_drew HO_4.out)
       have n1_ := AM_ (Kd.R_drew HO_8.out)
       have n2_ := AM_ (Kd.R_drew HO_9.out)
       have n3_ := AM_ (Kd.V_drew HO_439000.out)
       have n4_ := AM_ (Kd.R_drew HO458.out)
       have n5_ := AM_ (blk_drew BK438.out)
       have n6_ := AM_ (below_drew1 HB.out)
       clear HO_4
       clear HO_8
       clear HO_9
       clear HO_439000
       clear HO458
       clear BK438
       clear HB
       have HO_4 := n0_
       have HO_8 := n1_
       have HO_9 := n2_
       have HO_439000 := n3_
       have HO458 := n4_
       have BK438 := n5_
       have HB := n6_
       clear n0_ n1_ n2_ n3_ n4_ n5_ n6_
       have p459 : 0 ≤ (x10_2 : Int) := of_decide_eq_true (by first | (with_reducible assumption) | assumption)
       have q459 : x10_2 < (t449.length : Int) := of_decide_eq_true (by first | (with_reducible assumption) | assumption)
       obtain ⟨ad459, e459, hx459_0⟩ := Kd.at_int (Kd.R_reads' HO_8.out).2.2 x10_2 p459 q459
       cases e459
       replace p459 := eq_true p459
       replace q459 := eq_true q459
       have p460 : 0 ≤ (x10_2 : Int) := of_decide_eq_true (by first | (with_reducible assumption) | assumption)
       have q460 : x10_2 < (t453.length : Int) := of_decide_eq_true (by first | (with_reducible assumption) | assumption)
       obtain ⟨ad460, e460, hx460_0⟩ := Kd.at_int (Kd.R_reads' HO_9.out).2.2 x10_2 p460 q460
       cases e460
       replace p460 := eq_true p460
       replace q460 := eq_true q460
       have p461 : 0 ≤ (0 : Int) := (by omega)
       have q461 : 0 < (t456.length : Int) := of_decide_eq_true (by first | (with_reducible assumption) | assumption)
       obtain ⟨ad461, e461, hx461_0, hx461_1, hx461_2⟩ := at_T77 (Kd.R_reads' HO458.out).2.2 0 p461 q461
       cases e461
       have qi461 : (0 < t456.length) = True := eq_true (by omega)
       (try rw [show ((0 : Int)).toNat = 0 from rfl] at hx461_0)
       (try rw [show 0 * 3 = 0 from rfl] at hx461_0)
       (try rw [Addr.add_zero'] at hx461_0)
       (try rw [show ((0 : Int)).toNat = 0 from rfl] at hx461_1)
       (try rw [show 0 * 3 = 0 from rfl] at hx461_1)
       (try rw [Addr.add_zero'] at hx461_1)
       (try rw [show ((0 : Int)).toNat = 0 from rfl] at hx461_2)
       (try rw [show 0 * 3 = 0 from rfl] at hx461_2)
       (try rw [Addr.add_zero'] at hx461_2)
       replace p461 := eq_true p461
       replace q461 := eq_true q461
       refine start_ (n := 24) (S := fun w' => w'.cell? (ad459.add (x10_2).toNat) = some (.int .i64 (rd t449 x10_2)) ∧ w'.cell? (ad460.add (x10_2).toNat) = some (.int .i64 (rd t453 x10_2)) ∧ w'.cell? ad461 = some (.int .i64 ((rd_T77 t456 0).f0)) ∧ w'.cell? ⟨ad461.block, ad461.off + 1, none⟩ = some (.int .i64 ((rd_T77 t456 0).f1)) ∧ w'.cell? ⟨ad461.block, ad461.off + 2, none⟩ = some (.int .i64 ((rd_T77 t456 0).f2))) (ds := []) (bs 0 24) (by kernel_rfl) rfl rfl ⟨hx459_0, hx460_0, hx461_0, hx461_1, hx461_2⟩ (fun hHeld => ?_); refine with_tabW laws_FnPhantoms.tab22 laws_FnPhantoms.bits22 (fun HT_ HW_ => ?_)
       generalize w55.drew = w59 at HO_4 HO_8 HO_9 HO_439000 HO458 BK438 HB hx459_0 hx460_0 hx461_0 hx461_1 hx461_2 hHeld ⊢
       refine pure_ (i := 0) (N := some 72) (v := ?_) (a' := ?_) (bs 1 24) rfl rfl (any_of HT_.out (by kernel_rfl)) (fun _ _ _ h => h) (Or.inl ⟨by rfl, ?_⟩) ?_ ?_
       rotate_left
       ·intro w'
        go_simp
        with_reducible rfl
       rotate_left
       ·simp only [pA, pS, pZ, pK, i64_w, i32_w]
        rfl
       refine pure_ (i := 1) (N := some 73) (v := ?_) (a' := ?_) (bs 3 24) rfl rfl (any_of HT_.out (by kernel_rfl)) (fun _ _ _ h => h) (Or.inl ⟨by rfl, ?_⟩) ?_ ?_
       rotate_left
       ·intro w'
        go_simp
        with_reducible rfl
       rotate_left
       ·simp only [pA, pS, pZ, pK, i64_w, i32_w]
        rfl
       refine pure_ (i := 2) (N := some 74) (v := ?_) (a' := ?_) (bs 7 24) rfl rfl (any_of HT_.out (by kernel_rfl)) (fun _ _ _ h => h) (Or.inl ⟨by rfl, ?_⟩) ?_ ?_
       rotate_left
       ·intro w'
        go_simp
        with_reducible rfl
       rotate_left
       ·simp only [pA, pS, pZ, pK, i64_w, i32_w]
        rfl
       refine pure_ (i := 3) (N := some 75) (v := ?_) (a' := ?_) (bs 15 24) rfl rfl (any_of HT_.out (by kernel_rfl)) (fun _ _ _ h => h) (Or.inl ⟨by rfl, ?_⟩) ?_ ?_
       rotate_left
       ·intro w'
        go_simp
        with_reducible rfl
       rotate_left
       ·simp only [pA, pS, pZ, pK, i64_w, i32_w]
        rfl
       refine pure_ (i := 4) (N := some 76) (v := ?_) (a' := ?_) (bs 31 24) rfl rfl (any_of HT_.out (by kernel_rfl)) (fun _ _ _ h => h) (Or.inl ⟨by rfl, ?_⟩) ?_ ?_
       rotate_left
       ·intro w'
        go_simp
        with_reducible rfl
       rotate_left
       ·simp only [pA, pS, pZ, pK, i64_w, i32_w]
        rfl
       refine pure_ (i := 5) (N := some 77) (v := ?_) (a' := ?_) (bs 63 24) rfl rfl (any_of HT_.out (by kernel_rfl)) (fun _ _ _ h => h) (Or.inl ⟨by rfl, ?_⟩) ?_ ?_
       rotate_left
       ·intro w'
        go_simp
        with_reducible rfl
       rotate_left
       ·simp only [pA, pS, pZ, pK, i64_w, i32_w]
        rfl
       refine pure_ (i := 6) (N := some 78) (v := ?_) (a' := ?_) (bs 127 24) rfl rfl (any_of HT_.out (by kernel_rfl)) (fun _ _ _ h => h) (Or.inl ⟨by rfl, ?_⟩) ?_ ?_
       rotate_left
       ·intro w'
        go_simp
        with_reducible rfl
       rotate_left
       ·simp only [pA, pS, pZ, pK, i64_w, i32_w]
        rfl
       refine pure_ (i := 9) (N := some 81) (v := ?_) (a' := ?_) (bs 639 24) rfl rfl (any_of HT_.out (by kernel_rfl)) (fun _ _ _ h => h) (Or.inl ⟨by rfl, ?_⟩) ?_ ?_
       rotate_left
       ·intro w'
        go_simp
        with_reducible rfl
       rotate_left
       ·simp only [pA, pS, pZ, pK, i64_w, i32_w]
        rfl
       refine pure_ (i := 10) (N := some 82) (v := ?_) (a' := ?_) (bs 1663 24) rfl rfl (any_of HT_.out (by kernel_rfl)) (fun _ _ _ h => h) (Or.inl ⟨by rfl, ?_⟩) ?_ ?_
       rotate_left
       ·intro w'
        go_simp
        with_reducible rfl
       rotate_left
       ·simp only [pA, pS, pZ, pK, i64_w, i32_w]
        rfl
       refine pure_ (i := 11) (N := some 83) (v := ?_) (a' := ?_) (bs 3711 24) rfl rfl (any_of HT_.out (by kernel_rfl)) (fun _ _ _ h => h) (Or.inl ⟨by rfl, ?_⟩) ?_ ?_
       rotate_left
       ·intro w'
        go_simp
        with_reducible rfl
       rotate_left
       ·simp only [pA, pS, pZ, pK, i64_w, i32_w]
        rfl
       refine take_ (i := 7) (N := some 79) (v := ?_) (a' := ?_) (bs 3839 24) rfl rfl (take_ofW HT_.out HW_.out (by kernel_rfl)) (fun _ _ _ h => h) (Or.inl ⟨by rfl, ?_⟩) hHeld ?_ ?_
       rotate_left
       ·rintro w' ⟨s0, s1, s2, s3, s4⟩
        go_simp
        with_reducible rfl
       rotate_left
       ·simp only [pA, pS, pZ, pK, i64_w, i32_w]
        rfl
       refine pure_ (i := 8) (N := some 80) (v := ?_) (a' := ?_) (bs 4095 24) rfl rfl (any_of HT_.out (by kernel_rfl)) (fun _ _ _ h => h) (Or.inl ⟨by rfl, ?_⟩) ?_ ?_
       rotate_left
       ·intro w'
        go_simp
        with_reducible rfl
       rotate_left
       ·simp only [pA, pS, pZ, pK, i64_w, i32_w]
        rfl
       refine take_ (i := 12) (N := some 84) (v := ?_) (a' := ?_) (bs 8191 24) rfl rfl (take_ofW HT_.out HW_.out (by kernel_rfl)) (fun _ _ _ h => h) (Or.inl ⟨by rfl, ?_⟩) hHeld ?_ ?_
       rotate_left
       ·rintro w' ⟨s0, s1, s2, s3, s4⟩
        go_simp
        with_reducible rfl
       rotate_left
       ·simp only [pA, pS, pZ, pK, i64_w, i32_w]
        rfl
       refine pure_ (i := 13) (N := some 85) (v := ?_) (a' := ?_) (bs 16383 24) rfl rfl (any_of HT_.out (by kernel_rfl)) (fun _ _ _ h => h) (Or.inl ⟨by rfl, ?_⟩) ?_ ?_
       rotate_left
       ·intro w'
        go_simp
        with_reducible rfl
       rotate_left
       ·simp only [pA, pS, pZ, pK, i64_w, i32_w]
        rfl
       refine pure_ (i := 14) (N := some 86) (v := ?_) (a' := ?_) (bs 32767 24) rfl rfl (any_of HT_.out (by kernel_rfl)) (fun _ _ _ h => h) (Or.inl ⟨by rfl, ?_⟩) ?_ ?_
       rotate_left
       ·intro w'
        go_simp
        with_reducible rfl
       rotate_left
       ·simp only [pA, pS, pZ, pK, i64_w, i32_w]
        rfl
       refine pure_ (i := 15) (N := some 87) (v := ?_) (a' := ?_) (bs 65535 24) rfl rfl (any_of HT_.out (by kernel_rfl)) (fun _ _ _ h => h) (Or.inl ⟨by rfl, ?_⟩) ?_ ?_
       rotate_left
       ·intro w'
        go_simp
        with_reducible rfl
       rotate_left
       ·simp only [pA, pS, pZ, pK, i64_w, i32_w]
        rfl
       refine pure_ (i := 16) (N := some 88) (v := ?_) (a' := ?_) (bs 131071 24) rfl rfl (any_of HT_.out (by kernel_rfl)) (fun _ _ _ h => h) (Or.inl ⟨by rfl, ?_⟩) ?_ ?_
       rotate_left
       ·intro w'
        go_simp
        with_reducible rfl
       rotate_left
       ·simp only [pA, pS, pZ, pK, i64_w, i32_w]
        rfl
       refine pure_ (i := 17) (N := some 89) (v := ?_) (a' := ?_) (bs 262143 24) rfl rfl (any_of HT_.out (by kernel_rfl)) (fun _ _ _ h => h) (Or.inl ⟨by rfl, ?_⟩) ?_ ?_
       rotate_left
       ·intro w'
        go_simp
        with_reducible rfl
       rotate_left
       ·simp only [pA, pS, pZ, pK, i64_w, i32_w]
        rfl
       refine pure_ (i := 18) (N := some 90) (v := ?_) (a' := ?_) (bs 524287 24) rfl rfl (any_of HT_.out (by kernel_rfl)) (fun _ _ _ h => h) (Or.inl ⟨by rfl, ?_⟩) ?_ ?_
       rotate_left
       ·intro w'
        go_simp
        with_reducible rfl
       rotate_left
       ·simp only [pA, pS, pZ, pK, i64_w, i32_w]
        rfl
       refine pure_ (i := 20) (N := some 92) (v := ?_) (a' := ?_) (bs 1572863 24) rfl rfl (any_of HT_.out (by kernel_rfl)) (fun _ _ _ h => h) (Or.inl ⟨by rfl, ?_⟩) ?_ ?_
       rotate_left
       ·intro w'
        go_simp
        with_reducible rfl
       rotate_left
       ·simp only [pA, pS, pZ, pK, i64_w, i32_w]
        rfl
       refine take_ (i := 19) (N := some 91) (v := ?_) (a' := ?_) (bs 2097151 24) rfl rfl (take_ofW HT_.out HW_.out (by kernel_rfl)) (fun _ _ _ h => h) (Or.inl ⟨by rfl, ?_⟩) hHeld ?_ ?_
       rotate_left
       ·rintro w' ⟨s0, s1, s2, s3, s4⟩
        go_simp
        with_reducible rfl
       rotate_left
       ·simp only [pA, pS, pZ, pK, i64_w, i32_w]
        rfl
       refine pure_ (i := 21) (N := some 93) (v := ?_) (a' := ?_) (bs 4194303 24) rfl rfl (any_of HT_.out (by kernel_rfl)) (fun _ _ _ h => h) (Or.inl ⟨by rfl, ?_⟩) ?_ ?_
       rotate_left
       ·intro w'
        go_simp
        with_reducible rfl
       rotate_left
       ·simp only [pA, pS, pZ, pK, i64_w, i32_w]
        rfl
       refine pure_ (i := 22) (N := some 94) (v := ?_) (a' := ?_) (bs 8388607 24) rfl rfl (any_of HT_.out (by kernel_rfl)) (fun _ _ _ h => h) (Or.inl ⟨by rfl, ?_⟩) ?_ ?_
       rotate_left
       ·intro w'
        go_simp
        with_reducible rfl
       rotate_left
       ·simp only [pA, pS, pZ, pK, i64_w, i32_w]
        rfl
       refine pure_ (i := 23) (N := some 95) (v := ?_) (a' := ?_) (bs 16777215 24) rfl rfl (any_of HT_.out (by kernel_rfl)) (fun _ _ _ h => h) (Or.inl ⟨by rfl, ?_⟩) ?_ ?_
       rotate_left
       ·intro w'
        go_simp
        with_reducible rfl
       rotate_left
       ·simp only [pA, pS, pZ, pK, i64_w, i32_w]
        rfl
       refine done_ (done_of HT_.out (by kernel_rfl)) ?_
       try go_wp2
       go_roundg kj35
       case measure => have := HK1.out; have := HK2.out; have := HJ35.out; omega
       case rel => exact ⟨(wrap64 (x10_2 + 1)), (by first | rfl | (simp; done) | (simp [*]; done)), H', ⟨by have := HK1.out; have := HK2.out; have := HJ35.out; omega⟩, ⟨by (with_reducible repeat (first | apply Kd.R_alloc | apply Kd.R_drewN | apply Kd.R_drew)); exact Kd.R_mono HO_4.out (fun _ hk => trivial)⟩, ⟨by exact RL HO_8.out rfl⟩, ⟨by exact RL HO_9.out rfl⟩, ⟨by (with_reducible repeat (first | apply Kd.V_alloc | apply Kd.V_drewN | apply Kd.V_drew)); exact Kd.V_mono HO_439000.out (fun _ hk => ⟨hk.1.1, ⟨hk.1.2.1, ⟨hk.1.2.2.1, hk.1.2.2.2⟩⟩⟩)⟩, ⟨by (with_reducible repeat (first | refine blk_drewN ?_ _ | refine blk_drew ?_ | refine blk_alloc ?_ _)); exact BK438.out⟩, ⟨by repeat (first | (with_reducible first | exact HB.out | apply below_alloc | apply pw_below_drewN | apply below_drew1 | refine below_set ?_ GE438.out) | exact HB.out)⟩⟩

/-- THE ONE PURE STATEMENT of laws_FnPhantoms: yours. -/
def laws_FnPhantoms.Pure : Prop := ∀ (l0 : List Int), l0.length ≤ maxLen → l0.length * 1 ≤ 140737488351232 → (∀ x ∈ l0, (Lit.int .u8 x).wf = true) → ∃ k, laws_FnPhantoms.f k l0 = some true
theorem laws_FnPhantoms.walk (P : laws_FnPhantoms.Pure) (a0 : Option Addr) (len0 cap0 : Nat) (z0 : List Int) (w : World) (w0 : (a0 = none ∧ len0 = 0 ∧ cap0 = 0 ∧ z0 = []) ∨ ∃ x, a0 = some x ∧ len0 ≤ cap0 ∧ cap0 ≤ maxLen ∧ z0.length = cap0 ∧ (∀ i, i < z0.length → w.cell? (x.add i) = some (.int .u8 (z0.getD i 0))) ∧ ∀ n ∈ z0, (Lit.int .u8 n).wf = true) (y0 : len0 * 1 ≤ 140737488351232) :
  Calls Try.prog 9 #[.slice a0 len0 cap0] w fun e w' => e = .returned (.bool true) ∧ Below w.heap.size w w' := by
 obtain ⟨l0, rfl, hr0, hm0, hw0, hc0⟩ := ReadsInt.ofRowC w0
 obtain ⟨k, h⟩ := P l0 hm0 y0 hw0
 refine (laws_FnPhantoms.calls k _ _ l0 true w (Kd.C_of_reads (d := (0 : Int)) (h1 := fun _ => rfl) hr0) hc0 h).mono ?_
 rintro e w' ⟨rfl, hd⟩
 exact ⟨rfl, hd⟩

end Go.Proofs.Ytpiaeinfneoioaa.PFnPhantoms
