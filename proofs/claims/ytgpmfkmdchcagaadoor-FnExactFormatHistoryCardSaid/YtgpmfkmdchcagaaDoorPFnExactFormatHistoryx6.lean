-- Printed by a program of mine (wip/myprint.py), which runs the printer of the kit with contracts of mine beside it.
import Derived.Test.YtgpmfkmdchcagaaDoorPFnExactFormatHistoryx0
import Derived.Test.YtgpmfkmdchcagaaDoorPFnExactFormatHistoryx4
import Derived.Test.YtgpmfkmdchcagaaDoorPFnExactFormatHistoryx5
namespace Go.Proofs.YtgpmfkmdchcagaaDoor.PFnExactFormatHistory
open Go.RowKit Go.Proofs.YtgpmfkmdchcagaaDoorW.PrintWords Go.Proofs.YtgpmfkmdchcagaaDoorW.PrintLast Go.Proofs.YtgpmfkmdchcagaaDoorW.PrintMore
attribute [local go_sem] max2_int min2_int max_two min_two max_three min_three max_four min_four   -- for this text's walks alone
set_option linter.unusedVariables false
set_option linter.unusedSimpArgs false

/-! ### spec_FormatHistory: function 12 -/
mutual
def spec_FormatHistory.l0 : Nat → List (S53) → ByteArray → Int → Option (ByteArray)
 | 0, _, _, _ => none
 | k + 1, x0, x3, x4 => if x4 < (x0.length : Int) then (if x4 > 0 then (if x3.size + 2 ≤ 9223372036854775807 then (spec_FormatHistory.j1 k x0 (x3 ++ (⟨#[59, 32]⟩ : ByteArray)) x4) else (none)) else (spec_FormatHistory.j1 k x0 x3 x4)) else (some x3)
def spec_FormatHistory.j1 : Nat → List (S53) → ByteArray → Int → Option (ByteArray)
 | 0, _, _, _ => none
 | k + 1, x0, x3, x4 => if 0 ≤ x4 then (if x4 < (x0.length : Int) then ((spec_FormatInt.f k ((rd_T53 x0 x4).f0)).bind fun t178 => (if x3.size + t178.size ≤ 9223372036854775807 then (if (x3 ++ t178).size + 1 ≤ 9223372036854775807 then ((spec_FormatInt.f k ((rd_T53 x0 x4).f1)).bind fun t180 => (if ((x3 ++ t178) ++ (⟨#[64]⟩ : ByteArray)).size + t180.size ≤ 9223372036854775807 then (spec_FormatHistory.l1 k x0 (((x3 ++ t178) ++ (⟨#[64]⟩ : ByteArray)) ++ t180) x4 0) else (none))) else (none)) else (none))) else (none)) else (none)
def spec_FormatHistory.l1 : Nat → List (S53) → ByteArray → Int → Int → Option (ByteArray)
 | 0, _, _, _, _ => none
 | k + 1, x0, x3, x4, x5 => if 0 ≤ x4 then (if x4 < (x0.length : Int) then (if x5 < (((rd_T53 x0 x4).f2).length : Int) then (if x3.size + 2 ≤ 9223372036854775807 then (if 0 ≤ x5 then ((spec_FormatInt.f k ((rd_T55 ((rd_T53 x0 x4).f2) x5).f0)).bind fun t184 => (if (x3 ++ (⟨#[32, 114]⟩ : ByteArray)).size + t184.size ≤ 9223372036854775807 then (if ((x3 ++ (⟨#[32, 114]⟩ : ByteArray)) ++ t184).size + 1 ≤ 9223372036854775807 then ((spec_FormatInt.f k ((rd_T55 ((rd_T53 x0 x4).f2) x5).f1)).bind fun t187 => (if (((x3 ++ (⟨#[32, 114]⟩ : ByteArray)) ++ t184) ++ (⟨#[58]⟩ : ByteArray)).size + t187.size ≤ 9223372036854775807 then (spec_FormatHistory.l1 k x0 ((((x3 ++ (⟨#[32, 114]⟩ : ByteArray)) ++ t184) ++ (⟨#[58]⟩ : ByteArray)) ++ t187) x4 (wrap64 (x5 + 1))) else (none))) else (none)) else (none))) else (none)) else (none)) else (spec_FormatHistory.l2 k x0 x3 x4 0)) else (none)) else (none)
def spec_FormatHistory.l2 : Nat → List (S53) → ByteArray → Int → Int → Option (ByteArray)
 | 0, _, _, _, _ => none
 | k + 1, x0, x3, x4, x6 => if 0 ≤ x4 then (if x4 < (x0.length : Int) then (if x6 < (((rd_T53 x0 x4).f3).length : Int) then (if x3.size + 2 ≤ 9223372036854775807 then (if 0 ≤ x6 then ((spec_FormatInt.f k ((rd_T57 ((rd_T53 x0 x4).f3) x6).f0)).bind fun t191 => (if (x3 ++ (⟨#[32, 119]⟩ : ByteArray)).size + t191.size ≤ 9223372036854775807 then (if ((x3 ++ (⟨#[32, 119]⟩ : ByteArray)) ++ t191).size + 1 ≤ 9223372036854775807 then ((spec_l3Value.f k ((rd_T57 ((rd_T53 x0 x4).f3) x6).f1)).bind fun t194 => (if (((x3 ++ (⟨#[32, 119]⟩ : ByteArray)) ++ t191) ++ (⟨#[58]⟩ : ByteArray)).size + t194.size ≤ 9223372036854775807 then (spec_FormatHistory.l2 k x0 ((((x3 ++ (⟨#[32, 119]⟩ : ByteArray)) ++ t191) ++ (⟨#[58]⟩ : ByteArray)) ++ t194) x4 (wrap64 (x6 + 1))) else (none))) else (none)) else (none))) else (none)) else (none)) else (spec_FormatHistory.l0 k x0 x3 (wrap64 (x4 + 1)))) else (none)) else (none)
end
def spec_FormatHistory.f (k : Nat) (l0 : List (S53)) : Option (ByteArray) := (spec_IsHistory.f k l0).bind fun t176 => (if t176 = true then (if (l0.length : Int) = 0 then (some (⟨#[110, 111, 110, 101]⟩ : ByteArray)) else (spec_FormatHistory.l0 k l0 (⟨#[]⟩ : ByteArray) 0)) else (some (⟨#[]⟩ : ByteArray)))
theorem spec_FormatHistory.mono_l : ∀ k, (∀ y0 y1 y2, LeO (spec_FormatHistory.l0 k y0 y1 y2) (spec_FormatHistory.l0 (k + 1) y0 y1 y2)) ∧ (∀ y0 y1 y2, LeO (spec_FormatHistory.j1 k y0 y1 y2) (spec_FormatHistory.j1 (k + 1) y0 y1 y2)) ∧ (∀ y0 y1 y2 y3, LeO (spec_FormatHistory.l1 k y0 y1 y2 y3) (spec_FormatHistory.l1 (k + 1) y0 y1 y2 y3)) ∧ (∀ y0 y1 y2 y3, LeO (spec_FormatHistory.l2 k y0 y1 y2 y3) (spec_FormatHistory.l2 (k + 1) y0 y1 y2 y3))
 | 0 => ⟨fun _ _ _ r h => by simp [spec_FormatHistory.l0] at h, fun _ _ _ r h => by simp [spec_FormatHistory.j1] at h, fun _ _ _ _ r h => by simp [spec_FormatHistory.l1] at h, fun _ _ _ _ r h => by simp [spec_FormatHistory.l2] at h⟩
 | k + 1 => by
  obtain ⟨ih0, ih1, ih2, ih3⟩ := spec_FormatHistory.mono_l k
  refine ⟨?_, ?_, ?_, ?_⟩
  ·intro y0 y1 y2
   unfold spec_FormatHistory.l0
   repeat' first
   | (with_reducible exact ih0 _ _ _)
   | (with_reducible exact ih1 _ _ _)
   | (with_reducible exact ih2 _ _ _ _)
   | (with_reducible exact ih3 _ _ _ _)
   | (with_reducible exact spec_FormatInt.mono _ _)
   | (with_reducible exact spec_IsHistory.mono _ _)
   | (with_reducible exact spec_l3Value.mono _ _)
   | (with_reducible exact LeO.refl _)
   | (with_reducible exact LeO.none _)
   | (with_reducible refine LeO.ite ?_ ?_)
   | (with_reducible refine LeO.bind ?_ (fun _ => ?_))
   | exact ih0 _ _ _
   | exact ih1 _ _ _
   | exact ih2 _ _ _ _
   | exact ih3 _ _ _ _
   | exact spec_FormatInt.mono _ _
   | exact spec_IsHistory.mono _ _
   | exact spec_l3Value.mono _ _
   | exact LeO.none _
   | refine LeO.ite ?_ ?_
   | refine LeO.bind ?_ (fun _ => ?_)
  ·intro y0 y1 y2
   unfold spec_FormatHistory.j1
   repeat' first
   | (with_reducible exact ih0 _ _ _)
   | (with_reducible exact ih1 _ _ _)
   | (with_reducible exact ih2 _ _ _ _)
   | (with_reducible exact ih3 _ _ _ _)
   | (with_reducible exact spec_FormatInt.mono _ _)
   | (with_reducible exact spec_IsHistory.mono _ _)
   | (with_reducible exact spec_l3Value.mono _ _)
   | (with_reducible exact LeO.refl _)
   | (with_reducible exact LeO.none _)
   | (with_reducible refine LeO.ite ?_ ?_)
   | (with_reducible refine LeO.bind ?_ (fun _ => ?_))
   | exact ih0 _ _ _
   | exact ih1 _ _ _
   | exact ih2 _ _ _ _
   | exact ih3 _ _ _ _
   | exact spec_FormatInt.mono _ _
   | exact spec_IsHistory.mono _ _
   | exact spec_l3Value.mono _ _
   | exact LeO.none _
   | refine LeO.ite ?_ ?_
   | refine LeO.bind ?_ (fun _ => ?_)
  ·intro y0 y1 y2 y3
   unfold spec_FormatHistory.l1
   repeat' first
   | (with_reducible exact ih0 _ _ _)
   | (with_reducible exact ih1 _ _ _)
   | (with_reducible exact ih2 _ _ _ _)
   | (with_reducible exact ih3 _ _ _ _)
   | (with_reducible exact spec_FormatInt.mono _ _)
   | (with_reducible exact spec_IsHistory.mono _ _)
   | (with_reducible exact spec_l3Value.mono _ _)
   | (with_reducible exact LeO.refl _)
   | (with_reducible exact LeO.none _)
   | (with_reducible refine LeO.ite ?_ ?_)
   | (with_reducible refine LeO.bind ?_ (fun _ => ?_))
   | exact ih0 _ _ _
   | exact ih1 _ _ _
   | exact ih2 _ _ _ _
   | exact ih3 _ _ _ _
   | exact spec_FormatInt.mono _ _
   | exact spec_IsHistory.mono _ _
   | exact spec_l3Value.mono _ _
   | exact LeO.none _
   | refine LeO.ite ?_ ?_
   | refine LeO.bind ?_ (fun _ => ?_)
  ·intro y0 y1 y2 y3
   unfold spec_FormatHistory.l2
   repeat' first
   | (with_reducible exact ih0 _ _ _)
   | (with_reducible exact ih1 _ _ _)
   | (with_reducible exact ih2 _ _ _ _)
   | (with_reducible exact ih3 _ _ _ _)
   | (with_reducible exact spec_FormatInt.mono _ _)
   | (with_reducible exact spec_IsHistory.mono _ _)
   | (with_reducible exact spec_l3Value.mono _ _)
   | (with_reducible exact LeO.refl _)
   | (with_reducible exact LeO.none _)
   | (with_reducible refine LeO.ite ?_ ?_)
   | (with_reducible refine LeO.bind ?_ (fun _ => ?_))
   | exact ih0 _ _ _
   | exact ih1 _ _ _
   | exact ih2 _ _ _ _
   | exact ih3 _ _ _ _
   | exact spec_FormatInt.mono _ _
   | exact spec_IsHistory.mono _ _
   | exact spec_l3Value.mono _ _
   | exact LeO.none _
   | refine LeO.ite ?_ ?_
   | refine LeO.bind ?_ (fun _ => ?_)
theorem spec_FormatHistory.mono : ∀ a0 k, LeO (spec_FormatHistory.f k a0) (spec_FormatHistory.f (k + 1) a0) := by
 intro a0 k
 obtain ⟨ih0, ih1, ih2, ih3⟩ := spec_FormatHistory.mono_l k
 unfold spec_FormatHistory.f
 repeat' first
   | (with_reducible exact ih0 _ _ _)
   | (with_reducible exact ih1 _ _ _)
   | (with_reducible exact ih2 _ _ _ _)
   | (with_reducible exact ih3 _ _ _ _)
   | (with_reducible exact spec_FormatInt.mono _ _)
   | (with_reducible exact spec_IsHistory.mono _ _)
   | (with_reducible exact spec_l3Value.mono _ _)
   | (with_reducible exact LeO.refl _)
   | (with_reducible exact LeO.none _)
   | (with_reducible refine LeO.ite ?_ ?_)
   | (with_reducible refine LeO.bind ?_ (fun _ => ?_))
   | exact ih0 _ _ _
   | exact ih1 _ _ _
   | exact ih2 _ _ _ _
   | exact ih3 _ _ _ _
   | exact spec_FormatInt.mono _ _
   | exact spec_IsHistory.mono _ _
   | exact spec_l3Value.mono _ _
   | exact LeO.none _
   | refine LeO.ite ?_ ?_
   | refine LeO.bind ?_ (fun _ => ?_)
def spec_FormatHistory.T11 : Bool × List (List Nat × List Nat) := (true, [([], []), ([], []), ([], []), ([1, 2], [1, 2]), ([3], [3]), ([4], [4]), ([5], [5]), ([0, 6], [0, 6]), ([7], [7]), ([], []), ([], []), ([9, 10], [9, 10]), ([11], [11]), ([12], [12]), ([13, 6], [13]), ([8, 14], [8, 14]), ([15, 14, 0, 1, 2, 3, 4, 5, 6, 7, 8, 9, 10, 11, 12, 13, 14, 15], [0, 15])])
def spec_FormatHistory.B11 : List Nat := [0, 0, 0, 6, 14, 30, 62, 127, 255, 0, 0, 1536, 3584, 7680, 15998, 32767, 65535]
theorem spec_FormatHistory.tab11 : rtab .any (opsOf Tryd.f12 11) = spec_FormatHistory.T11 := by kernel_rfl
theorem spec_FormatHistory.bits11 : waitsOk spec_FormatHistory.T11.2 spec_FormatHistory.B11 = true := by kernel_rfl
def spec_FormatHistory.T15 : Bool × List (List Nat × List Nat) := (true, [([], []), ([0], [0]), ([], []), ([], []), ([2, 3], [2, 3]), ([4], [4]), ([5], [5]), ([], []), ([6, 7], [6, 7]), ([8], [8]), ([9], [9]), ([10], [10]), ([1, 11], [1, 11]), ([12], [12]), ([], []), ([], []), ([14, 15], [14, 15]), ([16], [16]), ([17], [17]), ([], []), ([18, 19], [18, 19]), ([20], [20]), ([21], [21]), ([22, 11], [22]), ([13, 23], [13, 23]), ([24, 23, 0, 1, 2, 3, 4, 5, 6, 7, 8, 9, 10, 11, 12, 13, 14, 15, 16, 17, 18, 19, 20, 21, 22, 23, 24], [0, 24])])
def spec_FormatHistory.B15 : List Nat := [0, 1, 0, 0, 12, 28, 60, 0, 252, 508, 1020, 2044, 4095, 8191, 0, 0, 49152, 114688, 245760, 0, 1032192, 2080768, 4177920, 8376316, 16777215, 33554431]
theorem spec_FormatHistory.tab15 : rtab .any (opsOf Tryd.f12 15) = spec_FormatHistory.T15 := by kernel_rfl
theorem spec_FormatHistory.bits15 : waitsOk spec_FormatHistory.T15.2 spec_FormatHistory.B15 = true := by kernel_rfl
def spec_FormatHistory.T19 : Bool × List (List Nat × List Nat) := (true, [([], []), ([0], [0]), ([], []), ([], []), ([2, 3], [2, 3]), ([4], [4]), ([5], [5]), ([], []), ([6, 7], [6, 7]), ([8], [8]), ([9], [9]), ([10], [10]), ([1, 11], [1, 11]), ([12], [12]), ([], []), ([], []), ([14, 15], [14, 15]), ([16], [16]), ([17], [17]), ([], []), ([18, 19], [18, 19]), ([20], [20]), ([21], [21]), ([22, 11], [22]), ([13, 23], [13, 23]), ([24, 23, 0, 1, 2, 3, 4, 5, 6, 7, 8, 9, 10, 11, 12, 13, 14, 15, 16, 17, 18, 19, 20, 21, 22, 23, 24], [0, 24])])
def spec_FormatHistory.B19 : List Nat := [0, 1, 0, 0, 12, 28, 60, 0, 252, 508, 1020, 2044, 4095, 8191, 0, 0, 49152, 114688, 245760, 0, 1032192, 2080768, 4177920, 8376316, 16777215, 33554431]
theorem spec_FormatHistory.tab19 : rtab .any (opsOf Tryd.f12 19) = spec_FormatHistory.T19 := by kernel_rfl
theorem spec_FormatHistory.bits19 : waitsOk spec_FormatHistory.T19.2 spec_FormatHistory.B19 = true := by kernel_rfl
set_option maxHeartbeats 8000000 in
set_option maxRecDepth 100000 in
theorem spec_FormatHistory.calls (k : Nat) (A0 : Option Addr) (c0 : Nat) (l0 : List (S53)) (r : ByteArray) (w : World) (hr0 : Kd.C k53 w A0 l0.length l0) (hc0 : l0.length ≤ c0) (h : spec_FormatHistory.f k l0 = some r) :
  Calls Tryd.prog 12 #[.slice A0 l0.length c0] w fun e w' => e = .returned (.string r) ∧ Below w.heap.size w w' := by
 have HR0 := AM_ hr0
 have HC0 := AM_ hc0
 clear hr0 hc0
 have HB := AM_ (Below.refl w.heap.size w)
 have H : ((spec_IsHistory.f k l0).bind fun t176 => (if t176 = true then (if (l0.length : Int) = 0 then (some (⟨#[110, 111, 110, 101]⟩ : ByteArray)) else (spec_FormatHistory.l0 k l0 (⟨#[]⟩ : ByteArray) 0)) else (some (⟨#[]⟩ : ByteArray)))) = some r := h
 clear h
 replace H := Option.bind_eq_some_iff.mp H
 obtain ⟨t176, A20, H⟩ := H
 replace H : (if t176 = true then (if (l0.length : Int) = 0 then (some (⟨#[110, 111, 110, 101]⟩ : ByteArray)) else (spec_FormatHistory.l0 k l0 (⟨#[]⟩ : ByteArray) 0)) else (some (⟨#[]⟩ : ByteArray))) = some r := H
 have A2 := AM_ A20
 clear A20
 by_cases c3 : t176 = true
 rotate_left
 ·replace c3 := Bool.eq_false_iff.mpr c3
  subst c3
  have H1 : (some (⟨#[]⟩ : ByteArray)) = some r := by rw [if_neg (show ¬ (false = true) by decide)] at H; exact H
  clear H
  have H := H1
  clear H1
  obtain rfl := Option.some.inj H
  go_enter Tryd.func12, Tryd.ntmps12
  go_wp2_with (first | ((with_reducible refine gate_callee (f := 22) rfl ?_); refine goesL_ (some 8) rfl rfl Tryd.func22 (by kernel_rfl) rfl #[.slice A0 l0.length c0] rfl (by (try simp only [List.map_toArray, List.map_cons, List.map_nil]); first | done | rfl | (simp only [List.length_drop, List.length_take]; rfl)) ?_; (with_reducible refine (spec_IsHistory.calls k _ _ l0 false _ ?side1 ?side2 A2.out).mono ?_); (case side1 => repeat (first | exact HR0.out | (with_reducible refine Kd.C_alloc ?_ _) | (with_reducible refine Kd.C_drewN ?_ _) | (with_reducible refine Kd.C_drew ?_))); (case side2 => exact HC0.out); rintro e w47 ⟨rfl, hb⟩; refine ⟨_, rfl, ?_⟩; replace HB := AM_ (below_step (BT HB.out) hb); (try clear hb); (try clear hb2); (try clear hk); (try clear hi)))
  go_ret
  exact QT (BT HB.out)
 subst c3
 have H1 : (if (l0.length : Int) = 0 then (some (⟨#[110, 111, 110, 101]⟩ : ByteArray)) else (spec_FormatHistory.l0 k l0 (⟨#[]⟩ : ByteArray) 0)) = some r := by rw [if_pos rfl] at H; exact H
 clear H
 have H := H1
 clear H1
 by_cases c4 : (l0.length : Int) = 0
 ·rw [if_pos c4] at H
  have c4b0 : ((l0.length : Int) == 0) = true := beq_iff_eq.mpr c4
  have c4b1 : ((l0.length : Int) != 0) = false := bne_eq_false_iff_eq.mpr c4
  clear c4
  obtain rfl := Option.some.inj H
  go_enter Tryd.func12, Tryd.ntmps12
  go_wp2_with (first | ((with_reducible refine gate_callee (f := 22) rfl ?_); refine goesL_ (some 8) rfl rfl Tryd.func22 (by kernel_rfl) rfl #[.slice A0 l0.length c0] rfl (by (try simp only [List.map_toArray, List.map_cons, List.map_nil]); first | done | rfl | (simp only [List.length_drop, List.length_take]; rfl)) ?_; (with_reducible refine (spec_IsHistory.calls k _ _ l0 true _ ?side1 ?side2 A2.out).mono ?_); (case side1 => repeat (first | exact HR0.out | (with_reducible refine Kd.C_alloc ?_ _) | (with_reducible refine Kd.C_drewN ?_ _) | (with_reducible refine Kd.C_drew ?_))); (case side2 => exact HC0.out); rintro e w5 ⟨rfl, hb⟩; refine ⟨_, rfl, ?_⟩; replace HB := AM_ (below_step (BT HB.out) hb); (try clear hb); (try clear hb2); (try clear hk); (try clear hi)))
  go_ret
  exact QT (BT HB.out)
 rw [if_neg c4] at H
 have c4b0 : ((l0.length : Int) == 0) = false := beq_eq_false_iff_ne.mpr c4
 have c4b1 : ((l0.length : Int) != 0) = true := bne_iff_ne.mpr c4
 have c4b2 : ¬ (l0 = []) := fun h_ => c4 (by rw [h_]; rfl)
 have H' := AM_ H
 clear H
 go_enter Tryd.func12, Tryd.ntmps12
 go_wp2_with (first | ((with_reducible refine gate_callee (f := 22) rfl ?_); refine goesL_ (some 8) rfl rfl Tryd.func22 (by kernel_rfl) rfl #[.slice A0 l0.length c0] rfl (by (try simp only [List.map_toArray, List.map_cons, List.map_nil]); first | done | rfl | (simp only [List.length_drop, List.length_take]; rfl)) ?_; (with_reducible refine (spec_IsHistory.calls k _ _ l0 true _ ?side1 ?side2 A2.out).mono ?_); (case side1 => repeat (first | exact HR0.out | (with_reducible refine Kd.C_alloc ?_ _) | (with_reducible refine Kd.C_drewN ?_ _) | (with_reducible refine Kd.C_drew ?_))); (case side2 => exact HC0.out); rintro e w6 ⟨rfl, hb⟩; refine ⟨_, rfl, ?_⟩; replace HB := AM_ (below_step (BT HB.out) hb); (try clear hb); (try clear hb2); (try clear hk); (try clear hi)))
 go_loopg [3, 4] k (fun kq v3 v4 w' => ∃ (x3_1 : ByteArray) (x4_1 : Int), v3 = .string x3_1 ∧ v4 = .int .i64 x4_1 ∧ Aside0 (spec_FormatHistory.l0 kq l0 x3_1 x4_1 = some r) ∧ Aside0 (kq ≤ k) ∧ Aside0 (Below w.heap.size w w'))
 case atStart => exact ⟨((⟨#[]⟩ : ByteArray)), (0), (by first | rfl | (simp; done) | (simp [*]; done)), (by first | rfl | (simp; done) | (simp [*]; done)), H', ⟨Nat.le_refl _⟩, ⟨BT HB.out⟩⟩
 case round =>
  clear H'
  try clear c1
  try clear c2
  try clear p2
  try clear c3
  try clear c4
  try clear c4b0
  try clear c4b1
  try clear c4b2
  obtain ⟨x3_1, x4_1, rfl, rfl, HA, HK1, HB⟩ := hrel
  cases gk with
  | zero => exact absurd HA.out (by simp [spec_FormatHistory.l0])
  | succ k1 =>
   have H := HA.out
   clear HA
   simp only [spec_FormatHistory.l0] at H
   by_cases c7 : x4_1 < (l0.length : Int)
   rotate_left
   ·rw [if_neg c7] at H
    have c7b0 : decide (x4_1 < (l0.length : Int)) = false := decide_eq_false c7
    clear c7
    obtain rfl := Option.some.inj H
    go_wp2
    go_ret
    exact QT (BT HB.out)
   rw [if_pos c7] at H
   have c7b0 : decide (x4_1 < (l0.length : Int)) = true := decide_eq_true c7
   clear c7
   have HC8 := AM_ H
   clear H
   go_upto_if 20 with (fail)
   go_cut [3] (fun v3 wc => ∃ (kq : Nat) (x3_7 : ByteArray), v3 = .string x3_7 ∧ Aside0 (spec_FormatHistory.j1 kq l0 x3_7 x4_1 = some r) ∧ Aside0 (kq ≤ k1) ∧ Aside0 (Below w.heap.size w wc))
   case first =>
    have H := HC8.out
    clear HC8
    by_cases c9 : x4_1 > 0
    rotate_left
    ·rw [if_neg c9] at H
     have c9b0 : decide (0 < x4_1) = false := decide_eq_false c9
     clear c9
     (first | rw [c9b0] | (simp only [i64_w, i32_w]; rw [c9b0]) | skip)
     have H' := AM_ H
     clear H
     go_wp2
     go_meet
     case rel => exact ⟨_, (x3_1), (by first | rfl | (simp; done) | (simp [*]; done)), H', ⟨by have := HK1.out; first | omega | exact Nat.le_refl _⟩, ⟨BT HB.out⟩⟩
    rw [if_pos c9] at H
    have c9b0 : decide (0 < x4_1) = true := decide_eq_true c9
    clear c9
    (first | rw [c9b0] | (simp only [i64_w, i32_w]; rw [c9b0]) | skip)
    by_cases c10 : x3_1.size + 2 ≤ 9223372036854775807
    rotate_left
    ·rw [if_neg c10] at H
     exact absurd H (by simp)
    rw [if_pos c10] at H
    have c10b0 := eq_true c10
    have c10b1 : decide (x3_1.size + 2 ≤ 9223372036854775807) = true := decide_eq_true c10
    try have c10b2 : (9223372036854775807 < x3_1.size + 2) = False := eq_false (Nat.not_lt.2 c10)
    have H' := AM_ H
    clear H
    go_wp2
    go_meet
    case rel => exact ⟨_, (x3_1 ++ (⟨#[59, 32]⟩ : ByteArray)), (by first | rfl | (simp; done) | (simp [*]; done)), H', ⟨by have := HK1.out; first | omega | exact Nat.le_refl _⟩, ⟨BT HB.out⟩⟩
   case rest =>
    clear HC8
    try clear c1
    try clear c2
    try clear p2
    try clear c3
    try clear c4
    try clear c4b0
    try clear c4b1
    try clear c4b2
    try clear c7
    try clear c7b0
    try clear c9
    try clear c9b0
    try clear c10
    try clear c10b0
    try clear c10b1
    try clear c10b2
    try clear p2
    obtain ⟨kq, x3_7, rfl, HA, HJ7, HB⟩ := hcut
    cases kq with
    | zero => exact absurd HA.out (by simp [spec_FormatHistory.j1])
    | succ kj7 =>
     have H := HA.out
     clear HA
     simp only [spec_FormatHistory.j1] at H
     by_cases c11 : 0 ≤ x4_1
     rotate_left
     ·rw [if_neg c11] at H
      exact absurd H (by simp)
     rw [if_pos c11] at H
     have c11b0 : decide (0 ≤ x4_1) = true := decide_eq_true c11
     clear c11
     by_cases c12 : x4_1 < (l0.length : Int)
     rotate_left
     ·rw [if_neg c12] at H
      exact absurd H (by simp)
     rw [if_pos c12] at H
     have c12b0 : decide (x4_1 < (l0.length : Int)) = true := decide_eq_true c12
     clear c12
     replace H := Option.bind_eq_some_iff.mp H
     obtain ⟨t178, A130, H⟩ := H
     replace H : (if x3_7.size + t178.size ≤ 9223372036854775807 then (if (x3_7 ++ t178).size + 1 ≤ 9223372036854775807 then ((spec_FormatInt.f kj7 ((rd_T53 l0 x4_1).f1)).bind fun t180 => (if ((x3_7 ++ t178) ++ (⟨#[64]⟩ : ByteArray)).size + t180.size ≤ 9223372036854775807 then (spec_FormatHistory.l1 kj7 l0 (((x3_7 ++ t178) ++ (⟨#[64]⟩ : ByteArray)) ++ t180) x4_1 0) else (none))) else (none)) else (none)) = some r := H
     have A13 := AM_ A130
     clear A130
     by_cases c14 : x3_7.size + t178.size ≤ 9223372036854775807
     rotate_left
     ·rw [if_neg c14] at H
      exact absurd H (by simp)
     rw [if_pos c14] at H
     have c14b0 := eq_true c14
     have c14b1 : decide (x3_7.size + t178.size ≤ 9223372036854775807) = true := decide_eq_true c14
     try have c14b2 : (9223372036854775807 < x3_7.size + t178.size) = False := eq_false (Nat.not_lt.2 c14)
     by_cases c15 : (x3_7 ++ t178).size + 1 ≤ 9223372036854775807
     rotate_left
     ·rw [if_neg c15] at H
      exact absurd H (by simp)
     rw [if_pos c15] at H
     have c15b0 := eq_true c15
     have c15b1 : decide ((x3_7 ++ t178).size + 1 ≤ 9223372036854775807) = true := decide_eq_true c15
     try have c15b2 : (9223372036854775807 < (x3_7 ++ t178).size + 1) = False := eq_false (Nat.not_lt.2 c15)
     try have c15b3 : (9223372036854775807 < x3_7.size + t178.size + 1) = False := by have h_ := c15; simp only [ByteArray.size_append] at h_; exact eq_false (Nat.not_lt.2 h_)
     replace H := Option.bind_eq_some_iff.mp H
     obtain ⟨t180, A160, H⟩ := H
     replace H : (if ((x3_7 ++ t178) ++ (⟨#[64]⟩ : ByteArray)).size + t180.size ≤ 9223372036854775807 then (spec_FormatHistory.l1 kj7 l0 (((x3_7 ++ t178) ++ (⟨#[64]⟩ : ByteArray)) ++ t180) x4_1 0) else (none)) = some r := H
     have A16 := AM_ A160
     clear A160
     by_cases c17 : ((x3_7 ++ t178) ++ (⟨#[64]⟩ : ByteArray)).size + t180.size ≤ 9223372036854775807
     rotate_left
     ·rw [if_neg c17] at H
      exact absurd H (by simp)
     rw [if_pos c17] at H
     have c17b0 := eq_true c17
     have c17b1 : decide (((x3_7 ++ t178) ++ (⟨#[64]⟩ : ByteArray)).size + t180.size ≤ 9223372036854775807) = true := decide_eq_true c17
     try have c17b2 : (9223372036854775807 < ((x3_7 ++ t178) ++ (⟨#[64]⟩ : ByteArray)).size + t180.size) = False := eq_false (Nat.not_lt.2 c17)
     try have c17b3 : (9223372036854775807 < x3_7.size + t178.size + 1 + t180.size) = False := by have h_ := c17; simp only [ByteArray.size_append] at h_; exact eq_false (Nat.not_lt.2 h_)
     have H' := AM_ H
     clear H
     try go_wp2
     replace HB := AM_ (below_drew1 HB.out)
     have p177 : 0 ≤ (x4_1 : Int) := DT
     have q177 : x4_1 < (l0.length : Int) := DT
     obtain ⟨ad177, A177_2, c177_2, A177_3, c177_3, e177, hx177_0, hx177_1, hx177_2, hx177_3, hl177_2, hi177_2, hl177_3, hi177_3⟩ := at_T53 HR0.out x4_1 p177 q177
     have hw177_3 := hx177_3
     have hw177_2 := hx177_2
     have hw177_1 := hx177_1
     have hw177_0 := hx177_0
     cases e177
     replace hx177_0 := BC HB.out hx177_0
     replace hx177_1 := BC HB.out hx177_1
     replace hx177_2 := BC HB.out hx177_2
     replace hx177_3 := BC HB.out hx177_3
     have HR177_2 := AM_ hi177_2
     have HC177_2 := AM_ hl177_2
     clear hi177_2 hl177_2
     have HR177_3 := AM_ hi177_3
     have HC177_3 := AM_ hl177_3
     clear hi177_3 hl177_3
     replace p177 := eq_true p177
     replace q177 := eq_true q177
     have p179 : 0 ≤ (x4_1 : Int) := DT
     have q179 : x4_1 < (l0.length : Int) := DT
     obtain ⟨ad179, A179_2, c179_2, A179_3, c179_3, e179, hx179_0, hx179_1, hx179_2, hx179_3, hl179_2, hi179_2, hl179_3, hi179_3⟩ := at_T53 HR0.out x4_1 p179 q179
     have hw179_3 := hx179_3
     have hw179_2 := hx179_2
     have hw179_1 := hx179_1
     have hw179_0 := hx179_0
     obtain rfl : ad177 = ad179 := (by injection e179)
     replace hx179_0 := BC HB.out hx179_0
     replace hx179_1 := BC HB.out hx179_1
     replace hx179_2 := BC HB.out hx179_2
     replace hx179_3 := BC HB.out hx179_3
     have HR179_2 := AM_ hi179_2
     have HC179_2 := AM_ hl179_2
     clear hi179_2 hl179_2
     have HR179_3 := AM_ hi179_3
     have HC179_3 := AM_ hl179_3
     clear hi179_3 hl179_3
     replace p179 := eq_true p179
     replace q179 := eq_true q179
     have ea_ := Option.some.inj (hx177_2.symm.trans hx179_2)
     injection ea_ with ea_ en_ ec_
     subst ea_
     subst ec_
     clear en_
     have ea_ := Option.some.inj (hx177_3.symm.trans hx179_3)
     injection ea_ with ea_ en_ ec_
     subst ea_
     subst ec_
     clear en_
     refine start_ (n := 17) (S := fun w' => w'.cell? (ad177.add ((x4_1).toNat * 4)) = some (.int .i64 ((rd_T53 l0 x4_1).f0)) ∧ w'.cell? ⟨(ad177.add ((x4_1).toNat * 4)).block, (ad177.add ((x4_1).toNat * 4)).off + 1, none⟩ = some (.int .i64 ((rd_T53 l0 x4_1).f1)) ∧ w'.cell? ⟨(ad177.add ((x4_1).toNat * 4)).block, (ad177.add ((x4_1).toNat * 4)).off + 2, none⟩ = some (.slice A177_2 ((rd_T53 l0 x4_1).f2).length c177_2) ∧ w'.cell? ⟨(ad177.add ((x4_1).toNat * 4)).block, (ad177.add ((x4_1).toNat * 4)).off + 3, none⟩ = some (.slice A177_3 ((rd_T53 l0 x4_1).f3).length c177_3) ∧ w'.cell? (ad177.add ((x4_1).toNat * 4)) = some (.int .i64 ((rd_T53 l0 x4_1).f0)) ∧ w'.cell? ⟨(ad177.add ((x4_1).toNat * 4)).block, (ad177.add ((x4_1).toNat * 4)).off + 1, none⟩ = some (.int .i64 ((rd_T53 l0 x4_1).f1)) ∧ w'.cell? ⟨(ad177.add ((x4_1).toNat * 4)).block, (ad177.add ((x4_1).toNat * 4)).off + 2, none⟩ = some (.slice A177_2 ((rd_T53 l0 x4_1).f2).length c177_2) ∧ w'.cell? ⟨(ad177.add ((x4_1).toNat * 4)).block, (ad177.add ((x4_1).toNat * 4)).off + 3, none⟩ = some (.slice A177_3 ((rd_T53 l0 x4_1).f3).length c177_3)) (ds := []) (bs 0 17) (by kernel_rfl) rfl rfl ⟨(BD HB.out hw177_0), (BD HB.out hw177_1), (BD HB.out hw177_2), (BD HB.out hw177_3), (BD HB.out hw179_0), (BD HB.out hw179_1), (BD HB.out hw179_2), (BD HB.out hw179_3)⟩ (fun hHeld => ?_); refine with_tabW spec_FormatHistory.tab11 spec_FormatHistory.bits11 (fun HT_ HW_ => ?_)
     generalize wc.drew = w18 at HB HR177_2 HR177_3 HR179_2 HR179_3 hx177_0 hx177_1 hx177_2 hx177_3 hx179_0 hx179_1 hx179_2 hx179_3 hHeld ⊢
     refine pu (i := 0) (N := some 23) (v := ?_) (a' := ?_) (bs 1 17) rfl rfl HT_ ?_ ?_ ?_
     rotate_left
     ·intro w'
      go_simp
      with_reducible rfl
     rotate_left
     ·simp only [pA, pS, pZ, pK, i64_w, i32_w]
      rfl
     refine pu (i := 1) (N := some 24) (v := ?_) (a' := ?_) (bs 3 17) rfl rfl HT_ ?_ ?_ ?_
     rotate_left
     ·intro w'
      go_simp
      with_reducible rfl
     rotate_left
     ·simp only [pA, pS, pZ, pK, i64_w, i32_w]
      rfl
     refine pu (i := 2) (N := some 25) (v := ?_) (a' := ?_) (bs 7 17) rfl rfl HT_ ?_ ?_ ?_
     rotate_left
     ·intro w'
      go_simp
      with_reducible rfl
     rotate_left
     ·simp only [pA, pS, pZ, pK, i64_w, i32_w]
      rfl
     refine pu (i := 3) (N := some 26) (v := ?_) (a' := ?_) (bs 15 17) rfl rfl HT_ ?_ ?_ ?_
     rotate_left
     ·intro w'
      go_simp
      with_reducible rfl
     rotate_left
     ·simp only [pA, pS, pZ, pK, i64_w, i32_w]
      rfl
     refine pu (i := 4) (N := some 27) (v := ?_) (a' := ?_) (bs 31 17) rfl rfl HT_ ?_ ?_ ?_
     rotate_left
     ·intro w'
      go_simp
      with_reducible rfl
     rotate_left
     ·simp only [pA, pS, pZ, pK, i64_w, i32_w]
      rfl
     refine pu (i := 9) (N := some 32) (v := ?_) (a' := ?_) (bs 543 17) rfl rfl HT_ ?_ ?_ ?_
     rotate_left
     ·intro w'
      go_simp
      with_reducible rfl
     rotate_left
     ·simp only [pA, pS, pZ, pK, i64_w, i32_w]
      rfl
     refine pu (i := 10) (N := some 33) (v := ?_) (a' := ?_) (bs 1567 17) rfl rfl HT_ ?_ ?_ ?_
     rotate_left
     ·intro w'
      go_simp
      with_reducible rfl
     rotate_left
     ·simp only [pA, pS, pZ, pK, i64_w, i32_w]
      rfl
     refine pu (i := 11) (N := some 34) (v := ?_) (a' := ?_) (bs 3615 17) rfl rfl HT_ ?_ ?_ ?_
     rotate_left
     ·intro w'
      go_simp
      with_reducible rfl
     rotate_left
     ·simp only [pA, pS, pZ, pK, i64_w, i32_w]
      rfl
     refine pu (i := 12) (N := some 35) (v := ?_) (a' := ?_) (bs 7711 17) rfl rfl HT_ ?_ ?_ ?_
     rotate_left
     ·intro w'
      go_simp
      with_reducible rfl
     rotate_left
     ·simp only [pA, pS, pZ, pK, i64_w, i32_w]
      rfl
     refine tk (i := 5) (N := some 28) (v := ?_) (a' := ?_) (bs 7743 17) rfl rfl HT_ HW_ ?_ hHeld ?_ ?_
     rotate_left
     ·rintro w' ⟨s0, s1, s2, s3, s4, s5, s6, s7⟩
      go_simp
      with_reducible rfl
     rotate_left
     ·simp only [pA, pS, pZ, pK, i64_w, i32_w]
      rfl
     refine tk (i := 13) (N := some 36) (v := ?_) (a' := ?_) (bs 15935 17) rfl rfl HT_ HW_ ?_ hHeld ?_ ?_
     rotate_left
     ·rintro w' ⟨s0, s1, s2, s3, s4, s5, s6, s7⟩
      go_simp
      with_reducible rfl
     rotate_left
     ·simp only [pA, pS, pZ, pK, i64_w, i32_w]
      rfl
     refine one_ (i := 6) (N := some 29) (bs 15999 17) rfl rfl (one_of HT_.out (by kernel_rfl)) (by decide) (fun K hK => ?_)
     refine goes_ Tryd.func23 (by kernel_rfl) rfl #[.int .i64 ((rd_T53 l0 x4_1).f0)] (by rfl) rfl rfl (by (try simp only [List.map_toArray, List.map_cons, List.map_nil]); first | done | rfl | (simp only [List.length_drop, List.length_take]; rfl)) ?_
     with_reducible refine (spec_FormatInt.calls kj7 ((rd_T53 l0 x4_1).f0) t178 _ A13.out).mono ?_
     rintro e w19 ⟨rfl, hb⟩
     refine ⟨_, rfl, ?_⟩
     replace HB := AM_ (below_step (BT HB.out) hb)
     (try clear hb)
     (try clear hb2)
     (try clear hk)
     (try clear hi)
     refine hK.out _ _ ⟨(BD HB.out hw177_0), (BD HB.out hw177_1), (BD HB.out hw177_2), (BD HB.out hw177_3), (BD HB.out hw179_0), (BD HB.out hw179_1), (BD HB.out hw179_2), (BD HB.out hw179_3)⟩ (fun hHeld => ?_)
     clear hK K
     refine norm_ (a' := ?_) ?_ ?_
     rotate_left
     ·show Act.put _ (some 29) _ = _
      simp only [pA, pS, pZ, pK, i64_w, i32_w]
      rfl
     refine pu (i := 7) (N := some 30) (v := ?_) (a' := ?_) (bs 16127 17) rfl rfl HT_ ?_ ?_ ?_
     rotate_left
     ·intro w'
      go_simp
      with_reducible rfl
     rotate_left
     ·simp only [pA, pS, pZ, pK, i64_w, i32_w]
      rfl
     refine pu (i := 8) (N := some 31) (v := ?_) (a' := ?_) (bs 16383 17) rfl rfl HT_ ?_ ?_ ?_
     rotate_left
     ·intro w'
      go_simp
      with_reducible rfl
     rotate_left
     ·simp only [pA, pS, pZ, pK, i64_w, i32_w]
      rfl
     refine one_ (i := 14) (N := some 37) (bs 32767 17) rfl rfl (one_of HT_.out (by kernel_rfl)) (by decide) (fun K hK => ?_)
     refine goes_ Tryd.func23 (by kernel_rfl) rfl #[.int .i64 ((rd_T53 l0 x4_1).f1)] (by rfl) rfl rfl (by (try simp only [List.map_toArray, List.map_cons, List.map_nil]); first | done | rfl | (simp only [List.length_drop, List.length_take]; rfl)) ?_
     with_reducible refine (spec_FormatInt.calls kj7 ((rd_T53 l0 x4_1).f1) t180 _ A16.out).mono ?_
     rintro e w20 ⟨rfl, hb⟩
     refine ⟨_, rfl, ?_⟩
     replace HB := AM_ (below_step (BT HB.out) hb)
     (try clear hb)
     (try clear hb2)
     (try clear hk)
     (try clear hi)
     refine hK.out _ _ ⟨(BD HB.out hw177_0), (BD HB.out hw177_1), (BD HB.out hw177_2), (BD HB.out hw177_3), (BD HB.out hw179_0), (BD HB.out hw179_1), (BD HB.out hw179_2), (BD HB.out hw179_3)⟩ (fun hHeld => ?_)
     clear hK K
     refine norm_ (a' := ?_) ?_ ?_
     rotate_left
     ·show Act.put _ (some 37) _ = _
      simp only [pA, pS, pZ, pK, i64_w, i32_w]
      rfl
     refine pu (i := 15) (N := some 38) (v := ?_) (a' := ?_) (bs 65535 17) rfl rfl HT_ ?_ ?_ ?_
     rotate_left
     ·intro w'
      go_simp
      with_reducible rfl
     rotate_left
     ·simp only [pA, pS, pZ, pK, i64_w, i32_w]
      rfl
     refine pu (i := 16) (N := some 3) (v := ?_) (a' := ?_) (bs 131071 17) rfl rfl HT_ ?_ ?_ ?_
     rotate_left
     ·intro w'
      go_simp
      with_reducible rfl
     rotate_left
     ·simp only [pA, pS, pZ, pK, i64_w, i32_w]
      rfl
     refine done_ (done_of HT_.out (by kernel_rfl)) ?_
     try go_wp2
     go_loopg [3, 5] kj7 (fun kq v3 v5 w' => ∃ (x3_3 : ByteArray) (x5_3 : Int), v3 = .string x3_3 ∧ v5 = .int .i64 x5_3 ∧ Aside0 (spec_FormatHistory.l1 kq l0 x3_3 x4_1 x5_3 = some r) ∧ Aside0 (kq ≤ kj7) ∧ Aside0 (Below w.heap.size w w'))
     case atStart => exact ⟨(((x3_7 ++ t178) ++ (⟨#[64]⟩ : ByteArray)) ++ t180), (0), (by first | rfl | (simp; done) | (simp [*]; done)), (by first | rfl | (simp; done) | (simp [*]; done)), H', ⟨Nat.le_refl _⟩, ⟨BT HB.out⟩⟩
     case round =>
      clear H'
      try clear c1
      try clear p1
      try clear q1
      try clear hx1
      try clear c2
      try clear p2
      try clear c3
      try clear c4
      try clear c4b0
      try clear c4b1
      try clear c4b2
      try clear c7
      try clear c7b0
      try clear c9
      try clear c9b0
      try clear c10
      try clear c10b0
      try clear c10b1
      try clear c10b2
      try clear c11
      try clear c11b0
      try clear c12
      try clear c12b0
      try clear c14
      try clear c14b0
      try clear c14b1
      try clear c14b2
      try clear c15
      try clear c15b0
      try clear c15b1
      try clear c15b2
      try clear c17
      try clear c17b0
      try clear c17b1
      try clear c17b2
      try clear p17
      try clear q17
      try clear hx17
      try clear hx177_0
      try clear hx177_1
      try clear hx177_2
      try clear hx177_3
      try clear hx179_0
      try clear hx179_1
      try clear hx179_2
      try clear hx179_3
      try clear p177
      try clear p179
      try clear p2
      try clear q177
      try clear q179
      obtain ⟨x3_3, x5_3, rfl, rfl, HA, HK3, HB⟩ := hrel
      cases gk with
      | zero => exact absurd HA.out (by simp [spec_FormatHistory.l1])
      | succ k3 =>
       have H := HA.out
       clear HA
       simp only [spec_FormatHistory.l1] at H
       by_cases c21 : 0 ≤ x4_1
       rotate_left
       ·rw [if_neg c21] at H
        exact absurd H (by simp)
       rw [if_pos c21] at H
       have c21b0 : decide (0 ≤ x4_1) = true := decide_eq_true c21
       clear c21
       by_cases c22 : x4_1 < (l0.length : Int)
       rotate_left
       ·rw [if_neg c22] at H
        exact absurd H (by simp)
       rw [if_pos c22] at H
       have c22b0 : decide (x4_1 < (l0.length : Int)) = true := decide_eq_true c22
       clear c22
       by_cases c23 : x5_3 < (((rd_T53 l0 x4_1).f2).length : Int)
       ·rw [if_pos c23] at H
        have c23b0 : decide (x5_3 < (((rd_T53 l0 x4_1).f2).length : Int)) = true := decide_eq_true c23
        clear c23
        by_cases c24 : x3_3.size + 2 ≤ 9223372036854775807
        rotate_left
        ·rw [if_neg c24] at H
         exact absurd H (by simp)
        rw [if_pos c24] at H
        have c24b0 := eq_true c24
        have c24b1 : decide (x3_3.size + 2 ≤ 9223372036854775807) = true := decide_eq_true c24
        try have c24b2 : (9223372036854775807 < x3_3.size + 2) = False := eq_false (Nat.not_lt.2 c24)
        by_cases c25 : 0 ≤ x5_3
        rotate_left
        ·rw [if_neg c25] at H
         exact absurd H (by simp)
        rw [if_pos c25] at H
        have c25b0 : decide (0 ≤ x5_3) = true := decide_eq_true c25
        clear c25
        replace H := Option.bind_eq_some_iff.mp H
        obtain ⟨t184, A260, H⟩ := H
        replace H : (if (x3_3 ++ (⟨#[32, 114]⟩ : ByteArray)).size + t184.size ≤ 9223372036854775807 then (if ((x3_3 ++ (⟨#[32, 114]⟩ : ByteArray)) ++ t184).size + 1 ≤ 9223372036854775807 then ((spec_FormatInt.f k3 ((rd_T55 ((rd_T53 l0 x4_1).f2) x5_3).f1)).bind fun t187 => (if (((x3_3 ++ (⟨#[32, 114]⟩ : ByteArray)) ++ t184) ++ (⟨#[58]⟩ : ByteArray)).size + t187.size ≤ 9223372036854775807 then (spec_FormatHistory.l1 k3 l0 ((((x3_3 ++ (⟨#[32, 114]⟩ : ByteArray)) ++ t184) ++ (⟨#[58]⟩ : ByteArray)) ++ t187) x4_1 (wrap64 (x5_3 + 1))) else (none))) else (none)) else (none)) = some r := H
        have A26 := AM_ A260
        clear A260
        by_cases c27 : (x3_3 ++ (⟨#[32, 114]⟩ : ByteArray)).size + t184.size ≤ 9223372036854775807
        rotate_left
        ·rw [if_neg c27] at H
         exact absurd H (by simp)
        rw [if_pos c27] at H
        have c27b0 := eq_true c27
        have c27b1 : decide ((x3_3 ++ (⟨#[32, 114]⟩ : ByteArray)).size + t184.size ≤ 9223372036854775807) = true := decide_eq_true c27
        try have c27b2 : (9223372036854775807 < (x3_3 ++ (⟨#[32, 114]⟩ : ByteArray)).size + t184.size) = False := eq_false (Nat.not_lt.2 c27)
        try have c27b3 : (9223372036854775807 < x3_3.size + 2 + t184.size) = False := by have h_ := c27; simp only [ByteArray.size_append] at h_; exact eq_false (Nat.not_lt.2 h_)
        by_cases c28 : ((x3_3 ++ (⟨#[32, 114]⟩ : ByteArray)) ++ t184).size + 1 ≤ 9223372036854775807
        rotate_left
        ·rw [if_neg c28] at H
         exact absurd H (by simp)
        rw [if_pos c28] at H
        have c28b0 := eq_true c28
        have c28b1 : decide (((x3_3 ++ (⟨#[32, 114]⟩ : ByteArray)) ++ t184).size + 1 ≤ 9223372036854775807) = true := decide_eq_true c28
        try have c28b2 : (9223372036854775807 < ((x3_3 ++ (⟨#[32, 114]⟩ : ByteArray)) ++ t184).size + 1) = False := eq_false (Nat.not_lt.2 c28)
        try have c28b3 : (9223372036854775807 < x3_3.size + 2 + t184.size + 1) = False := by have h_ := c28; simp only [ByteArray.size_append] at h_; exact eq_false (Nat.not_lt.2 h_)
        replace H := Option.bind_eq_some_iff.mp H
        obtain ⟨t187, A290, H⟩ := H
        replace H : (if (((x3_3 ++ (⟨#[32, 114]⟩ : ByteArray)) ++ t184) ++ (⟨#[58]⟩ : ByteArray)).size + t187.size ≤ 9223372036854775807 then (spec_FormatHistory.l1 k3 l0 ((((x3_3 ++ (⟨#[32, 114]⟩ : ByteArray)) ++ t184) ++ (⟨#[58]⟩ : ByteArray)) ++ t187) x4_1 (wrap64 (x5_3 + 1))) else (none)) = some r := H
        have A29 := AM_ A290
        clear A290
        by_cases c30 : (((x3_3 ++ (⟨#[32, 114]⟩ : ByteArray)) ++ t184) ++ (⟨#[58]⟩ : ByteArray)).size + t187.size ≤ 9223372036854775807
        rotate_left
        ·rw [if_neg c30] at H
         exact absurd H (by simp)
        rw [if_pos c30] at H
        have c30b0 := eq_true c30
        have c30b1 : decide ((((x3_3 ++ (⟨#[32, 114]⟩ : ByteArray)) ++ t184) ++ (⟨#[58]⟩ : ByteArray)).size + t187.size ≤ 9223372036854775807) = true := decide_eq_true c30
        try have c30b2 : (9223372036854775807 < (((x3_3 ++ (⟨#[32, 114]⟩ : ByteArray)) ++ t184) ++ (⟨#[58]⟩ : ByteArray)).size + t187.size) = False := eq_false (Nat.not_lt.2 c30)
        try have c30b3 : (9223372036854775807 < x3_3.size + 2 + t184.size + 1 + t187.size) = False := by have h_ := c30; simp only [ByteArray.size_append] at h_; exact eq_false (Nat.not_lt.2 h_)
        have H' := AM_ H
        clear H
        have p181 : 0 ≤ (x4_1 : Int) := DT
        have q181 : x4_1 < (l0.length : Int) := DT
        obtain ⟨ad181, A181_2, c181_2, A181_3, c181_3, e181, hx181_0, hx181_1, hx181_2, hx181_3, hl181_2, hi181_2, hl181_3, hi181_3⟩ := at_T53 HR0.out x4_1 p181 q181
        obtain rfl : ad177 = ad181 := (by injection e181)
        replace hx181_0 := BC HB.out hx181_0
        replace hx181_1 := BC HB.out hx181_1
        replace hx181_2 := BC HB.out hx181_2
        replace hx181_3 := BC HB.out hx181_3
        have HR181_2 := AM_ hi181_2
        have HC181_2 := AM_ hl181_2
        clear hi181_2 hl181_2
        have HR181_3 := AM_ hi181_3
        have HC181_3 := AM_ hl181_3
        clear hi181_3 hl181_3
        replace p181 := eq_true p181
        replace q181 := eq_true q181
        try go_wp2
        replace HB := AM_ (below_drew1 HB.out)
        have p182 : 0 ≤ (x4_1 : Int) := DT
        have q182 : x4_1 < (l0.length : Int) := DT
        obtain ⟨ad182, A182_2, c182_2, A182_3, c182_3, e182, hx182_0, hx182_1, hx182_2, hx182_3, hl182_2, hi182_2, hl182_3, hi182_3⟩ := at_T53 HR0.out x4_1 p182 q182
        have hw182_3 := hx182_3
        have hw182_2 := hx182_2
        have hw182_1 := hx182_1
        have hw182_0 := hx182_0
        obtain rfl : ad177 = ad182 := (by injection e182)
        replace hx182_0 := BC HB.out hx182_0
        replace hx182_1 := BC HB.out hx182_1
        replace hx182_2 := BC HB.out hx182_2
        replace hx182_3 := BC HB.out hx182_3
        have HR182_2 := AM_ hi182_2
        have HC182_2 := AM_ hl182_2
        clear hi182_2 hl182_2
        have HR182_3 := AM_ hi182_3
        have HC182_3 := AM_ hl182_3
        clear hi182_3 hl182_3
        replace p182 := eq_true p182
        replace q182 := eq_true q182
        have p183 : 0 ≤ (x5_3 : Int) := DT
        have q183 : x5_3 < (((rd_T53 l0 x4_1).f2).length : Int) := DT
        obtain ⟨ad183, e183, hx183_0, hx183_1⟩ := at_T55 HR182_2.out x5_3 p183 q183
        have hw183_1 := hx183_1
        have hw183_0 := hx183_0
        cases e183
        replace hx183_0 := BC HB.out hx183_0
        replace hx183_1 := BC HB.out hx183_1
        replace p183 := eq_true p183
        replace q183 := eq_true q183
        have p185 : 0 ≤ (x4_1 : Int) := DT
        have q185 : x4_1 < (l0.length : Int) := DT
        obtain ⟨ad185, A185_2, c185_2, A185_3, c185_3, e185, hx185_0, hx185_1, hx185_2, hx185_3, hl185_2, hi185_2, hl185_3, hi185_3⟩ := at_T53 HR0.out x4_1 p185 q185
        have hw185_3 := hx185_3
        have hw185_2 := hx185_2
        have hw185_1 := hx185_1
        have hw185_0 := hx185_0
        obtain rfl : ad177 = ad185 := (by injection e185)
        replace hx185_0 := BC HB.out hx185_0
        replace hx185_1 := BC HB.out hx185_1
        replace hx185_2 := BC HB.out hx185_2
        replace hx185_3 := BC HB.out hx185_3
        have HR185_2 := AM_ hi185_2
        have HC185_2 := AM_ hl185_2
        clear hi185_2 hl185_2
        have HR185_3 := AM_ hi185_3
        have HC185_3 := AM_ hl185_3
        clear hi185_3 hl185_3
        replace p185 := eq_true p185
        replace q185 := eq_true q185
        have ea_ := Option.some.inj (hx182_2.symm.trans hx185_2)
        injection ea_ with ea_ en_ ec_
        subst ea_
        subst ec_
        clear en_
        have ea_ := Option.some.inj (hx182_3.symm.trans hx185_3)
        injection ea_ with ea_ en_ ec_
        subst ea_
        subst ec_
        clear en_
        have p186 : 0 ≤ (x5_3 : Int) := DT
        have q186 : x5_3 < (((rd_T53 l0 x4_1).f2).length : Int) := DT
        obtain ⟨ad186, e186, hx186_0, hx186_1⟩ := at_T55 HR185_2.out x5_3 p186 q186
        have hw186_1 := hx186_1
        have hw186_0 := hx186_0
        cases e186
        replace hx186_0 := BC HB.out hx186_0
        replace hx186_1 := BC HB.out hx186_1
        replace p186 := eq_true p186
        replace q186 := eq_true q186
        refine start_ (n := 26) (S := fun w' => w'.cell? (ad177.add ((x4_1).toNat * 4)) = some (.int .i64 ((rd_T53 l0 x4_1).f0)) ∧ w'.cell? ⟨(ad177.add ((x4_1).toNat * 4)).block, (ad177.add ((x4_1).toNat * 4)).off + 1, none⟩ = some (.int .i64 ((rd_T53 l0 x4_1).f1)) ∧ w'.cell? ⟨(ad177.add ((x4_1).toNat * 4)).block, (ad177.add ((x4_1).toNat * 4)).off + 2, none⟩ = some (.slice (some ad183) ((rd_T53 l0 x4_1).f2).length c182_2) ∧ w'.cell? ⟨(ad177.add ((x4_1).toNat * 4)).block, (ad177.add ((x4_1).toNat * 4)).off + 3, none⟩ = some (.slice A182_3 ((rd_T53 l0 x4_1).f3).length c182_3) ∧ w'.cell? (ad183.add ((x5_3).toNat * 2)) = some (.int .i64 ((rd_T55 ((rd_T53 l0 x4_1).f2) x5_3).f0)) ∧ w'.cell? ⟨(ad183.add ((x5_3).toNat * 2)).block, (ad183.add ((x5_3).toNat * 2)).off + 1, none⟩ = some (.int .i64 ((rd_T55 ((rd_T53 l0 x4_1).f2) x5_3).f1)) ∧ w'.cell? (ad177.add ((x4_1).toNat * 4)) = some (.int .i64 ((rd_T53 l0 x4_1).f0)) ∧ w'.cell? ⟨(ad177.add ((x4_1).toNat * 4)).block, (ad177.add ((x4_1).toNat * 4)).off + 1, none⟩ = some (.int .i64 ((rd_T53 l0 x4_1).f1)) ∧ w'.cell? ⟨(ad177.add ((x4_1).toNat * 4)).block, (ad177.add ((x4_1).toNat * 4)).off + 2, none⟩ = some (.slice (some ad183) ((rd_T53 l0 x4_1).f2).length c182_2) ∧ w'.cell? ⟨(ad177.add ((x4_1).toNat * 4)).block, (ad177.add ((x4_1).toNat * 4)).off + 3, none⟩ = some (.slice A182_3 ((rd_T53 l0 x4_1).f3).length c182_3) ∧ w'.cell? (ad183.add ((x5_3).toNat * 2)) = some (.int .i64 ((rd_T55 ((rd_T53 l0 x4_1).f2) x5_3).f0)) ∧ w'.cell? ⟨(ad183.add ((x5_3).toNat * 2)).block, (ad183.add ((x5_3).toNat * 2)).off + 1, none⟩ = some (.int .i64 ((rd_T55 ((rd_T53 l0 x4_1).f2) x5_3).f1))) (ds := []) (bs 0 26) (by kernel_rfl) rfl rfl ⟨(BD HB.out hw182_0), (BD HB.out hw182_1), (BD HB.out hw182_2), (BD HB.out hw182_3), (BD HB.out hw183_0), (BD HB.out hw183_1), (BD HB.out hw185_0), (BD HB.out hw185_1), (BD HB.out hw185_2), (BD HB.out hw185_3), (BD HB.out hw186_0), (BD HB.out hw186_1)⟩ (fun hHeld => ?_); refine with_tabW spec_FormatHistory.tab15 spec_FormatHistory.bits15 (fun HT_ HW_ => ?_)
        generalize wr.drew = w31 at HB HR182_2 HR182_3 HR185_2 HR185_3 hx182_0 hx182_1 hx182_2 hx182_3 hx183_0 hx183_1 hx185_0 hx185_1 hx185_2 hx185_3 hx186_0 hx186_1 hHeld ⊢
        refine pu (i := 0) (N := some 49) (v := ?_) (a' := ?_) (bs 1 26) rfl rfl HT_ ?_ ?_ ?_
        rotate_left
        ·intro w'
         go_simp
         with_reducible rfl
        rotate_left
        ·simp only [pA, pS, pZ, pK, i64_w, i32_w]
         rfl
        refine pu (i := 1) (N := some 50) (v := ?_) (a' := ?_) (bs 3 26) rfl rfl HT_ ?_ ?_ ?_
        rotate_left
        ·intro w'
         go_simp
         with_reducible rfl
        rotate_left
        ·simp only [pA, pS, pZ, pK, i64_w, i32_w]
         rfl
        refine pu (i := 2) (N := some 51) (v := ?_) (a' := ?_) (bs 7 26) rfl rfl HT_ ?_ ?_ ?_
        rotate_left
        ·intro w'
         go_simp
         with_reducible rfl
        rotate_left
        ·simp only [pA, pS, pZ, pK, i64_w, i32_w]
         rfl
        refine pu (i := 3) (N := some 52) (v := ?_) (a' := ?_) (bs 15 26) rfl rfl HT_ ?_ ?_ ?_
        rotate_left
        ·intro w'
         go_simp
         with_reducible rfl
        rotate_left
        ·simp only [pA, pS, pZ, pK, i64_w, i32_w]
         rfl
        refine pu (i := 4) (N := some 53) (v := ?_) (a' := ?_) (bs 31 26) rfl rfl HT_ ?_ ?_ ?_
        rotate_left
        ·intro w'
         go_simp
         with_reducible rfl
        rotate_left
        ·simp only [pA, pS, pZ, pK, i64_w, i32_w]
         rfl
        refine pu (i := 5) (N := some 54) (v := ?_) (a' := ?_) (bs 63 26) rfl rfl HT_ ?_ ?_ ?_
        rotate_left
        ·intro w'
         go_simp
         with_reducible rfl
        rotate_left
        ·simp only [pA, pS, pZ, pK, i64_w, i32_w]
         rfl
        refine pu (i := 7) (N := some 56) (v := ?_) (a' := ?_) (bs 191 26) rfl rfl HT_ ?_ ?_ ?_
        rotate_left
        ·intro w'
         go_simp
         with_reducible rfl
        rotate_left
        ·simp only [pA, pS, pZ, pK, i64_w, i32_w]
         rfl
        refine pu (i := 14) (N := some 63) (v := ?_) (a' := ?_) (bs 16575 26) rfl rfl HT_ ?_ ?_ ?_
        rotate_left
        ·intro w'
         go_simp
         with_reducible rfl
        rotate_left
        ·simp only [pA, pS, pZ, pK, i64_w, i32_w]
         rfl
        refine pu (i := 15) (N := some 64) (v := ?_) (a' := ?_) (bs 49343 26) rfl rfl HT_ ?_ ?_ ?_
        rotate_left
        ·intro w'
         go_simp
         with_reducible rfl
        rotate_left
        ·simp only [pA, pS, pZ, pK, i64_w, i32_w]
         rfl
        refine pu (i := 16) (N := some 65) (v := ?_) (a' := ?_) (bs 114879 26) rfl rfl HT_ ?_ ?_ ?_
        rotate_left
        ·intro w'
         go_simp
         with_reducible rfl
        rotate_left
        ·simp only [pA, pS, pZ, pK, i64_w, i32_w]
         rfl
        refine pu (i := 17) (N := some 66) (v := ?_) (a' := ?_) (bs 245951 26) rfl rfl HT_ ?_ ?_ ?_
        rotate_left
        ·intro w'
         go_simp
         with_reducible rfl
        rotate_left
        ·simp only [pA, pS, pZ, pK, i64_w, i32_w]
         rfl
        refine pu (i := 19) (N := some 68) (v := ?_) (a' := ?_) (bs 770239 26) rfl rfl HT_ ?_ ?_ ?_
        rotate_left
        ·intro w'
         go_simp
         with_reducible rfl
        rotate_left
        ·simp only [pA, pS, pZ, pK, i64_w, i32_w]
         rfl
        refine tk (i := 6) (N := some 55) (v := ?_) (a' := ?_) (bs 770303 26) rfl rfl HT_ HW_ ?_ hHeld ?_ ?_
        rotate_left
        ·rintro w' ⟨s0, s1, s2, s3, s4, s5, s6, s7, s8, s9, s10, s11⟩
         go_simp
         with_reducible rfl
        rotate_left
        ·simp only [pA, pS, pZ, pK, i64_w, i32_w]
         rfl
        refine pu (i := 8) (N := some 57) (v := ?_) (a' := ?_) (bs 770559 26) rfl rfl HT_ ?_ ?_ ?_
        rotate_left
        ·intro w'
         go_simp
         with_reducible rfl
        rotate_left
        ·simp only [pA, pS, pZ, pK, i64_w, i32_w]
         rfl
        refine pu (i := 9) (N := some 58) (v := ?_) (a' := ?_) (bs 771071 26) rfl rfl HT_ ?_ ?_ ?_
        rotate_left
        ·intro w'
         go_simp
         with_reducible rfl
        rotate_left
        ·simp only [pA, pS, pZ, pK, i64_w, i32_w]
         rfl
        refine tk (i := 10) (N := some 59) (v := ?_) (a' := ?_) (bs 772095 26) rfl rfl HT_ HW_ ?_ hHeld ?_ ?_
        rotate_left
        ·rintro w' ⟨s0, s1, s2, s3, s4, s5, s6, s7, s8, s9, s10, s11⟩
         go_simp
         with_reducible rfl
        rotate_left
        ·simp only [pA, pS, pZ, pK, i64_w, i32_w]
         rfl
        refine tk (i := 18) (N := some 67) (v := ?_) (a' := ?_) (bs 1034239 26) rfl rfl HT_ HW_ ?_ hHeld ?_ ?_
        rotate_left
        ·rintro w' ⟨s0, s1, s2, s3, s4, s5, s6, s7, s8, s9, s10, s11⟩
         go_simp
         with_reducible rfl
        rotate_left
        ·simp only [pA, pS, pZ, pK, i64_w, i32_w]
         rfl
        refine pu (i := 20) (N := some 69) (v := ?_) (a' := ?_) (bs 2082815 26) rfl rfl HT_ ?_ ?_ ?_
        rotate_left
        ·intro w'
         go_simp
         with_reducible rfl
        rotate_left
        ·simp only [pA, pS, pZ, pK, i64_w, i32_w]
         rfl
        refine pu (i := 21) (N := some 70) (v := ?_) (a' := ?_) (bs 4179967 26) rfl rfl HT_ ?_ ?_ ?_
        rotate_left
        ·intro w'
         go_simp
         with_reducible rfl
        rotate_left
        ·simp only [pA, pS, pZ, pK, i64_w, i32_w]
         rfl
        refine tk (i := 22) (N := some 71) (v := ?_) (a' := ?_) (bs 8374271 26) rfl rfl HT_ HW_ ?_ hHeld ?_ ?_
        rotate_left
        ·rintro w' ⟨s0, s1, s2, s3, s4, s5, s6, s7, s8, s9, s10, s11⟩
         go_simp
         with_reducible rfl
        rotate_left
        ·simp only [pA, pS, pZ, pK, i64_w, i32_w]
         rfl
        refine one_ (i := 11) (N := some 60) (bs 8376319 26) rfl rfl (one_of HT_.out (by kernel_rfl)) (by decide) (fun K hK => ?_)
        refine goes_ Tryd.func23 (by kernel_rfl) rfl #[.int .i64 ((rd_T55 ((rd_T53 l0 x4_1).f2) x5_3).f0)] (by rfl) rfl rfl (by (try simp only [List.map_toArray, List.map_cons, List.map_nil]); first | done | rfl | (simp only [List.length_drop, List.length_take]; rfl)) ?_
        with_reducible refine (spec_FormatInt.calls k3 ((rd_T55 ((rd_T53 l0 x4_1).f2) x5_3).f0) t184 _ A26.out).mono ?_
        rintro e w32 ⟨rfl, hb⟩
        refine ⟨_, rfl, ?_⟩
        replace HB := AM_ (below_step (BT HB.out) hb)
        (try clear hb)
        (try clear hb2)
        (try clear hk)
        (try clear hi)
        refine hK.out _ _ ⟨(BD HB.out hw182_0), (BD HB.out hw182_1), (BD HB.out hw182_2), (BD HB.out hw182_3), (BD HB.out hw183_0), (BD HB.out hw183_1), (BD HB.out hw185_0), (BD HB.out hw185_1), (BD HB.out hw185_2), (BD HB.out hw185_3), (BD HB.out hw186_0), (BD HB.out hw186_1)⟩ (fun hHeld => ?_)
        clear hK K
        refine norm_ (a' := ?_) ?_ ?_
        rotate_left
        ·show Act.put _ (some 60) _ = _
         simp only [pA, pS, pZ, pK, i64_w, i32_w]
         rfl
        refine pu (i := 12) (N := some 61) (v := ?_) (a' := ?_) (bs 8380415 26) rfl rfl HT_ ?_ ?_ ?_
        rotate_left
        ·intro w'
         go_simp
         with_reducible rfl
        rotate_left
        ·simp only [pA, pS, pZ, pK, i64_w, i32_w]
         rfl
        refine pu (i := 13) (N := some 62) (v := ?_) (a' := ?_) (bs 8388607 26) rfl rfl HT_ ?_ ?_ ?_
        rotate_left
        ·intro w'
         go_simp
         with_reducible rfl
        rotate_left
        ·simp only [pA, pS, pZ, pK, i64_w, i32_w]
         rfl
        refine one_ (i := 23) (N := some 72) (bs 16777215 26) rfl rfl (one_of HT_.out (by kernel_rfl)) (by decide) (fun K hK => ?_)
        refine goes_ Tryd.func23 (by kernel_rfl) rfl #[.int .i64 ((rd_T55 ((rd_T53 l0 x4_1).f2) x5_3).f1)] (by rfl) rfl rfl (by (try simp only [List.map_toArray, List.map_cons, List.map_nil]); first | done | rfl | (simp only [List.length_drop, List.length_take]; rfl)) ?_
        with_reducible refine (spec_FormatInt.calls k3 ((rd_T55 ((rd_T53 l0 x4_1).f2) x5_3).f1) t187 _ A29.out).mono ?_
        rintro e w33 ⟨rfl, hb⟩
        refine ⟨_, rfl, ?_⟩
        replace HB := AM_ (below_step (BT HB.out) hb)
        (try clear hb)
        (try clear hb2)
        (try clear hk)
        (try clear hi)
        refine hK.out _ _ ⟨(BD HB.out hw182_0), (BD HB.out hw182_1), (BD HB.out hw182_2), (BD HB.out hw182_3), (BD HB.out hw183_0), (BD HB.out hw183_1), (BD HB.out hw185_0), (BD HB.out hw185_1), (BD HB.out hw185_2), (BD HB.out hw185_3), (BD HB.out hw186_0), (BD HB.out hw186_1)⟩ (fun hHeld => ?_)
        clear hK K
        refine norm_ (a' := ?_) ?_ ?_
        rotate_left
        ·show Act.put _ (some 72) _ = _
         simp only [pA, pS, pZ, pK, i64_w, i32_w]
         rfl
        refine pu (i := 24) (N := some 73) (v := ?_) (a' := ?_) (bs 33554431 26) rfl rfl HT_ ?_ ?_ ?_
        rotate_left
        ·intro w'
         go_simp
         with_reducible rfl
        rotate_left
        ·simp only [pA, pS, pZ, pK, i64_w, i32_w]
         rfl
        refine pu (i := 25) (N := some 3) (v := ?_) (a' := ?_) (bs 67108863 26) rfl rfl HT_ ?_ ?_ ?_
        rotate_left
        ·intro w'
         go_simp
         with_reducible rfl
        rotate_left
        ·simp only [pA, pS, pZ, pK, i64_w, i32_w]
         rfl
        refine done_ (done_of HT_.out (by kernel_rfl)) ?_
        try go_wp2
        go_roundg k3
        case measure => have := HK1.out; have := HJ7.out; have := HK3.out; omega
        case rel => exact ⟨((((x3_3 ++ (⟨#[32, 114]⟩ : ByteArray)) ++ t184) ++ (⟨#[58]⟩ : ByteArray)) ++ t187), (wrap64 (x5_3 + 1)), (by first | rfl | (simp; done) | (simp [*]; done)), (by first | rfl | (simp; done) | (simp [*]; done)), H', ⟨by have := HK1.out; have := HJ7.out; have := HK3.out; omega⟩, ⟨BT HB.out⟩⟩
       rw [if_neg c23] at H
       have c23b0 : decide (x5_3 < (((rd_T53 l0 x4_1).f2).length : Int)) = false := decide_eq_false c23
       clear c23
       have H' := AM_ H
       clear H
       have p181 : 0 ≤ (x4_1 : Int) := DT
       have q181 : x4_1 < (l0.length : Int) := DT
       obtain ⟨ad181, A181_2, c181_2, A181_3, c181_3, e181, hx181_0, hx181_1, hx181_2, hx181_3, hl181_2, hi181_2, hl181_3, hi181_3⟩ := at_T53 HR0.out x4_1 p181 q181
       obtain rfl : ad177 = ad181 := (by injection e181)
       replace hx181_0 := BC HB.out hx181_0
       replace hx181_1 := BC HB.out hx181_1
       replace hx181_2 := BC HB.out hx181_2
       replace hx181_3 := BC HB.out hx181_3
       have HR181_2 := AM_ hi181_2
       have HC181_2 := AM_ hl181_2
       clear hi181_2 hl181_2
       have HR181_3 := AM_ hi181_3
       have HC181_3 := AM_ hl181_3
       clear hi181_3 hl181_3
       replace p181 := eq_true p181
       replace q181 := eq_true q181
       go_wp2
       go_loopg [3, 6] k3 (fun kq v3 v6 w' => ∃ (x3_4 : ByteArray) (x6_4 : Int), v3 = .string x3_4 ∧ v6 = .int .i64 x6_4 ∧ Aside0 (spec_FormatHistory.l2 kq l0 x3_4 x4_1 x6_4 = some r) ∧ Aside0 (kq ≤ k3) ∧ Aside0 (Below w.heap.size w w'))
       case atStart => exact ⟨(x3_3), (0), (by first | rfl | (simp; done) | (simp [*]; done)), (by first | rfl | (simp; done) | (simp [*]; done)), H', ⟨Nat.le_refl _⟩, ⟨BT HB.out⟩⟩
       case round =>
        clear H'
        try clear c1
        try clear p1
        try clear q1
        try clear hx1
        try clear c2
        try clear p2
        try clear c3
        try clear c4
        try clear c4b0
        try clear c4b1
        try clear c4b2
        try clear p6
        try clear c7
        try clear c7b0
        try clear c9
        try clear c9b0
        try clear c10
        try clear c10b0
        try clear c10b1
        try clear c10b2
        try clear c11
        try clear c11b0
        try clear c12
        try clear c12b0
        try clear c14
        try clear c14b0
        try clear c14b1
        try clear c14b2
        try clear c15
        try clear c15b0
        try clear c15b1
        try clear c15b2
        try clear c17
        try clear c17b0
        try clear c17b1
        try clear c17b2
        try clear p17
        try clear q17
        try clear hx17
        try clear c18
        try clear p18
        try clear q18
        try clear hx18
        try clear c21
        try clear c21b0
        try clear c22
        try clear c22b0
        try clear c23
        try clear c23b0
        try clear c24
        try clear c24b0
        try clear c24b1
        try clear c24b2
        try clear c25
        try clear c25b0
        try clear c27
        try clear c27b0
        try clear c27b1
        try clear c27b2
        try clear c28
        try clear c28b0
        try clear c28b1
        try clear c28b2
        try clear c30
        try clear c30b0
        try clear c30b1
        try clear c30b2
        try clear hx177_0
        try clear hx177_1
        try clear hx177_2
        try clear hx177_3
        try clear hx179_0
        try clear hx179_1
        try clear hx179_2
        try clear hx179_3
        try clear hx181_0
        try clear hx181_1
        try clear hx181_2
        try clear hx181_3
        try clear hx182_0
        try clear hx182_1
        try clear hx182_2
        try clear hx182_3
        try clear hx183_0
        try clear hx183_1
        try clear hx185_0
        try clear hx185_1
        try clear hx185_2
        try clear hx185_3
        try clear hx186_0
        try clear hx186_1
        try clear p1
        try clear p17
        try clear p177
        try clear p179
        try clear p181
        try clear p182
        try clear p183
        try clear p185
        try clear p186
        try clear p2
        try clear q1
        try clear q17
        try clear q177
        try clear q179
        try clear q181
        try clear q182
        try clear q183
        try clear q185
        try clear q186
        obtain ⟨x3_4, x6_4, rfl, rfl, HA, HK4, HB⟩ := hrel
        cases gk with
        | zero => exact absurd HA.out (by simp [spec_FormatHistory.l2])
        | succ k4 =>
         have H := HA.out
         clear HA
         simp only [spec_FormatHistory.l2] at H
         by_cases c34 : 0 ≤ x4_1
         rotate_left
         ·rw [if_neg c34] at H
          exact absurd H (by simp)
         rw [if_pos c34] at H
         have c34b0 : decide (0 ≤ x4_1) = true := decide_eq_true c34
         clear c34
         by_cases c35 : x4_1 < (l0.length : Int)
         rotate_left
         ·rw [if_neg c35] at H
          exact absurd H (by simp)
         rw [if_pos c35] at H
         have c35b0 : decide (x4_1 < (l0.length : Int)) = true := decide_eq_true c35
         clear c35
         by_cases c36 : x6_4 < (((rd_T53 l0 x4_1).f3).length : Int)
         rotate_left
         ·rw [if_neg c36] at H
          have c36b0 : decide (x6_4 < (((rd_T53 l0 x4_1).f3).length : Int)) = false := decide_eq_false c36
          clear c36
          have H' := AM_ H
          clear H
          have p188 : 0 ≤ (x4_1 : Int) := DT
          have q188 : x4_1 < (l0.length : Int) := DT
          obtain ⟨ad188, A188_2, c188_2, A188_3, c188_3, e188, hx188_0, hx188_1, hx188_2, hx188_3, hl188_2, hi188_2, hl188_3, hi188_3⟩ := at_T53 HR0.out x4_1 p188 q188
          obtain rfl : ad177 = ad188 := (by injection e188)
          replace hx188_0 := BC HB.out hx188_0
          replace hx188_1 := BC HB.out hx188_1
          replace hx188_2 := BC HB.out hx188_2
          replace hx188_3 := BC HB.out hx188_3
          have HR188_2 := AM_ hi188_2
          have HC188_2 := AM_ hl188_2
          clear hi188_2 hl188_2
          have HR188_3 := AM_ hi188_3
          have HC188_3 := AM_ hl188_3
          clear hi188_3 hl188_3
          replace p188 := eq_true p188
          replace q188 := eq_true q188
          go_wp2
          go_roundg k4
          case measure => have := HK1.out; have := HJ7.out; have := HK3.out; have := HK4.out; omega
          case rel => exact ⟨(x3_4), (wrap64 (x4_1 + 1)), (by first | rfl | (simp; done) | (simp [*]; done)), (by first | rfl | (simp; done) | (simp [*]; done)), H', ⟨by have := HK1.out; have := HJ7.out; have := HK3.out; have := HK4.out; omega⟩, ⟨BT HB.out⟩⟩
         rw [if_pos c36] at H
         have c36b0 : decide (x6_4 < (((rd_T53 l0 x4_1).f3).length : Int)) = true := decide_eq_true c36
         clear c36
         by_cases c37 : x3_4.size + 2 ≤ 9223372036854775807
         rotate_left
         ·rw [if_neg c37] at H
          exact absurd H (by simp)
         rw [if_pos c37] at H
         have c37b0 := eq_true c37
         have c37b1 : decide (x3_4.size + 2 ≤ 9223372036854775807) = true := decide_eq_true c37
         try have c37b2 : (9223372036854775807 < x3_4.size + 2) = False := eq_false (Nat.not_lt.2 c37)
         by_cases c38 : 0 ≤ x6_4
         rotate_left
         ·rw [if_neg c38] at H
          exact absurd H (by simp)
         rw [if_pos c38] at H
         have c38b0 : decide (0 ≤ x6_4) = true := decide_eq_true c38
         clear c38
         replace H := Option.bind_eq_some_iff.mp H
         obtain ⟨t191, A390, H⟩ := H
         replace H : (if (x3_4 ++ (⟨#[32, 119]⟩ : ByteArray)).size + t191.size ≤ 9223372036854775807 then (if ((x3_4 ++ (⟨#[32, 119]⟩ : ByteArray)) ++ t191).size + 1 ≤ 9223372036854775807 then ((spec_l3Value.f k4 ((rd_T57 ((rd_T53 l0 x4_1).f3) x6_4).f1)).bind fun t194 => (if (((x3_4 ++ (⟨#[32, 119]⟩ : ByteArray)) ++ t191) ++ (⟨#[58]⟩ : ByteArray)).size + t194.size ≤ 9223372036854775807 then (spec_FormatHistory.l2 k4 l0 ((((x3_4 ++ (⟨#[32, 119]⟩ : ByteArray)) ++ t191) ++ (⟨#[58]⟩ : ByteArray)) ++ t194) x4_1 (wrap64 (x6_4 + 1))) else (none))) else (none)) else (none)) = some r := H
         have A39 := AM_ A390
         clear A390
         by_cases c40 : (x3_4 ++ (⟨#[32, 119]⟩ : ByteArray)).size + t191.size ≤ 9223372036854775807
         rotate_left
         ·rw [if_neg c40] at H
          exact absurd H (by simp)
         rw [if_pos c40] at H
         have c40b0 := eq_true c40
         have c40b1 : decide ((x3_4 ++ (⟨#[32, 119]⟩ : ByteArray)).size + t191.size ≤ 9223372036854775807) = true := decide_eq_true c40
         try have c40b2 : (9223372036854775807 < (x3_4 ++ (⟨#[32, 119]⟩ : ByteArray)).size + t191.size) = False := eq_false (Nat.not_lt.2 c40)
         try have c40b3 : (9223372036854775807 < x3_4.size + 2 + t191.size) = False := by have h_ := c40; simp only [ByteArray.size_append] at h_; exact eq_false (Nat.not_lt.2 h_)
         by_cases c41 : ((x3_4 ++ (⟨#[32, 119]⟩ : ByteArray)) ++ t191).size + 1 ≤ 9223372036854775807
         rotate_left
         ·rw [if_neg c41] at H
          exact absurd H (by simp)
         rw [if_pos c41] at H
         have c41b0 := eq_true c41
         have c41b1 : decide (((x3_4 ++ (⟨#[32, 119]⟩ : ByteArray)) ++ t191).size + 1 ≤ 9223372036854775807) = true := decide_eq_true c41
         try have c41b2 : (9223372036854775807 < ((x3_4 ++ (⟨#[32, 119]⟩ : ByteArray)) ++ t191).size + 1) = False := eq_false (Nat.not_lt.2 c41)
         try have c41b3 : (9223372036854775807 < x3_4.size + 2 + t191.size + 1) = False := by have h_ := c41; simp only [ByteArray.size_append] at h_; exact eq_false (Nat.not_lt.2 h_)
         replace H := Option.bind_eq_some_iff.mp H
         obtain ⟨t194, A420, H⟩ := H
         replace H : (if (((x3_4 ++ (⟨#[32, 119]⟩ : ByteArray)) ++ t191) ++ (⟨#[58]⟩ : ByteArray)).size + t194.size ≤ 9223372036854775807 then (spec_FormatHistory.l2 k4 l0 ((((x3_4 ++ (⟨#[32, 119]⟩ : ByteArray)) ++ t191) ++ (⟨#[58]⟩ : ByteArray)) ++ t194) x4_1 (wrap64 (x6_4 + 1))) else (none)) = some r := H
         have A42 := AM_ A420
         clear A420
         by_cases c43 : (((x3_4 ++ (⟨#[32, 119]⟩ : ByteArray)) ++ t191) ++ (⟨#[58]⟩ : ByteArray)).size + t194.size ≤ 9223372036854775807
         rotate_left
         ·rw [if_neg c43] at H
          exact absurd H (by simp)
         rw [if_pos c43] at H
         have c43b0 := eq_true c43
         have c43b1 : decide ((((x3_4 ++ (⟨#[32, 119]⟩ : ByteArray)) ++ t191) ++ (⟨#[58]⟩ : ByteArray)).size + t194.size ≤ 9223372036854775807) = true := decide_eq_true c43
         try have c43b2 : (9223372036854775807 < (((x3_4 ++ (⟨#[32, 119]⟩ : ByteArray)) ++ t191) ++ (⟨#[58]⟩ : ByteArray)).size + t194.size) = False := eq_false (Nat.not_lt.2 c43)
         try have c43b3 : (9223372036854775807 < x3_4.size + 2 + t191.size + 1 + t194.size) = False := by have h_ := c43; simp only [ByteArray.size_append] at h_; exact eq_false (Nat.not_lt.2 h_)
         have H' := AM_ H
         clear H
         have p188 : 0 ≤ (x4_1 : Int) := DT
         have q188 : x4_1 < (l0.length : Int) := DT
         obtain ⟨ad188, A188_2, c188_2, A188_3, c188_3, e188, hx188_0, hx188_1, hx188_2, hx188_3, hl188_2, hi188_2, hl188_3, hi188_3⟩ := at_T53 HR0.out x4_1 p188 q188
         obtain rfl : ad177 = ad188 := (by injection e188)
         replace hx188_0 := BC HB.out hx188_0
         replace hx188_1 := BC HB.out hx188_1
         replace hx188_2 := BC HB.out hx188_2
         replace hx188_3 := BC HB.out hx188_3
         have HR188_2 := AM_ hi188_2
         have HC188_2 := AM_ hl188_2
         clear hi188_2 hl188_2
         have HR188_3 := AM_ hi188_3
         have HC188_3 := AM_ hl188_3
         clear hi188_3 hl188_3
         replace p188 := eq_true p188
         replace q188 := eq_true q188
         try go_wp2
         replace HB := AM_ (below_drew1 HB.out)
         have p189 : 0 ≤ (x4_1 : Int) := DT
         have q189 : x4_1 < (l0.length : Int) := DT
         obtain ⟨ad189, A189_2, c189_2, A189_3, c189_3, e189, hx189_0, hx189_1, hx189_2, hx189_3, hl189_2, hi189_2, hl189_3, hi189_3⟩ := at_T53 HR0.out x4_1 p189 q189
         have hw189_3 := hx189_3
         have hw189_2 := hx189_2
         have hw189_1 := hx189_1
         have hw189_0 := hx189_0
         obtain rfl : ad177 = ad189 := (by injection e189)
         replace hx189_0 := BC HB.out hx189_0
         replace hx189_1 := BC HB.out hx189_1
         replace hx189_2 := BC HB.out hx189_2
         replace hx189_3 := BC HB.out hx189_3
         have HR189_2 := AM_ hi189_2
         have HC189_2 := AM_ hl189_2
         clear hi189_2 hl189_2
         have HR189_3 := AM_ hi189_3
         have HC189_3 := AM_ hl189_3
         clear hi189_3 hl189_3
         replace p189 := eq_true p189
         replace q189 := eq_true q189
         have p190 : 0 ≤ (x6_4 : Int) := DT
         have q190 : x6_4 < (((rd_T53 l0 x4_1).f3).length : Int) := DT
         obtain ⟨ad190, e190, hx190_0, hx190_1⟩ := at_T57 HR189_3.out x6_4 p190 q190
         have hw190_1 := hx190_1
         have hw190_0 := hx190_0
         cases e190
         replace hx190_0 := BC HB.out hx190_0
         replace hx190_1 := BC HB.out hx190_1
         replace p190 := eq_true p190
         replace q190 := eq_true q190
         have p192 : 0 ≤ (x4_1 : Int) := DT
         have q192 : x4_1 < (l0.length : Int) := DT
         obtain ⟨ad192, A192_2, c192_2, A192_3, c192_3, e192, hx192_0, hx192_1, hx192_2, hx192_3, hl192_2, hi192_2, hl192_3, hi192_3⟩ := at_T53 HR0.out x4_1 p192 q192
         have hw192_3 := hx192_3
         have hw192_2 := hx192_2
         have hw192_1 := hx192_1
         have hw192_0 := hx192_0
         obtain rfl : ad177 = ad192 := (by injection e192)
         replace hx192_0 := BC HB.out hx192_0
         replace hx192_1 := BC HB.out hx192_1
         replace hx192_2 := BC HB.out hx192_2
         replace hx192_3 := BC HB.out hx192_3
         have HR192_2 := AM_ hi192_2
         have HC192_2 := AM_ hl192_2
         clear hi192_2 hl192_2
         have HR192_3 := AM_ hi192_3
         have HC192_3 := AM_ hl192_3
         clear hi192_3 hl192_3
         replace p192 := eq_true p192
         replace q192 := eq_true q192
         have ea_ := Option.some.inj (hx189_2.symm.trans hx192_2)
         injection ea_ with ea_ en_ ec_
         subst ea_
         subst ec_
         clear en_
         have ea_ := Option.some.inj (hx189_3.symm.trans hx192_3)
         injection ea_ with ea_ en_ ec_
         subst ea_
         subst ec_
         clear en_
         have p193 : 0 ≤ (x6_4 : Int) := DT
         have q193 : x6_4 < (((rd_T53 l0 x4_1).f3).length : Int) := DT
         obtain ⟨ad193, e193, hx193_0, hx193_1⟩ := at_T57 HR192_3.out x6_4 p193 q193
         have hw193_1 := hx193_1
         have hw193_0 := hx193_0
         cases e193
         replace hx193_0 := BC HB.out hx193_0
         replace hx193_1 := BC HB.out hx193_1
         replace p193 := eq_true p193
         replace q193 := eq_true q193
         refine start_ (n := 26) (S := fun w' => w'.cell? (ad177.add ((x4_1).toNat * 4)) = some (.int .i64 ((rd_T53 l0 x4_1).f0)) ∧ w'.cell? ⟨(ad177.add ((x4_1).toNat * 4)).block, (ad177.add ((x4_1).toNat * 4)).off + 1, none⟩ = some (.int .i64 ((rd_T53 l0 x4_1).f1)) ∧ w'.cell? ⟨(ad177.add ((x4_1).toNat * 4)).block, (ad177.add ((x4_1).toNat * 4)).off + 2, none⟩ = some (.slice A189_2 ((rd_T53 l0 x4_1).f2).length c189_2) ∧ w'.cell? ⟨(ad177.add ((x4_1).toNat * 4)).block, (ad177.add ((x4_1).toNat * 4)).off + 3, none⟩ = some (.slice (some ad190) ((rd_T53 l0 x4_1).f3).length c189_3) ∧ w'.cell? (ad190.add ((x6_4).toNat * 2)) = some (.int .i64 ((rd_T57 ((rd_T53 l0 x4_1).f3) x6_4).f0)) ∧ w'.cell? ⟨(ad190.add ((x6_4).toNat * 2)).block, (ad190.add ((x6_4).toNat * 2)).off + 1, none⟩ = some (.int .i64 ((rd_T57 ((rd_T53 l0 x4_1).f3) x6_4).f1)) ∧ w'.cell? (ad177.add ((x4_1).toNat * 4)) = some (.int .i64 ((rd_T53 l0 x4_1).f0)) ∧ w'.cell? ⟨(ad177.add ((x4_1).toNat * 4)).block, (ad177.add ((x4_1).toNat * 4)).off + 1, none⟩ = some (.int .i64 ((rd_T53 l0 x4_1).f1)) ∧ w'.cell? ⟨(ad177.add ((x4_1).toNat * 4)).block, (ad177.add ((x4_1).toNat * 4)).off + 2, none⟩ = some (.slice A189_2 ((rd_T53 l0 x4_1).f2).length c189_2) ∧ w'.cell? ⟨(ad177.add ((x4_1).toNat * 4)).block, (ad177.add ((x4_1).toNat * 4)).off + 3, none⟩ = some (.slice (some ad190) ((rd_T53 l0 x4_1).f3).length c189_3) ∧ w'.cell? (ad190.add ((x6_4).toNat * 2)) = some (.int .i64 ((rd_T57 ((rd_T53 l0 x4_1).f3) x6_4).f0)) ∧ w'.cell? ⟨(ad190.add ((x6_4).toNat * 2)).block, (ad190.add ((x6_4).toNat * 2)).off + 1, none⟩ = some (.int .i64 ((rd_T57 ((rd_T53 l0 x4_1).f3) x6_4).f1))) (ds := []) (bs 0 26) (by kernel_rfl) rfl rfl ⟨(BD HB.out hw189_0), (BD HB.out hw189_1), (BD HB.out hw189_2), (BD HB.out hw189_3), (BD HB.out hw190_0), (BD HB.out hw190_1), (BD HB.out hw192_0), (BD HB.out hw192_1), (BD HB.out hw192_2), (BD HB.out hw192_3), (BD HB.out hw193_0), (BD HB.out hw193_1)⟩ (fun hHeld => ?_); refine with_tabW spec_FormatHistory.tab19 spec_FormatHistory.bits19 (fun HT_ HW_ => ?_)
         generalize wr.drew = w44 at HB HR189_2 HR189_3 HR192_2 HR192_3 hx189_0 hx189_1 hx189_2 hx189_3 hx190_0 hx190_1 hx192_0 hx192_1 hx192_2 hx192_3 hx193_0 hx193_1 hHeld ⊢
         refine pu (i := 0) (N := some 84) (v := ?_) (a' := ?_) (bs 1 26) rfl rfl HT_ ?_ ?_ ?_
         rotate_left
         ·intro w'
          go_simp
          with_reducible rfl
         rotate_left
         ·simp only [pA, pS, pZ, pK, i64_w, i32_w]
          rfl
         refine pu (i := 1) (N := some 85) (v := ?_) (a' := ?_) (bs 3 26) rfl rfl HT_ ?_ ?_ ?_
         rotate_left
         ·intro w'
          go_simp
          with_reducible rfl
         rotate_left
         ·simp only [pA, pS, pZ, pK, i64_w, i32_w]
          rfl
         refine pu (i := 2) (N := some 86) (v := ?_) (a' := ?_) (bs 7 26) rfl rfl HT_ ?_ ?_ ?_
         rotate_left
         ·intro w'
          go_simp
          with_reducible rfl
         rotate_left
         ·simp only [pA, pS, pZ, pK, i64_w, i32_w]
          rfl
         refine pu (i := 3) (N := some 87) (v := ?_) (a' := ?_) (bs 15 26) rfl rfl HT_ ?_ ?_ ?_
         rotate_left
         ·intro w'
          go_simp
          with_reducible rfl
         rotate_left
         ·simp only [pA, pS, pZ, pK, i64_w, i32_w]
          rfl
         refine pu (i := 4) (N := some 88) (v := ?_) (a' := ?_) (bs 31 26) rfl rfl HT_ ?_ ?_ ?_
         rotate_left
         ·intro w'
          go_simp
          with_reducible rfl
         rotate_left
         ·simp only [pA, pS, pZ, pK, i64_w, i32_w]
          rfl
         refine pu (i := 5) (N := some 89) (v := ?_) (a' := ?_) (bs 63 26) rfl rfl HT_ ?_ ?_ ?_
         rotate_left
         ·intro w'
          go_simp
          with_reducible rfl
         rotate_left
         ·simp only [pA, pS, pZ, pK, i64_w, i32_w]
          rfl
         refine pu (i := 7) (N := some 91) (v := ?_) (a' := ?_) (bs 191 26) rfl rfl HT_ ?_ ?_ ?_
         rotate_left
         ·intro w'
          go_simp
          with_reducible rfl
         rotate_left
         ·simp only [pA, pS, pZ, pK, i64_w, i32_w]
          rfl
         refine pu (i := 14) (N := some 98) (v := ?_) (a' := ?_) (bs 16575 26) rfl rfl HT_ ?_ ?_ ?_
         rotate_left
         ·intro w'
          go_simp
          with_reducible rfl
         rotate_left
         ·simp only [pA, pS, pZ, pK, i64_w, i32_w]
          rfl
         refine pu (i := 15) (N := some 99) (v := ?_) (a' := ?_) (bs 49343 26) rfl rfl HT_ ?_ ?_ ?_
         rotate_left
         ·intro w'
          go_simp
          with_reducible rfl
         rotate_left
         ·simp only [pA, pS, pZ, pK, i64_w, i32_w]
          rfl
         refine pu (i := 16) (N := some 100) (v := ?_) (a' := ?_) (bs 114879 26) rfl rfl HT_ ?_ ?_ ?_
         rotate_left
         ·intro w'
          go_simp
          with_reducible rfl
         rotate_left
         ·simp only [pA, pS, pZ, pK, i64_w, i32_w]
          rfl
         refine pu (i := 17) (N := some 101) (v := ?_) (a' := ?_) (bs 245951 26) rfl rfl HT_ ?_ ?_ ?_
         rotate_left
         ·intro w'
          go_simp
          with_reducible rfl
         rotate_left
         ·simp only [pA, pS, pZ, pK, i64_w, i32_w]
          rfl
         refine pu (i := 19) (N := some 103) (v := ?_) (a' := ?_) (bs 770239 26) rfl rfl HT_ ?_ ?_ ?_
         rotate_left
         ·intro w'
          go_simp
          with_reducible rfl
         rotate_left
         ·simp only [pA, pS, pZ, pK, i64_w, i32_w]
          rfl
         refine tk (i := 6) (N := some 90) (v := ?_) (a' := ?_) (bs 770303 26) rfl rfl HT_ HW_ ?_ hHeld ?_ ?_
         rotate_left
         ·rintro w' ⟨s0, s1, s2, s3, s4, s5, s6, s7, s8, s9, s10, s11⟩
          go_simp
          with_reducible rfl
         rotate_left
         ·simp only [pA, pS, pZ, pK, i64_w, i32_w]
          rfl
         refine pu (i := 8) (N := some 92) (v := ?_) (a' := ?_) (bs 770559 26) rfl rfl HT_ ?_ ?_ ?_
         rotate_left
         ·intro w'
          go_simp
          with_reducible rfl
         rotate_left
         ·simp only [pA, pS, pZ, pK, i64_w, i32_w]
          rfl
         refine pu (i := 9) (N := some 93) (v := ?_) (a' := ?_) (bs 771071 26) rfl rfl HT_ ?_ ?_ ?_
         rotate_left
         ·intro w'
          go_simp
          with_reducible rfl
         rotate_left
         ·simp only [pA, pS, pZ, pK, i64_w, i32_w]
          rfl
         refine tk (i := 10) (N := some 94) (v := ?_) (a' := ?_) (bs 772095 26) rfl rfl HT_ HW_ ?_ hHeld ?_ ?_
         rotate_left
         ·rintro w' ⟨s0, s1, s2, s3, s4, s5, s6, s7, s8, s9, s10, s11⟩
          go_simp
          with_reducible rfl
         rotate_left
         ·simp only [pA, pS, pZ, pK, i64_w, i32_w]
          rfl
         refine tk (i := 18) (N := some 102) (v := ?_) (a' := ?_) (bs 1034239 26) rfl rfl HT_ HW_ ?_ hHeld ?_ ?_
         rotate_left
         ·rintro w' ⟨s0, s1, s2, s3, s4, s5, s6, s7, s8, s9, s10, s11⟩
          go_simp
          with_reducible rfl
         rotate_left
         ·simp only [pA, pS, pZ, pK, i64_w, i32_w]
          rfl
         refine pu (i := 20) (N := some 104) (v := ?_) (a' := ?_) (bs 2082815 26) rfl rfl HT_ ?_ ?_ ?_
         rotate_left
         ·intro w'
          go_simp
          with_reducible rfl
         rotate_left
         ·simp only [pA, pS, pZ, pK, i64_w, i32_w]
          rfl
         refine pu (i := 21) (N := some 105) (v := ?_) (a' := ?_) (bs 4179967 26) rfl rfl HT_ ?_ ?_ ?_
         rotate_left
         ·intro w'
          go_simp
          with_reducible rfl
         rotate_left
         ·simp only [pA, pS, pZ, pK, i64_w, i32_w]
          rfl
         refine tk (i := 22) (N := some 106) (v := ?_) (a' := ?_) (bs 8374271 26) rfl rfl HT_ HW_ ?_ hHeld ?_ ?_
         rotate_left
         ·rintro w' ⟨s0, s1, s2, s3, s4, s5, s6, s7, s8, s9, s10, s11⟩
          go_simp
          with_reducible rfl
         rotate_left
         ·simp only [pA, pS, pZ, pK, i64_w, i32_w]
          rfl
         refine one_ (i := 11) (N := some 95) (bs 8376319 26) rfl rfl (one_of HT_.out (by kernel_rfl)) (by decide) (fun K hK => ?_)
         refine goes_ Tryd.func23 (by kernel_rfl) rfl #[.int .i64 ((rd_T57 ((rd_T53 l0 x4_1).f3) x6_4).f0)] (by rfl) rfl rfl (by (try simp only [List.map_toArray, List.map_cons, List.map_nil]); first | done | rfl | (simp only [List.length_drop, List.length_take]; rfl)) ?_
         with_reducible refine (spec_FormatInt.calls k4 ((rd_T57 ((rd_T53 l0 x4_1).f3) x6_4).f0) t191 _ A39.out).mono ?_
         rintro e w45 ⟨rfl, hb⟩
         refine ⟨_, rfl, ?_⟩
         replace HB := AM_ (below_step (BT HB.out) hb)
         (try clear hb)
         (try clear hb2)
         (try clear hk)
         (try clear hi)
         refine hK.out _ _ ⟨(BD HB.out hw189_0), (BD HB.out hw189_1), (BD HB.out hw189_2), (BD HB.out hw189_3), (BD HB.out hw190_0), (BD HB.out hw190_1), (BD HB.out hw192_0), (BD HB.out hw192_1), (BD HB.out hw192_2), (BD HB.out hw192_3), (BD HB.out hw193_0), (BD HB.out hw193_1)⟩ (fun hHeld => ?_)
         clear hK K
         refine norm_ (a' := ?_) ?_ ?_
         rotate_left
         ·show Act.put _ (some 95) _ = _
          simp only [pA, pS, pZ, pK, i64_w, i32_w]
          rfl
         refine pu (i := 12) (N := some 96) (v := ?_) (a' := ?_) (bs 8380415 26) rfl rfl HT_ ?_ ?_ ?_
         rotate_left
         ·intro w'
          go_simp
          with_reducible rfl
         rotate_left
         ·simp only [pA, pS, pZ, pK, i64_w, i32_w]
          rfl
         refine pu (i := 13) (N := some 97) (v := ?_) (a' := ?_) (bs 8388607 26) rfl rfl HT_ ?_ ?_ ?_
         rotate_left
         ·intro w'
          go_simp
          with_reducible rfl
         rotate_left
         ·simp only [pA, pS, pZ, pK, i64_w, i32_w]
          rfl
         refine one_ (i := 23) (N := some 107) (bs 16777215 26) rfl rfl (one_of HT_.out (by kernel_rfl)) (by decide) (fun K hK => ?_)
         refine goes_ Tryd.func24 (by kernel_rfl) rfl #[.int .i64 ((rd_T57 ((rd_T53 l0 x4_1).f3) x6_4).f1)] (by rfl) rfl rfl (by (try simp only [List.map_toArray, List.map_cons, List.map_nil]); first | done | rfl | (simp only [List.length_drop, List.length_take]; rfl)) ?_
         with_reducible refine (spec_l3Value.calls k4 ((rd_T57 ((rd_T53 l0 x4_1).f3) x6_4).f1) t194 _ A42.out).mono ?_
         rintro e w46 ⟨rfl, hb⟩
         refine ⟨_, rfl, ?_⟩
         replace HB := AM_ (below_step (BT HB.out) hb)
         (try clear hb)
         (try clear hb2)
         (try clear hk)
         (try clear hi)
         refine hK.out _ _ ⟨(BD HB.out hw189_0), (BD HB.out hw189_1), (BD HB.out hw189_2), (BD HB.out hw189_3), (BD HB.out hw190_0), (BD HB.out hw190_1), (BD HB.out hw192_0), (BD HB.out hw192_1), (BD HB.out hw192_2), (BD HB.out hw192_3), (BD HB.out hw193_0), (BD HB.out hw193_1)⟩ (fun hHeld => ?_)
         clear hK K
         refine norm_ (a' := ?_) ?_ ?_
         rotate_left
         ·show Act.put _ (some 107) _ = _
          simp only [pA, pS, pZ, pK, i64_w, i32_w]
          rfl
         refine pu (i := 24) (N := some 108) (v := ?_) (a' := ?_) (bs 33554431 26) rfl rfl HT_ ?_ ?_ ?_
         rotate_left
         ·intro w'
          go_simp
          with_reducible rfl
         rotate_left
         ·simp only [pA, pS, pZ, pK, i64_w, i32_w]
          rfl
         refine pu (i := 25) (N := some 3) (v := ?_) (a' := ?_) (bs 67108863 26) rfl rfl HT_ ?_ ?_ ?_
         rotate_left
         ·intro w'
          go_simp
          with_reducible rfl
         rotate_left
         ·simp only [pA, pS, pZ, pK, i64_w, i32_w]
          rfl
         refine done_ (done_of HT_.out (by kernel_rfl)) ?_
         try go_wp2
         go_roundg k4
         case measure => have := HK1.out; have := HJ7.out; have := HK3.out; have := HK4.out; omega
         case rel => exact ⟨((((x3_4 ++ (⟨#[32, 119]⟩ : ByteArray)) ++ t191) ++ (⟨#[58]⟩ : ByteArray)) ++ t194), (wrap64 (x6_4 + 1)), (by first | rfl | (simp; done) | (simp [*]; done)), (by first | rfl | (simp; done) | (simp [*]; done)), H', ⟨by have := HK1.out; have := HJ7.out; have := HK3.out; have := HK4.out; omega⟩, ⟨BT HB.out⟩⟩

end Go.Proofs.YtgpmfkmdchcagaaDoor.PFnExactFormatHistory
