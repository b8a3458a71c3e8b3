-- Printed by wip/myprint.py.
import Derived.Test.YtdfbmaiboadodaaGreatDoorPFnExactParseHistoryx5
import Derived.Test.YtdfbmaiboadodaaGreatDoorPFnExactParseHistoryx6
namespace Go.Proofs.YtdfbmaiboadodaaGreatDoor.PFnExactParseHistory
open Go.RowKit Go.Proofs.YtdfbmaiboadodaaGreatDoorW.PrintWords Go.Proofs.YtdfbmaiboadodaaGreatDoorW.PrintLast Go.Proofs.YtdfbmaiboadodaaGreatDoorW.PrintMore
set_option maxHeartbeats 8000000
set_option maxRecDepth 100000
set_option linter.unusedVariables false
set_option linter.unusedSimpArgs false

/-! ### spec_FormatHistory: function 11 -/
mutual
def spec_FormatHistory.l0 : Nat → List (S33) → ByteArray → Int → Option (ByteArray)
 | 0, _, _, _ => none
 | k + 1, x0, x3, x4 => if x4 < (x0.length : Int) then (if x4 > 0 then (if x3.size + 2 ≤ 9223372036854775807 then (spec_FormatHistory.j1 k x0 (x3 ++ (⟨#[59, 32]⟩ : ByteArray)) x4) else (none)) else (spec_FormatHistory.j1 k x0 x3 x4)) else (some x3)
def spec_FormatHistory.j1 : Nat → List (S33) → ByteArray → Int → Option (ByteArray)
 | 0, _, _, _ => none
 | k + 1, x0, x3, x4 => if 0 ≤ x4 then (if x4 < (x0.length : Int) then ((spec_FormatInt.f k ((rd_T33 x0 x4).f0)).bind fun t216 => (if x3.size + t216.size ≤ 9223372036854775807 then (if (x3 ++ t216).size + 1 ≤ 9223372036854775807 then ((spec_FormatInt.f k ((rd_T33 x0 x4).f1)).bind fun t218 => (if ((x3 ++ t216) ++ (⟨#[64]⟩ : ByteArray)).size + t218.size ≤ 9223372036854775807 then (spec_FormatHistory.l1 k x0 (((x3 ++ t216) ++ (⟨#[64]⟩ : ByteArray)) ++ t218) x4 0) else (none))) else (none)) else (none))) else (none)) else (none)
def spec_FormatHistory.l1 : Nat → List (S33) → ByteArray → Int → Int → Option (ByteArray)
 | 0, _, _, _, _ => none
 | k + 1, x0, x3, x4, x5 => if 0 ≤ x4 then (if x4 < (x0.length : Int) then (if x5 < (((rd_T33 x0 x4).f2).length : Int) then (if x3.size + 2 ≤ 9223372036854775807 then (if 0 ≤ x5 then ((spec_FormatInt.f k ((rd_T48 ((rd_T33 x0 x4).f2) x5).f0)).bind fun t222 => (if (x3 ++ (⟨#[32, 114]⟩ : ByteArray)).size + t222.size ≤ 9223372036854775807 then (if ((x3 ++ (⟨#[32, 114]⟩ : ByteArray)) ++ t222).size + 1 ≤ 9223372036854775807 then ((spec_FormatInt.f k ((rd_T48 ((rd_T33 x0 x4).f2) x5).f1)).bind fun t225 => (if (((x3 ++ (⟨#[32, 114]⟩ : ByteArray)) ++ t222) ++ (⟨#[58]⟩ : ByteArray)).size + t225.size ≤ 9223372036854775807 then (spec_FormatHistory.l1 k x0 ((((x3 ++ (⟨#[32, 114]⟩ : ByteArray)) ++ t222) ++ (⟨#[58]⟩ : ByteArray)) ++ t225) x4 (wrap64 (x5 + 1))) else (none))) else (none)) else (none))) else (none)) else (none)) else (spec_FormatHistory.l2 k x0 x3 x4 0)) else (none)) else (none)
def spec_FormatHistory.l2 : Nat → List (S33) → ByteArray → Int → Int → Option (ByteArray)
 | 0, _, _, _, _ => none
 | k + 1, x0, x3, x4, x6 => if 0 ≤ x4 then (if x4 < (x0.length : Int) then (if x6 < (((rd_T33 x0 x4).f3).length : Int) then (if x3.size + 2 ≤ 9223372036854775807 then (if 0 ≤ x6 then ((spec_FormatInt.f k ((rd_T50 ((rd_T33 x0 x4).f3) x6).f0)).bind fun t229 => (if (x3 ++ (⟨#[32, 119]⟩ : ByteArray)).size + t229.size ≤ 9223372036854775807 then (if ((x3 ++ (⟨#[32, 119]⟩ : ByteArray)) ++ t229).size + 1 ≤ 9223372036854775807 then ((spec_l3Value.f k ((rd_T50 ((rd_T33 x0 x4).f3) x6).f1)).bind fun t232 => (if (((x3 ++ (⟨#[32, 119]⟩ : ByteArray)) ++ t229) ++ (⟨#[58]⟩ : ByteArray)).size + t232.size ≤ 9223372036854775807 then (spec_FormatHistory.l2 k x0 ((((x3 ++ (⟨#[32, 119]⟩ : ByteArray)) ++ t229) ++ (⟨#[58]⟩ : ByteArray)) ++ t232) x4 (wrap64 (x6 + 1))) else (none))) else (none)) else (none))) else (none)) else (none)) else (spec_FormatHistory.l0 k x0 x3 (wrap64 (x4 + 1)))) else (none)) else (none)
end
def spec_FormatHistory.f (k : Nat) (l0 : List (S33)) : Option (ByteArray) := (spec_IsHistory.f k l0).bind fun t214 => (if t214 = true then (if (l0.length : Int) = 0 then (some (⟨#[110, 111, 110, 101]⟩ : ByteArray)) else (spec_FormatHistory.l0 k l0 (⟨#[]⟩ : ByteArray) 0)) else (some (⟨#[]⟩ : ByteArray)))
theorem spec_FormatHistory.mono_l : ∀ k, (∀ y0 y1 y2, LeO (spec_FormatHistory.l0 k y0 y1 y2) (spec_FormatHistory.l0 (k + 1) y0 y1 y2)) ∧ (∀ y0 y1 y2, LeO (spec_FormatHistory.j1 k y0 y1 y2) (spec_FormatHistory.j1 (k + 1) y0 y1 y2)) ∧ (∀ y0 y1 y2 y3, LeO (spec_FormatHistory.l1 k y0 y1 y2 y3) (spec_FormatHistory.l1 (k + 1) y0 y1 y2 y3)) ∧ (∀ y0 y1 y2 y3, LeO (spec_FormatHistory.l2 k y0 y1 y2 y3) (spec_FormatHistory.l2 (k + 1) y0 y1 y2 y3))
 | 0 => ⟨fun _ _ _ r h => by simp [spec_FormatHistory.l0] at h, fun _ _ _ r h => by simp [spec_FormatHistory.j1] at h, fun _ _ _ _ r h => by simp [spec_FormatHistory.l1] at h, fun _ _ _ _ r h => by simp [spec_FormatHistory.l2] at h⟩
 | k + 1 => by
  obtain ⟨ih0, ih1, ih2, ih3⟩ := spec_FormatHistory.mono_l k
  refine ⟨?_, ?_, ?_, ?_⟩
  ·intro y0 y1 y2
   unfold spec_FormatHistory.l0
   repeat' first
   | (with_reducible exact ih0 _ _ _)
   | (with_reducible exact ih1 _ _ _)
   | (with_reducible exact ih2 _ _ _ _)
   | (with_reducible exact ih3 _ _ _ _)
   | (with_reducible exact spec_FormatInt.mono _ _)
   | (with_reducible exact spec_IsHistory.mono _ _)
   | (with_reducible exact spec_l3Value.mono _ _)
   | (with_reducible first | exact LeO.refl _ | exact LeO.none _ | refine LeO.ite ?_ ?_ | refine LeO.bind ?_ (fun _ => ?_))
   | exact ih0 _ _ _
   | exact ih1 _ _ _
   | exact ih2 _ _ _ _
   | exact ih3 _ _ _ _
   | exact spec_FormatInt.mono _ _
   | exact spec_IsHistory.mono _ _
   | exact spec_l3Value.mono _ _
   | exact LeO.none _ | refine LeO.ite ?_ ?_ | refine LeO.bind ?_ (fun _ => ?_)
  ·intro y0 y1 y2
   unfold spec_FormatHistory.j1
   repeat' first
   | (with_reducible exact ih0 _ _ _)
   | (with_reducible exact ih1 _ _ _)
   | (with_reducible exact ih2 _ _ _ _)
   | (with_reducible exact ih3 _ _ _ _)
   | (with_reducible exact spec_FormatInt.mono _ _)
   | (with_reducible exact spec_IsHistory.mono _ _)
   | (with_reducible exact spec_l3Value.mono _ _)
   | (with_reducible first | exact LeO.refl _ | exact LeO.none _ | refine LeO.ite ?_ ?_ | refine LeO.bind ?_ (fun _ => ?_))
   | exact ih0 _ _ _
   | exact ih1 _ _ _
   | exact ih2 _ _ _ _
   | exact ih3 _ _ _ _
   | exact spec_FormatInt.mono _ _
   | exact spec_IsHistory.mono _ _
   | exact spec_l3Value.mono _ _
   | exact LeO.none _ | refine LeO.ite ?_ ?_ | refine LeO.bind ?_ (fun _ => ?_)
  ·intro y0 y1 y2 y3
   unfold spec_FormatHistory.l1
   repeat' first
   | (with_reducible exact ih0 _ _ _)
   | (with_reducible exact ih1 _ _ _)
   | (with_reducible exact ih2 _ _ _ _)
   | (with_reducible exact ih3 _ _ _ _)
   | (with_reducible exact spec_FormatInt.mono _ _)
   | (with_reducible exact spec_IsHistory.mono _ _)
   | (with_reducible exact spec_l3Value.mono _ _)
   | (with_reducible first | exact LeO.refl _ | exact LeO.none _ | refine LeO.ite ?_ ?_ | refine LeO.bind ?_ (fun _ => ?_))
   | exact ih0 _ _ _
   | exact ih1 _ _ _
   | exact ih2 _ _ _ _
   | exact ih3 _ _ _ _
   | exact spec_FormatInt.mono _ _
   | exact spec_IsHistory.mono _ _
   | exact spec_l3Value.mono _ _
   | exact LeO.none _ | refine LeO.ite ?_ ?_ | refine LeO.bind ?_ (fun _ => ?_)
  ·intro y0 y1 y2 y3
   unfold spec_FormatHistory.l2
   repeat' first
   | (with_reducible exact ih0 _ _ _)
   | (with_reducible exact ih1 _ _ _)
   | (with_reducible exact ih2 _ _ _ _)
   | (with_reducible exact ih3 _ _ _ _)
   | (with_reducible exact spec_FormatInt.mono _ _)
   | (with_reducible exact spec_IsHistory.mono _ _)
   | (with_reducible exact spec_l3Value.mono _ _)
   | (with_reducible first | exact LeO.refl _ | exact LeO.none _ | refine LeO.ite ?_ ?_ | refine LeO.bind ?_ (fun _ => ?_))
   | exact ih0 _ _ _
   | exact ih1 _ _ _
   | exact ih2 _ _ _ _
   | exact ih3 _ _ _ _
   | exact spec_FormatInt.mono _ _
   | exact spec_IsHistory.mono _ _
   | exact spec_l3Value.mono _ _
   | exact LeO.none _ | refine LeO.ite ?_ ?_ | refine LeO.bind ?_ (fun _ => ?_)
theorem spec_FormatHistory.mono : ∀ a0 k, LeO (spec_FormatHistory.f k a0) (spec_FormatHistory.f (k + 1) a0) := by
 intro a0 k
 obtain ⟨ih0, ih1, ih2, ih3⟩ := spec_FormatHistory.mono_l k
 unfold spec_FormatHistory.f
 repeat' first
   | (with_reducible exact ih0 _ _ _)
   | (with_reducible exact ih1 _ _ _)
   | (with_reducible exact ih2 _ _ _ _)
   | (with_reducible exact ih3 _ _ _ _)
   | (with_reducible exact spec_FormatInt.mono _ _)
   | (with_reducible exact spec_IsHistory.mono _ _)
   | (with_reducible exact spec_l3Value.mono _ _)
   | (with_reducible first | exact LeO.refl _ | exact LeO.none _ | refine LeO.ite ?_ ?_ | refine LeO.bind ?_ (fun _ => ?_))
   | exact ih0 _ _ _
   | exact ih1 _ _ _
   | exact ih2 _ _ _ _
   | exact ih3 _ _ _ _
   | exact spec_FormatInt.mono _ _
   | exact spec_IsHistory.mono _ _
   | exact spec_l3Value.mono _ _
   | exact LeO.none _ | refine LeO.ite ?_ ?_ | refine LeO.bind ?_ (fun _ => ?_)
def spec_FormatHistory.T11 : Bool × List (List Nat × List Nat) := (true, [([], []), ([], []), ([], []), ([1, 2], [1, 2]), ([3], [3]), ([4], [4]), ([5], [5]), ([0, 6], [0, 6]), ([7], [7]), ([], []), ([], []), ([9, 10], [9, 10]), ([11], [11]), ([12], [12]), ([13, 6], [13]), ([8, 14], [8, 14]), ([15, 14, 0, 1, 2, 3, 4, 5, 6, 7, 8, 9, 10, 11, 12, 13, 14, 15], [0, 15])])
def spec_FormatHistory.B11 : List Nat := [0, 0, 0, 6, 14, 30, 62, 127, 255, 0, 0, 1536, 3584, 7680, 15998, 32767, 65535]
theorem spec_FormatHistory.tab11 : rtab .any (opsOf Tryz.f11 11) = spec_FormatHistory.T11 := by kernel_rfl
theorem spec_FormatHistory.bits11 : waitsOk spec_FormatHistory.T11.2 spec_FormatHistory.B11 = true := by kernel_rfl
def spec_FormatHistory.T15 : Bool × List (List Nat × List Nat) := (true, [([], []), ([0], [0]), ([], []), ([], []), ([2, 3], [2, 3]), ([4], [4]), ([5], [5]), ([], []), ([6, 7], [6, 7]), ([8], [8]), ([9], [9]), ([10], [10]), ([1, 11], [1, 11]), ([12], [12]), ([], []), ([], []), ([14, 15], [14, 15]), ([16], [16]), ([17], [17]), ([], []), ([18, 19], [18, 19]), ([20], [20]), ([21], [21]), ([22, 11], [22]), ([13, 23], [13, 23]), ([24, 23, 0, 1, 2, 3, 4, 5, 6, 7, 8, 9, 10, 11, 12, 13, 14, 15, 16, 17, 18, 19, 20, 21, 22, 23, 24], [0, 24])])
def spec_FormatHistory.B15 : List Nat := [0, 1, 0, 0, 12, 28, 60, 0, 252, 508, 1020, 2044, 4095, 8191, 0, 0, 49152, 114688, 245760, 0, 1032192, 2080768, 4177920, 8376316, 16777215, 33554431]
theorem spec_FormatHistory.tab15 : rtab .any (opsOf Tryz.f11 15) = spec_FormatHistory.T15 := by kernel_rfl
theorem spec_FormatHistory.bits15 : waitsOk spec_FormatHistory.T15.2 spec_FormatHistory.B15 = true := by kernel_rfl
def spec_FormatHistory.T19 : Bool × List (List Nat × List Nat) := (true, [([], []), ([0], [0]), ([], []), ([], []), ([2, 3], [2, 3]), ([4], [4]), ([5], [5]), ([], []), ([6, 7], [6, 7]), ([8], [8]), ([9], [9]), ([10], [10]), ([1, 11], [1, 11]), ([12], [12]), ([], []), ([], []), ([14, 15], [14, 15]), ([16], [16]), ([17], [17]), ([], []), ([18, 19], [18, 19]), ([20], [20]), ([21], [21]), ([22, 11], [22]), ([13, 23], [13, 23]), ([24, 23, 0, 1, 2, 3, 4, 5, 6, 7, 8, 9, 10, 11, 12, 13, 14, 15, 16, 17, 18, 19, 20, 21, 22, 23, 24], [0, 24])])
def spec_FormatHistory.B19 : List Nat := [0, 1, 0, 0, 12, 28, 60, 0, 252, 508, 1020, 2044, 4095, 8191, 0, 0, 49152, 114688, 245760, 0, 1032192, 2080768, 4177920, 8376316, 16777215, 33554431]
theorem spec_FormatHistory.tab19 : rtab .any (opsOf Tryz.f11 19) = spec_FormatHistory.T19 := by kernel_rfl
theorem spec_FormatHistory.bits19 : waitsOk spec_FormatHistory.T19.2 spec_FormatHistory.B19 = true := by kernel_rfl
theorem spec_FormatHistory.calls (k : Nat) (A0 : Option Addr) (c0 : Nat) (l0 : List (S33)) (r : ByteArray) (w : World) (hr0 : Kd.C k33 w A0 l0.length l0) (hc0 : l0.length ≤ c0) (h : spec_FormatHistory.f k l0 = some r) :
  Calls Tryz.prog 11 #[.slice A0 l0.length c0] w fun e w' => e = .returned (.string r) ∧ Below w.heap.size w w' := by
 have HR0 := AM_ hr0
 have HC0 := AM_ hc0
 clear hr0 hc0
 have HB := AM_ (Below.refl w.heap.size w)
 have H : ((spec_IsHistory.f k l0).bind fun t214 => (if t214 = true then (if (l0.length : Int) = 0 then (some (⟨#[110, 111, 110, 101]⟩ : ByteArray)) else (spec_FormatHistory.l0 k l0 (⟨#[]⟩ : ByteArray) 0)) else (some (⟨#[]⟩ : ByteArray)))) = some r := h
 clear h
 replace H := Option.bind_eq_some_iff.mp H
 obtain ⟨t214, A20, H⟩ := H
 replace H : (if t214 = true then (if (l0.length : Int) = 0 then (some (⟨#[110, 111, 110, 101]⟩ : ByteArray)) else (spec_FormatHistory.l0 k l0 (⟨#[]⟩ : ByteArray) 0)) else (some (⟨#[]⟩ : ByteArray))) = some r := H
 have A2 := AM_ A20
 clear A20
 by_cases c3 : t214 = true
 rotate_left
 ·replace c3 := Bool.eq_false_iff.mpr c3
  subst c3
  have H1 : (some (⟨#[]⟩ : ByteArray)) = some r := by rw [if_neg (show ¬ (false = true) by decide)] at H; exact H
  clear H
  have H := H1
  clear H1
  obtain rfl := Option.some.inj H
  go_enter Tryz.func11, Tryz.ntmps11
  go_wp2_with (first | ((with_reducible refine gate_callee (f := 24) rfl ?_); refine goesL_ (some 8) rfl rfl Tryz.func24 (by kernel_rfl) rfl #[.slice A0 l0.length c0] rfl (by (try simp only [List.map_toArray, List.map_cons, List.map_nil]); first | done | rfl | (simp only [List.length_drop, List.length_take]; rfl)) ?_; (with_reducible refine (spec_IsHistory.calls k _ _ l0 false _ ?side1 ?side2 A2.out).mono ?_); (case side1 => repeat (first | exact HR0.out | (with_reducible refine Kd.C_alloc ?_ _) | (with_reducible refine Kd.C_drewN ?_ _) | (with_reducible refine Kd.C_drew ?_))); (case side2 => exact HC0.out); rintro e w47 ⟨rfl, hb⟩; refine ⟨_, rfl, ?_⟩; replace HB := AM_ (below_step (BT HB.out) hb); (try clear hb); (try clear hb2); (try clear hk); (try clear hi)))
  go_ret
  exact QT (BT HB.out)
 subst c3
 have H1 : (if (l0.length : Int) = 0 then (some (⟨#[110, 111, 110, 101]⟩ : ByteArray)) else (spec_FormatHistory.l0 k l0 (⟨#[]⟩ : ByteArray) 0)) = some r := by rw [if_pos rfl] at H; exact H
 clear H
 have H := H1
 clear H1
 by_cases c4 : (l0.length : Int) = 0
 ·rw [if_pos c4] at H
  have c4b0 : ((l0.length : Int) == 0) = true := beq_iff_eq.mpr c4
  have c4b1 : ((l0.length : Int) != 0) = false := bne_eq_false_iff_eq.mpr c4
  clear c4
  obtain rfl := Option.some.inj H
  go_enter Tryz.func11, Tryz.ntmps11
  go_wp2_with (first | ((with_reducible refine gate_callee (f := 24) rfl ?_); refine goesL_ (some 8) rfl rfl Tryz.func24 (by kernel_rfl) rfl #[.slice A0 l0.length c0] rfl (by (try simp only [List.map_toArray, List.map_cons, List.map_nil]); first | done | rfl | (simp only [List.length_drop, List.length_take]; rfl)) ?_; (with_reducible refine (spec_IsHistory.calls k _ _ l0 true _ ?side1 ?side2 A2.out).mono ?_); (case side1 => repeat (first | exact HR0.out | (with_reducible refine Kd.C_alloc ?_ _) | (with_reducible refine Kd.C_drewN ?_ _) | (with_reducible refine Kd.C_drew ?_))); (case side2 => exact HC0.out); rintro e w5 ⟨rfl, hb⟩; refine ⟨_, rfl, ?_⟩; replace HB := AM_ (below_step (BT HB.out) hb); (try clear hb); (try clear hb2); (try clear hk); (try clear hi)))
  go_ret
  exact QT (BT HB.out)
 rw [if_neg c4] at H
 have c4b0 : ((l0.length : Int) == 0) = false := beq_eq_false_iff_ne.mpr c4
 have c4b1 : ((l0.length : Int) != 0) = true := bne_iff_ne.mpr c4
 have c4b2 : ¬ (l0 = []) := fun h_ => c4 (by rw [h_]; rfl)
 have H' := AM_ H
 clear H
 go_enter Tryz.func11, Tryz.ntmps11
 go_wp2_with (first | ((with_reducible refine gate_callee (f := 24) rfl ?_); refine goesL_ (some 8) rfl rfl Tryz.func24 (by kernel_rfl) rfl #[.slice A0 l0.length c0] rfl (by (try simp only [List.map_toArray, List.map_cons, List.map_nil]); first | done | rfl | (simp only [List.length_drop, List.length_take]; rfl)) ?_; (with_reducible refine (spec_IsHistory.calls k _ _ l0 true _ ?side1 ?side2 A2.out).mono ?_); (case side1 => repeat (first | exact HR0.out | (with_reducible refine Kd.C_alloc ?_ _) | (with_reducible refine Kd.C_drewN ?_ _) | (with_reducible refine Kd.C_drew ?_))); (case side2 => exact HC0.out); rintro e w6 ⟨rfl, hb⟩; refine ⟨_, rfl, ?_⟩; replace HB := AM_ (below_step (BT HB.out) hb); (try clear hb); (try clear hb2); (try clear hk); (try clear hi)))
 go_loopg [3, 4] k (fun kq v3 v4 w' => ∃ (x3_1 : ByteArray) (x4_1 : Int), v3 = .string x3_1 ∧ v4 = .int .i64 x4_1 ∧ Aside0 (spec_FormatHistory.l0 kq l0 x3_1 x4_1 = some r) ∧ Aside0 (kq ≤ k) ∧ Aside0 (Below w.heap.size w w'))
 case atStart => exact ⟨((⟨#[]⟩ : ByteArray)), (0), (by first | rfl | (simp; done) | (simp [*]; done)), (by first | rfl | (simp; done) | (simp [*]; done)), H', ⟨Nat.le_refl _⟩, ⟨BT HB.out⟩⟩
 case round =>
  clear H'
  try clear c1
  try clear c2
  try clear p2
  try clear c3
  try clear c4
  try clear c4b0
  try clear c4b1
  try clear c4b2
  obtain ⟨x3_1, x4_1, rfl, rfl, HA, HK1, HB⟩ := hrel
  cases gk with
  | zero => exact absurd HA.out (by simp [spec_FormatHistory.l0])
  | succ k1 =>
   have H := HA.out
   clear HA
   simp only [spec_FormatHistory.l0] at H
   by_cases c7 : x4_1 < (l0.length : Int)
   rotate_left
   ·rw [if_neg c7] at H
    have c7b0 : decide (x4_1 < (l0.length : Int)) = false := decide_eq_false c7
    clear c7
    obtain rfl := Option.some.inj H
    go_wp2
    go_ret
    exact QT (BT HB.out)
   rw [if_pos c7] at H
   have c7b0 : decide (x4_1 < (l0.length : Int)) = true := decide_eq_true c7
   clear c7
   have HC8 := AM_ H
   clear H
   go_upto_if 20 with (fail)
   go_cut [3] (fun v3 wc => ∃ (kq : Nat) (x3_7 : ByteArray), v3 = .string x3_7 ∧ Aside0 (spec_FormatHistory.j1 kq l0 x3_7 x4_1 = some r) ∧ Aside0 (kq ≤ k1) ∧ Aside0 (Below w.heap.size w wc))
   case first =>
    have H := HC8.out
    clear HC8
    by_cases c9 : x4_1 > 0
    rotate_left
    ·rw [if_neg c9] at H
     have c9b0 : decide (0 < x4_1) = false := decide_eq_false c9
     clear c9
     (first | rw [c9b0] | (simp only [i64_w, i32_w]; rw [c9b0]) | skip)
     have H' := AM_ H
     clear H
     go_wp2
     go_meet
     case rel => exact ⟨_, (x3_1), (by first | rfl | (simp; done) | (simp [*]; done)), H', ⟨by have := HK1.out; first | omega | exact Nat.le_refl _⟩, ⟨BT HB.out⟩⟩
    rw [if_pos c9] at H
    have c9b0 : decide (0 < x4_1) = true := decide_eq_true c9
    clear c9
    (first | rw [c9b0] | (simp only [i64_w, i32_w]; rw [c9b0]) | skip)
    replace H := HI H
    obtain ⟨c10, H⟩ := H
    have c10b0 := eq_true c10
    have c10b1 : decide (x3_1.size + 2 ≤ 9223372036854775807) = true := decide_eq_true c10
    try have c10b2 : (9223372036854775807 < x3_1.size + 2) = False := eq_false (Nat.not_lt.2 c10)
    have H' := AM_ H
    clear H
    go_wp2
    go_meet
    case rel => exact ⟨_, (x3_1 ++ (⟨#[59, 32]⟩ : ByteArray)), (by first | rfl | (simp; done) | (simp [*]; done)), H', ⟨by have := HK1.out; first | omega | exact Nat.le_refl _⟩, ⟨BT HB.out⟩⟩
   case rest =>
    clear HC8
    try clear c1
    try clear c2
    try clear p2
    try clear c3
    try clear c4
    try clear c4b0
    try clear c4b1
    try clear c4b2
    try clear c7
    try clear c7b0
    try clear c9
    try clear c9b0
    try clear c10
    try clear c10b0
    try clear c10b1
    try clear c10b2
    obtain ⟨kq, x3_7, rfl, HA, HJ7, HB⟩ := hcut
    cases kq with
    | zero => exact absurd HA.out (by simp [spec_FormatHistory.j1])
    | succ kj7 =>
     have H := HA.out
     clear HA
     simp only [spec_FormatHistory.j1] at H
     replace H := HI H
     obtain ⟨c11, H⟩ := H
     have c11b0 : decide (0 ≤ x4_1) = true := decide_eq_true c11
     clear c11
     replace H := HI H
     obtain ⟨c12, H⟩ := H
     have c12b0 : decide (x4_1 < (l0.length : Int)) = true := decide_eq_true c12
     clear c12
     replace H := Option.bind_eq_some_iff.mp H
     obtain ⟨t216, A130, H⟩ := H
     replace H : (if x3_7.size + t216.size ≤ 9223372036854775807 then (if (x3_7 ++ t216).size + 1 ≤ 9223372036854775807 then ((spec_FormatInt.f kj7 ((rd_T33 l0 x4_1).f1)).bind fun t218 => (if ((x3_7 ++ t216) ++ (⟨#[64]⟩ : ByteArray)).size + t218.size ≤ 9223372036854775807 then (spec_FormatHistory.l1 kj7 l0 (((x3_7 ++ t216) ++ (⟨#[64]⟩ : ByteArray)) ++ t218) x4_1 0) else (none))) else (none)) else (none)) = some r := H
     have A13 := AM_ A130
     clear A130
     replace H := HI H
     obtain ⟨c14, H⟩ := H
     have c14b0 := eq_true c14
     have c14b1 : decide (x3_7.size + t216.size ≤ 9223372036854775807) = true := decide_eq_true c14
     try have c14b2 : (9223372036854775807 < x3_7.size + t216.size) = False := eq_false (Nat.not_lt.2 c14)
     replace H := HI H
     obtain ⟨c15, H⟩ := H
     have c15b0 := eq_true c15
     have c15b1 : decide ((x3_7 ++ t216).size + 1 ≤ 9223372036854775807) = true := decide_eq_true c15
     try have c15b2 : (9223372036854775807 < (x3_7 ++ t216).size + 1) = False := eq_false (Nat.not_lt.2 c15)
     try have c15b3 : (9223372036854775807 < x3_7.size + t216.size + 1) = False := by have h_ := c15; simp only [ByteArray.size_append] at h_; exact eq_false (Nat.not_lt.2 h_)
     replace H := Option.bind_eq_some_iff.mp H
     obtain ⟨t218, A160, H⟩ := H
     replace H : (if ((x3_7 ++ t216) ++ (⟨#[64]⟩ : ByteArray)).size + t218.size ≤ 9223372036854775807 then (spec_FormatHistory.l1 kj7 l0 (((x3_7 ++ t216) ++ (⟨#[64]⟩ : ByteArray)) ++ t218) x4_1 0) else (none)) = some r := H
     have A16 := AM_ A160
     clear A160
     replace H := HI H
     obtain ⟨c17, H⟩ := H
     have c17b0 := eq_true c17
     have c17b1 : decide (((x3_7 ++ t216) ++ (⟨#[64]⟩ : ByteArray)).size + t218.size ≤ 9223372036854775807) = true := decide_eq_true c17
     try have c17b2 : (9223372036854775807 < ((x3_7 ++ t216) ++ (⟨#[64]⟩ : ByteArray)).size + t218.size) = False := eq_false (Nat.not_lt.2 c17)
     try have c17b3 : (9223372036854775807 < x3_7.size + t216.size + 1 + t218.size) = False := by have h_ := c17; simp only [ByteArray.size_append] at h_; exact eq_false (Nat.not_lt.2 h_)
     have H' := AM_ H
     clear H
     try go_wp2
     replace HB := AM_ (below_drew1 HB.out)
     have p215 : 0 ≤ (x4_1 : Int) := DT
     have q215 : x4_1 < (l0.length : Int) := DT
     obtain ⟨ad215, A215_2, c215_2, A215_3, c215_3, e215, hx215_0, hx215_1, hx215_2, hx215_3, hl215_2, hi215_2, hl215_3, hi215_3⟩ := at_T33 HR0.out x4_1 p215 q215
     have hw215_3 := hx215_3
     have hw215_2 := hx215_2
     have hw215_1 := hx215_1
     have hw215_0 := hx215_0
     cases e215
     replace hx215_0 := BC HB.out hx215_0
     replace hx215_1 := BC HB.out hx215_1
     replace hx215_2 := BC HB.out hx215_2
     replace hx215_3 := BC HB.out hx215_3
     have HR215_2 := AM_ hi215_2
     have HC215_2 := AM_ hl215_2
     clear hi215_2 hl215_2
     have HR215_3 := AM_ hi215_3
     have HC215_3 := AM_ hl215_3
     clear hi215_3 hl215_3
     replace p215 := eq_true p215
     replace q215 := eq_true q215
     have p217 : 0 ≤ (x4_1 : Int) := DT
     have q217 : x4_1 < (l0.length : Int) := DT
     obtain ⟨ad217, A217_2, c217_2, A217_3, c217_3, e217, hx217_0, hx217_1, hx217_2, hx217_3, hl217_2, hi217_2, hl217_3, hi217_3⟩ := at_T33 HR0.out x4_1 p217 q217
     have hw217_3 := hx217_3
     have hw217_2 := hx217_2
     have hw217_1 := hx217_1
     have hw217_0 := hx217_0
     obtain rfl : ad215 = ad217 := (by injection e217)
     replace hx217_0 := BC HB.out hx217_0
     replace hx217_1 := BC HB.out hx217_1
     replace hx217_2 := BC HB.out hx217_2
     replace hx217_3 := BC HB.out hx217_3
     have HR217_2 := AM_ hi217_2
     have HC217_2 := AM_ hl217_2
     clear hi217_2 hl217_2
     have HR217_3 := AM_ hi217_3
     have HC217_3 := AM_ hl217_3
     clear hi217_3 hl217_3
     replace p217 := eq_true p217
     replace q217 := eq_true q217
     have ea_ := Option.some.inj (hx215_2.symm.trans hx217_2)
     injection ea_ with ea_ en_ ec_
     subst ea_
     subst ec_
     clear en_
     have ea_ := Option.some.inj (hx215_3.symm.trans hx217_3)
     injection ea_ with ea_ en_ ec_
     subst ea_
     subst ec_
     clear en_
     refine start_ (n := 17) (S := fun w' => w'.cell? (ad215.add ((x4_1).toNat * 4)) = some (.int .i64 ((rd_T33 l0 x4_1).f0)) ∧ w'.cell? ⟨(ad215.add ((x4_1).toNat * 4)).block, (ad215.add ((x4_1).toNat * 4)).off + 1, none⟩ = some (.int .i64 ((rd_T33 l0 x4_1).f1)) ∧ w'.cell? ⟨(ad215.add ((x4_1).toNat * 4)).block, (ad215.add ((x4_1).toNat * 4)).off + 2, none⟩ = some (.slice A215_2 ((rd_T33 l0 x4_1).f2).length c215_2) ∧ w'.cell? ⟨(ad215.add ((x4_1).toNat * 4)).block, (ad215.add ((x4_1).toNat * 4)).off + 3, none⟩ = some (.slice A215_3 ((rd_T33 l0 x4_1).f3).length c215_3) ∧ w'.cell? (ad215.add ((x4_1).toNat * 4)) = some (.int .i64 ((rd_T33 l0 x4_1).f0)) ∧ w'.cell? ⟨(ad215.add ((x4_1).toNat * 4)).block, (ad215.add ((x4_1).toNat * 4)).off + 1, none⟩ = some (.int .i64 ((rd_T33 l0 x4_1).f1)) ∧ w'.cell? ⟨(ad215.add ((x4_1).toNat * 4)).block, (ad215.add ((x4_1).toNat * 4)).off + 2, none⟩ = some (.slice A215_2 ((rd_T33 l0 x4_1).f2).length c215_2) ∧ w'.cell? ⟨(ad215.add ((x4_1).toNat * 4)).block, (ad215.add ((x4_1).toNat * 4)).off + 3, none⟩ = some (.slice A215_3 ((rd_T33 l0 x4_1).f3).length c215_3)) (ds := []) (bs 0 17) (by kernel_rfl) rfl rfl ⟨(BD HB.out hw215_0), (BD HB.out hw215_1), (BD HB.out hw215_2), (BD HB.out hw215_3), (BD HB.out hw217_0), (BD HB.out hw217_1), (BD HB.out hw217_2), (BD HB.out hw217_3)⟩ (fun hHeld => ?_); refine with_tabW spec_FormatHistory.tab11 spec_FormatHistory.bits11 (fun HT_ HW_ => ?_)
     generalize wc.drew = w18 at HB HR215_2 HR215_3 HR217_2 HR217_3 hx215_0 hx215_1 hx215_2 hx215_3 hx217_0 hx217_1 hx217_2 hx217_3 hHeld ⊢
     refine pu (i := 0) (N := some 23) (v := ?_) (a' := ?_) (bs 1 17) rfl rfl HT_ ?_ ?_ ?_
     rotate_left
     ·intro w'
      go_simp
      with_reducible rfl
     rotate_left
     ·simp only[pA,pS,pZ,pK,pV]
      rfl
     refine pu (i := 1) (N := some 24) (v := ?_) (a' := ?_) (bs 3 17) rfl rfl HT_ ?_ ?_ ?_
     rotate_left
     ·intro w'
      go_simp
      with_reducible rfl
     rotate_left
     ·simp only[pA,pS,pZ,pK,pV]
      rfl
     refine pu (i := 2) (N := some 25) (v := ?_) (a' := ?_) (bs 7 17) rfl rfl HT_ ?_ ?_ ?_
     rotate_left
     ·intro w'
      go_simp
      with_reducible rfl
     rotate_left
     ·simp only[pA,pS,pZ,pK,pV]
      rfl
     refine pu (i := 3) (N := some 26) (v := ?_) (a' := ?_) (bs 15 17) rfl rfl HT_ ?_ ?_ ?_
     rotate_left
     ·intro w'
      go_simp
      with_reducible rfl
     rotate_left
     ·simp only[pA,pS,pZ,pK,pV]
      rfl
     refine pu (i := 4) (N := some 27) (v := ?_) (a' := ?_) (bs 31 17) rfl rfl HT_ ?_ ?_ ?_
     rotate_left
     ·intro w'
      go_simp
      with_reducible rfl
     rotate_left
     ·simp only[pA,pS,pZ,pK,pV]
      rfl
     refine pu (i := 9) (N := some 32) (v := ?_) (a' := ?_) (bs 543 17) rfl rfl HT_ ?_ ?_ ?_
     rotate_left
     ·intro w'
      go_simp
      with_reducible rfl
     rotate_left
     ·simp only[pA,pS,pZ,pK,pV]
      rfl
     refine pu (i := 10) (N := some 33) (v := ?_) (a' := ?_) (bs 1567 17) rfl rfl HT_ ?_ ?_ ?_
     rotate_left
     ·intro w'
      go_simp
      with_reducible rfl
     rotate_left
     ·simp only[pA,pS,pZ,pK,pV]
      rfl
     refine pu (i := 11) (N := some 34) (v := ?_) (a' := ?_) (bs 3615 17) rfl rfl HT_ ?_ ?_ ?_
     rotate_left
     ·intro w'
      go_simp
      with_reducible rfl
     rotate_left
     ·simp only[pA,pS,pZ,pK,pV]
      rfl
     refine pu (i := 12) (N := some 35) (v := ?_) (a' := ?_) (bs 7711 17) rfl rfl HT_ ?_ ?_ ?_
     rotate_left
     ·intro w'
      go_simp
      with_reducible rfl
     rotate_left
     ·simp only[pA,pS,pZ,pK,pV]
      rfl
     refine tk (i := 5) (N := some 28) (v := ?_) (a' := ?_) (bs 7743 17) rfl rfl HT_ HW_ ?_ hHeld ?_ ?_
     rotate_left
     ·rintro w' ⟨s0, s1, s2, s3, s4, s5, s6, s7⟩
      go_simp
      with_reducible rfl
     rotate_left
     ·simp only[pA,pS,pZ,pK,pV]
      rfl
     refine tk (i := 13) (N := some 36) (v := ?_) (a' := ?_) (bs 15935 17) rfl rfl HT_ HW_ ?_ hHeld ?_ ?_
     rotate_left
     ·rintro w' ⟨s0, s1, s2, s3, s4, s5, s6, s7⟩
      go_simp
      with_reducible rfl
     rotate_left
     ·simp only[pA,pS,pZ,pK,pV]
      rfl
     refine one_ (i := 6) (N := some 29) (bs 15999 17) rfl rfl (one_of HT_.out (by kernel_rfl)) (by decide) (fun K hK => ?_)
     refine goes_ Tryz.func25 (by kernel_rfl) rfl #[.int .i64 ((rd_T33 l0 x4_1).f0)] (by rfl) rfl rfl (by (try simp only [List.map_toArray, List.map_cons, List.map_nil]); first | done | rfl | (simp only [List.length_drop, List.length_take]; rfl)) ?_
     with_reducible refine (spec_FormatInt.calls kj7 ((rd_T33 l0 x4_1).f0) t216 _ A13.out).mono ?_
     rintro e w19 ⟨rfl, hb⟩
     refine ⟨_, rfl, ?_⟩
     replace HB := AM_ (below_step (BT HB.out) hb)
     (try clear hb)
     (try clear hb2)
     (try clear hk)
     (try clear hi)
     refine hK.out _ _ ⟨(BD HB.out hw215_0), (BD HB.out hw215_1), (BD HB.out hw215_2), (BD HB.out hw215_3), (BD HB.out hw217_0), (BD HB.out hw217_1), (BD HB.out hw217_2), (BD HB.out hw217_3)⟩ (fun hHeld => ?_)
     clear hK K
     refine norm_ (a' := ?_) ?_ ?_
     rotate_left
     ·show Act.put _ (some 29) _ = _
      simp only[pA,pS,pZ,pK,pV]
      rfl
     refine pu (i := 7) (N := some 30) (v := ?_) (a' := ?_) (bs 16127 17) rfl rfl HT_ ?_ ?_ ?_
     rotate_left
     ·intro w'
      go_simp
      with_reducible rfl
     rotate_left
     ·simp only[pA,pS,pZ,pK,pV]
      rfl
     refine pu (i := 8) (N := some 31) (v := ?_) (a' := ?_) (bs 16383 17) rfl rfl HT_ ?_ ?_ ?_
     rotate_left
     ·intro w'
      go_simp
      with_reducible rfl
     rotate_left
     ·simp only[pA,pS,pZ,pK,pV]
      rfl
     refine one_ (i := 14) (N := some 37) (bs 32767 17) rfl rfl (one_of HT_.out (by kernel_rfl)) (by decide) (fun K hK => ?_)
     refine goes_ Tryz.func25 (by kernel_rfl) rfl #[.int .i64 ((rd_T33 l0 x4_1).f1)] (by rfl) rfl rfl (by (try simp only [List.map_toArray, List.map_cons, List.map_nil]); first | done | rfl | (simp only [List.length_drop, List.length_take]; rfl)) ?_
     with_reducible refine (spec_FormatInt.calls kj7 ((rd_T33 l0 x4_1).f1) t218 _ A16.out).mono ?_
     rintro e w20 ⟨rfl, hb⟩
     refine ⟨_, rfl, ?_⟩
     replace HB := AM_ (below_step (BT HB.out) hb)
     (try clear hb)
     (try clear hb2)
     (try clear hk)
     (try clear hi)
     refine hK.out _ _ ⟨(BD HB.out hw215_0), (BD HB.out hw215_1), (BD HB.out hw215_2), (BD HB.out hw215_3), (BD HB.out hw217_0), (BD HB.out hw217_1), (BD HB.out hw217_2), (BD HB.out hw217_3)⟩ (fun hHeld => ?_)
     clear hK K
     refine norm_ (a' := ?_) ?_ ?_
     rotate_left
     ·show Act.put _ (some 37) _ = _
      simp only[pA,pS,pZ,pK,pV]
      rfl
     refine pu (i := 15) (N := some 38) (v := ?_) (a' := ?_) (bs 65535 17) rfl rfl HT_ ?_ ?_ ?_
     rotate_left
     ·intro w'
      go_simp
      with_reducible rfl
     rotate_left
     ·simp only[pA,pS,pZ,pK,pV]
      rfl
     refine pu (i := 16) (N := some 3) (v := ?_) (a' := ?_) (bs 131071 17) rfl rfl HT_ ?_ ?_ ?_
     rotate_left
     ·intro w'
      go_simp
      with_reducible rfl
     rotate_left
     ·simp only[pA,pS,pZ,pK,pV]
      rfl
     refine done_ (done_of HT_.out (by kernel_rfl)) ?_
     try go_wp2
     go_loopg [3, 5] kj7 (fun kq v3 v5 w' => ∃ (x3_3 : ByteArray) (x5_3 : Int), v3 = .string x3_3 ∧ v5 = .int .i64 x5_3 ∧ Aside0 (spec_FormatHistory.l1 kq l0 x3_3 x4_1 x5_3 = some r) ∧ Aside0 (kq ≤ kj7) ∧ Aside0 (Below w.heap.size w w'))
     case atStart => exact ⟨(((x3_7 ++ t216) ++ (⟨#[64]⟩ : ByteArray)) ++ t218), (0), (by first | rfl | (simp; done) | (simp [*]; done)), (by first | rfl | (simp; done) | (simp [*]; done)), H', ⟨Nat.le_refl _⟩, ⟨BT HB.out⟩⟩
     case round =>
      clear H'
      try clear c1
      try clear c2
      try clear p2
      try clear q2
      try clear hx2
      try clear c3
      try clear c4
      try clear c4b0
      try clear c4b1
      try clear c4b2
      try clear c7
      try clear c7b0
      try clear c9
      try clear c9b0
      try clear c10
      try clear c10b0
      try clear c10b1
      try clear c10b2
      try clear c11
      try clear c11b0
      try clear c12
      try clear c12b0
      try clear c14
      try clear c14b0
      try clear c14b1
      try clear c14b2
      try clear c15
      try clear c15b0
      try clear c15b1
      try clear c15b2
      try clear c17
      try clear c17b0
      try clear c17b1
      try clear c17b2
      try clear hx215_0
      try clear hx215_1
      try clear hx215_2
      try clear hx215_3
      try clear hx217_0
      try clear hx217_1
      try clear hx217_2
      try clear hx217_3
      try clear p215
      try clear p217
      try clear q215
      try clear q217
      obtain ⟨x3_3, x5_3, rfl, rfl, HA, HK3, HB⟩ := hrel
      cases gk with
      | zero => exact absurd HA.out (by simp [spec_FormatHistory.l1])
      | succ k3 =>
       have H := HA.out
       clear HA
       simp only [spec_FormatHistory.l1] at H
       replace H := HI H
       obtain ⟨c21, H⟩ := H
       have c21b0 : decide (0 ≤ x4_1) = true := decide_eq_true c21
       clear c21
       replace H := HI H
       obtain ⟨c22, H⟩ := H
       have c22b0 : decide (x4_1 < (l0.length : Int)) = true := decide_eq_true c22
       clear c22
       by_cases c23 : x5_3 < (((rd_T33 l0 x4_1).f2).length : Int)
       ·rw [if_pos c23] at H
        have c23b0 : decide (x5_3 < (((rd_T33 l0 x4_1).f2).length : Int)) = true := decide_eq_true c23
        clear c23
        replace H := HI H
        obtain ⟨c24, H⟩ := H
        have c24b0 := eq_true c24
        have c24b1 : decide (x3_3.size + 2 ≤ 9223372036854775807) = true := decide_eq_true c24
        try have c24b2 : (9223372036854775807 < x3_3.size + 2) = False := eq_false (Nat.not_lt.2 c24)
        replace H := HI H
        obtain ⟨c25, H⟩ := H
        have c25b0 : decide (0 ≤ x5_3) = true := decide_eq_true c25
        clear c25
        replace H := Option.bind_eq_some_iff.mp H
        obtain ⟨t222, A260, H⟩ := H
        replace H : (if (x3_3 ++ (⟨#[32, 114]⟩ : ByteArray)).size + t222.size ≤ 9223372036854775807 then (if ((x3_3 ++ (⟨#[32, 114]⟩ : ByteArray)) ++ t222).size + 1 ≤ 9223372036854775807 then ((spec_FormatInt.f k3 ((rd_T48 ((rd_T33 l0 x4_1).f2) x5_3).f1)).bind fun t225 => (if (((x3_3 ++ (⟨#[32, 114]⟩ : ByteArray)) ++ t222) ++ (⟨#[58]⟩ : ByteArray)).size + t225.size ≤ 9223372036854775807 then (spec_FormatHistory.l1 k3 l0 ((((x3_3 ++ (⟨#[32, 114]⟩ : ByteArray)) ++ t222) ++ (⟨#[58]⟩ : ByteArray)) ++ t225) x4_1 (wrap64 (x5_3 + 1))) else (none))) else (none)) else (none)) = some r := H
        have A26 := AM_ A260
        clear A260
        replace H := HI H
        obtain ⟨c27, H⟩ := H
        have c27b0 := eq_true c27
        have c27b1 : decide ((x3_3 ++ (⟨#[32, 114]⟩ : ByteArray)).size + t222.size ≤ 9223372036854775807) = true := decide_eq_true c27
        try have c27b2 : (9223372036854775807 < (x3_3 ++ (⟨#[32, 114]⟩ : ByteArray)).size + t222.size) = False := eq_false (Nat.not_lt.2 c27)
        try have c27b3 : (9223372036854775807 < x3_3.size + 2 + t222.size) = False := by have h_ := c27; simp only [ByteArray.size_append] at h_; exact eq_false (Nat.not_lt.2 h_)
        replace H := HI H
        obtain ⟨c28, H⟩ := H
        have c28b0 := eq_true c28
        have c28b1 : decide (((x3_3 ++ (⟨#[32, 114]⟩ : ByteArray)) ++ t222).size + 1 ≤ 9223372036854775807) = true := decide_eq_true c28
        try have c28b2 : (9223372036854775807 < ((x3_3 ++ (⟨#[32, 114]⟩ : ByteArray)) ++ t222).size + 1) = False := eq_false (Nat.not_lt.2 c28)
        try have c28b3 : (9223372036854775807 < x3_3.size + 2 + t222.size + 1) = False := by have h_ := c28; simp only [ByteArray.size_append] at h_; exact eq_false (Nat.not_lt.2 h_)
        replace H := Option.bind_eq_some_iff.mp H
        obtain ⟨t225, A290, H⟩ := H
        replace H : (if (((x3_3 ++ (⟨#[32, 114]⟩ : ByteArray)) ++ t222) ++ (⟨#[58]⟩ : ByteArray)).size + t225.size ≤ 9223372036854775807 then (spec_FormatHistory.l1 k3 l0 ((((x3_3 ++ (⟨#[32, 114]⟩ : ByteArray)) ++ t222) ++ (⟨#[58]⟩ : ByteArray)) ++ t225) x4_1 (wrap64 (x5_3 + 1))) else (none)) = some r := H
        have A29 := AM_ A290
        clear A290
        replace H := HI H
        obtain ⟨c30, H⟩ := H
        have c30b0 := eq_true c30
        have c30b1 : decide ((((x3_3 ++ (⟨#[32, 114]⟩ : ByteArray)) ++ t222) ++ (⟨#[58]⟩ : ByteArray)).size + t225.size ≤ 9223372036854775807) = true := decide_eq_true c30
        try have c30b2 : (9223372036854775807 < (((x3_3 ++ (⟨#[32, 114]⟩ : ByteArray)) ++ t222) ++ (⟨#[58]⟩ : ByteArray)).size + t225.size) = False := eq_false (Nat.not_lt.2 c30)
        try have c30b3 : (9223372036854775807 < x3_3.size + 2 + t222.size + 1 + t225.size) = False := by have h_ := c30; simp only [ByteArray.size_append] at h_; exact eq_false (Nat.not_lt.2 h_)
        have H' := AM_ H
        clear H
        have p219 : 0 ≤ (x4_1 : Int) := DT
        have q219 : x4_1 < (l0.length : Int) := DT
        obtain ⟨ad219, A219_2, c219_2, A219_3, c219_3, e219, hx219_0, hx219_1, hx219_2, hx219_3, hl219_2, hi219_2, hl219_3, hi219_3⟩ := at_T33 HR0.out x4_1 p219 q219
        obtain rfl : ad215 = ad219 := (by injection e219)
        replace hx219_0 := BC HB.out hx219_0
        replace hx219_1 := BC HB.out hx219_1
        replace hx219_2 := BC HB.out hx219_2
        replace hx219_3 := BC HB.out hx219_3
        have HR219_2 := AM_ hi219_2
        have HC219_2 := AM_ hl219_2
        clear hi219_2 hl219_2
        have HR219_3 := AM_ hi219_3
        have HC219_3 := AM_ hl219_3
        clear hi219_3 hl219_3
        replace p219 := eq_true p219
        replace q219 := eq_true q219
        try go_wp2
        replace HB := AM_ (below_drew1 HB.out)
        have p220 : 0 ≤ (x4_1 : Int) := DT
        have q220 : x4_1 < (l0.length : Int) := DT
        obtain ⟨ad220, A220_2, c220_2, A220_3, c220_3, e220, hx220_0, hx220_1, hx220_2, hx220_3, hl220_2, hi220_2, hl220_3, hi220_3⟩ := at_T33 HR0.out x4_1 p220 q220
        have hw220_3 := hx220_3
        have hw220_2 := hx220_2
        have hw220_1 := hx220_1
        have hw220_0 := hx220_0
        obtain rfl : ad215 = ad220 := (by injection e220)
        replace hx220_0 := BC HB.out hx220_0
        replace hx220_1 := BC HB.out hx220_1
        replace hx220_2 := BC HB.out hx220_2
        replace hx220_3 := BC HB.out hx220_3
        have HR220_2 := AM_ hi220_2
        have HC220_2 := AM_ hl220_2
        clear hi220_2 hl220_2
        have HR220_3 := AM_ hi220_3
        have HC220_3 := AM_ hl220_3
        clear hi220_3 hl220_3
        replace p220 := eq_true p220
        replace q220 := eq_true q220
        have p221 : 0 ≤ (x5_3 : Int) := DT
        have q221 : x5_3 < (((rd_T33 l0 x4_1).f2).length : Int) := DT
        obtain ⟨ad221, e221, hx221_0, hx221_1⟩ := at_T48 HR220_2.out x5_3 p221 q221
        have hw221_1 := hx221_1
        have hw221_0 := hx221_0
        cases e221
        replace hx221_0 := BC HB.out hx221_0
        replace hx221_1 := BC HB.out hx221_1
        replace p221 := eq_true p221
        replace q221 := eq_true q221
        have p223 : 0 ≤ (x4_1 : Int) := DT
        have q223 : x4_1 < (l0.length : Int) := DT
        obtain ⟨ad223, A223_2, c223_2, A223_3, c223_3, e223, hx223_0, hx223_1, hx223_2, hx223_3, hl223_2, hi223_2, hl223_3, hi223_3⟩ := at_T33 HR0.out x4_1 p223 q223
        have hw223_3 := hx223_3
        have hw223_2 := hx223_2
        have hw223_1 := hx223_1
        have hw223_0 := hx223_0
        obtain rfl : ad215 = ad223 := (by injection e223)
        replace hx223_0 := BC HB.out hx223_0
        replace hx223_1 := BC HB.out hx223_1
        replace hx223_2 := BC HB.out hx223_2
        replace hx223_3 := BC HB.out hx223_3
        have HR223_2 := AM_ hi223_2
        have HC223_2 := AM_ hl223_2
        clear hi223_2 hl223_2
        have HR223_3 := AM_ hi223_3
        have HC223_3 := AM_ hl223_3
        clear hi223_3 hl223_3
        replace p223 := eq_true p223
        replace q223 := eq_true q223
        have ea_ := Option.some.inj (hx220_2.symm.trans hx223_2)
        injection ea_ with ea_ en_ ec_
        subst ea_
        subst ec_
        clear en_
        have ea_ := Option.some.inj (hx220_3.symm.trans hx223_3)
        injection ea_ with ea_ en_ ec_
        subst ea_
        subst ec_
        clear en_
        have p224 : 0 ≤ (x5_3 : Int) := DT
        have q224 : x5_3 < (((rd_T33 l0 x4_1).f2).length : Int) := DT
        obtain ⟨ad224, e224, hx224_0, hx224_1⟩ := at_T48 HR223_2.out x5_3 p224 q224
        have hw224_1 := hx224_1
        have hw224_0 := hx224_0
        cases e224
        replace hx224_0 := BC HB.out hx224_0
        replace hx224_1 := BC HB.out hx224_1
        replace p224 := eq_true p224
        replace q224 := eq_true q224
        refine start_ (n := 26) (S := fun w' => w'.cell? (ad215.add ((x4_1).toNat * 4)) = some (.int .i64 ((rd_T33 l0 x4_1).f0)) ∧ w'.cell? ⟨(ad215.add ((x4_1).toNat * 4)).block, (ad215.add ((x4_1).toNat * 4)).off + 1, none⟩ = some (.int .i64 ((rd_T33 l0 x4_1).f1)) ∧ w'.cell? ⟨(ad215.add ((x4_1).toNat * 4)).block, (ad215.add ((x4_1).toNat * 4)).off + 2, none⟩ = some (.slice (some ad221) ((rd_T33 l0 x4_1).f2).length c220_2) ∧ w'.cell? ⟨(ad215.add ((x4_1).toNat * 4)).block, (ad215.add ((x4_1).toNat * 4)).off + 3, none⟩ = some (.slice A220_3 ((rd_T33 l0 x4_1).f3).length c220_3) ∧ w'.cell? (ad221.add ((x5_3).toNat * 2)) = some (.int .i64 ((rd_T48 ((rd_T33 l0 x4_1).f2) x5_3).f0)) ∧ w'.cell? ⟨(ad221.add ((x5_3).toNat * 2)).block, (ad221.add ((x5_3).toNat * 2)).off + 1, none⟩ = some (.int .i64 ((rd_T48 ((rd_T33 l0 x4_1).f2) x5_3).f1)) ∧ w'.cell? (ad215.add ((x4_1).toNat * 4)) = some (.int .i64 ((rd_T33 l0 x4_1).f0)) ∧ w'.cell? ⟨(ad215.add ((x4_1).toNat * 4)).block, (ad215.add ((x4_1).toNat * 4)).off + 1, none⟩ = some (.int .i64 ((rd_T33 l0 x4_1).f1)) ∧ w'.cell? ⟨(ad215.add ((x4_1).toNat * 4)).block, (ad215.add ((x4_1).toNat * 4)).off + 2, none⟩ = some (.slice (some ad221) ((rd_T33 l0 x4_1).f2).length c220_2) ∧ w'.cell? ⟨(ad215.add ((x4_1).toNat * 4)).block, (ad215.add ((x4_1).toNat * 4)).off + 3, none⟩ = some (.slice A220_3 ((rd_T33 l0 x4_1).f3).length c220_3) ∧ w'.cell? (ad221.add ((x5_3).toNat * 2)) = some (.int .i64 ((rd_T48 ((rd_T33 l0 x4_1).f2) x5_3).f0)) ∧ w'.cell? ⟨(ad221.add ((x5_3).toNat * 2)).block, (ad221.add ((x5_3).toNat * 2)).off + 1, none⟩ = some (.int .i64 ((rd_T48 ((rd_T33 l0 x4_1).f2) x5_3).f1))) (ds := []) (bs 0 26) (by kernel_rfl) rfl rfl ⟨(BD HB.out hw220_0), (BD HB.out hw220_1), (BD HB.out hw220_2), (BD HB.out hw220_3), (BD HB.out hw221_0), (BD HB.out hw221_1), (BD HB.out hw223_0), (BD HB.out hw223_1), (BD HB.out hw223_2), (BD HB.out hw223_3), (BD HB.out hw224_0), (BD HB.out hw224_1)⟩ (fun hHeld => ?_); refine with_tabW spec_FormatHistory.tab15 spec_FormatHistory.bits15 (fun HT_ HW_ => ?_)
        generalize wr.drew = w31 at HB HR220_2 HR220_3 HR223_2 HR223_3 hx220_0 hx220_1 hx220_2 hx220_3 hx221_0 hx221_1 hx223_0 hx223_1 hx223_2 hx223_3 hx224_0 hx224_1 hHeld ⊢
        refine pu (i := 0) (N := some 49) (v := ?_) (a' := ?_) (bs 1 26) rfl rfl HT_ ?_ ?_ ?_
        rotate_left
        ·intro w'
         go_simp
         with_reducible rfl
        rotate_left
        ·simp only[pA,pS,pZ,pK,pV]
         rfl
        refine pu (i := 1) (N := some 50) (v := ?_) (a' := ?_) (bs 3 26) rfl rfl HT_ ?_ ?_ ?_
        rotate_left
        ·intro w'
         go_simp
         with_reducible rfl
        rotate_left
        ·simp only[pA,pS,pZ,pK,pV]
         rfl
        refine pu (i := 2) (N := some 51) (v := ?_) (a' := ?_) (bs 7 26) rfl rfl HT_ ?_ ?_ ?_
        rotate_left
        ·intro w'
         go_simp
         with_reducible rfl
        rotate_left
        ·simp only[pA,pS,pZ,pK,pV]
         rfl
        refine pu (i := 3) (N := some 52) (v := ?_) (a' := ?_) (bs 15 26) rfl rfl HT_ ?_ ?_ ?_
        rotate_left
        ·intro w'
         go_simp
         with_reducible rfl
        rotate_left
        ·simp only[pA,pS,pZ,pK,pV]
         rfl
        refine pu (i := 4) (N := some 53) (v := ?_) (a' := ?_) (bs 31 26) rfl rfl HT_ ?_ ?_ ?_
        rotate_left
        ·intro w'
         go_simp
         with_reducible rfl
        rotate_left
        ·simp only[pA,pS,pZ,pK,pV]
         rfl
        refine pu (i := 5) (N := some 54) (v := ?_) (a' := ?_) (bs 63 26) rfl rfl HT_ ?_ ?_ ?_
        rotate_left
        ·intro w'
         go_simp
         with_reducible rfl
        rotate_left
        ·simp only[pA,pS,pZ,pK,pV]
         rfl
        refine pu (i := 7) (N := some 56) (v := ?_) (a' := ?_) (bs 191 26) rfl rfl HT_ ?_ ?_ ?_
        rotate_left
        ·intro w'
         go_simp
         with_reducible rfl
        rotate_left
        ·simp only[pA,pS,pZ,pK,pV]
         rfl
        refine pu (i := 14) (N := some 63) (v := ?_) (a' := ?_) (bs 16575 26) rfl rfl HT_ ?_ ?_ ?_
        rotate_left
        ·intro w'
         go_simp
         with_reducible rfl
        rotate_left
        ·simp only[pA,pS,pZ,pK,pV]
         rfl
        refine pu (i := 15) (N := some 64) (v := ?_) (a' := ?_) (bs 49343 26) rfl rfl HT_ ?_ ?_ ?_
        rotate_left
        ·intro w'
         go_simp
         with_reducible rfl
        rotate_left
        ·simp only[pA,pS,pZ,pK,pV]
         rfl
        refine pu (i := 16) (N := some 65) (v := ?_) (a' := ?_) (bs 114879 26) rfl rfl HT_ ?_ ?_ ?_
        rotate_left
        ·intro w'
         go_simp
         with_reducible rfl
        rotate_left
        ·simp only[pA,pS,pZ,pK,pV]
         rfl
        refine pu (i := 17) (N := some 66) (v := ?_) (a' := ?_) (bs 245951 26) rfl rfl HT_ ?_ ?_ ?_
        rotate_left
        ·intro w'
         go_simp
         with_reducible rfl
        rotate_left
        ·simp only[pA,pS,pZ,pK,pV]
         rfl
        refine pu (i := 19) (N := some 68) (v := ?_) (a' := ?_) (bs 770239 26) rfl rfl HT_ ?_ ?_ ?_
        rotate_left
        ·intro w'
         go_simp
         with_reducible rfl
        rotate_left
        ·simp only[pA,pS,pZ,pK,pV]
         rfl
        refine tk (i := 6) (N := some 55) (v := ?_) (a' := ?_) (bs 770303 26) rfl rfl HT_ HW_ ?_ hHeld ?_ ?_
        rotate_left
        ·rintro w' ⟨s0, s1, s2, s3, s4, s5, s6, s7, s8, s9, s10, s11⟩
         go_simp
         with_reducible rfl
        rotate_left
        ·simp only[pA,pS,pZ,pK,pV]
         rfl
        refine pu (i := 8) (N := some 57) (v := ?_) (a' := ?_) (bs 770559 26) rfl rfl HT_ ?_ ?_ ?_
        rotate_left
        ·intro w'
         go_simp
         with_reducible rfl
        rotate_left
        ·simp only[pA,pS,pZ,pK,pV]
         rfl
        refine pu (i := 9) (N := some 58) (v := ?_) (a' := ?_) (bs 771071 26) rfl rfl HT_ ?_ ?_ ?_
        rotate_left
        ·intro w'
         go_simp
         with_reducible rfl
        rotate_left
        ·simp only[pA,pS,pZ,pK,pV]
         rfl
        refine tk (i := 10) (N := some 59) (v := ?_) (a' := ?_) (bs 772095 26) rfl rfl HT_ HW_ ?_ hHeld ?_ ?_
        rotate_left
        ·rintro w' ⟨s0, s1, s2, s3, s4, s5, s6, s7, s8, s9, s10, s11⟩
         go_simp
         with_reducible rfl
        rotate_left
        ·simp only[pA,pS,pZ,pK,pV]
         rfl
        refine tk (i := 18) (N := some 67) (v := ?_) (a' := ?_) (bs 1034239 26) rfl rfl HT_ HW_ ?_ hHeld ?_ ?_
        rotate_left
        ·rintro w' ⟨s0, s1, s2, s3, s4, s5, s6, s7, s8, s9, s10, s11⟩
         go_simp
         with_reducible rfl
        rotate_left
        ·simp only[pA,pS,pZ,pK,pV]
         rfl
        refine pu (i := 20) (N := some 69) (v := ?_) (a' := ?_) (bs 2082815 26) rfl rfl HT_ ?_ ?_ ?_
        rotate_left
        ·intro w'
         go_simp
         with_reducible rfl
        rotate_left
        ·simp only[pA,pS,pZ,pK,pV]
         rfl
        refine pu (i := 21) (N := some 70) (v := ?_) (a' := ?_) (bs 4179967 26) rfl rfl HT_ ?_ ?_ ?_
        rotate_left
        ·intro w'
         go_simp
         with_reducible rfl
        rotate_left
        ·simp only[pA,pS,pZ,pK,pV]
         rfl
        refine tk (i := 22) (N := some 71) (v := ?_) (a' := ?_) (bs 8374271 26) rfl rfl HT_ HW_ ?_ hHeld ?_ ?_
        rotate_left
        ·rintro w' ⟨s0, s1, s2, s3, s4, s5, s6, s7, s8, s9, s10, s11⟩
         go_simp
         with_reducible rfl
        rotate_left
        ·simp only[pA,pS,pZ,pK,pV]
         rfl
        refine one_ (i := 11) (N := some 60) (bs 8376319 26) rfl rfl (one_of HT_.out (by kernel_rfl)) (by decide) (fun K hK => ?_)
        refine goes_ Tryz.func25 (by kernel_rfl) rfl #[.int .i64 ((rd_T48 ((rd_T33 l0 x4_1).f2) x5_3).f0)] (by rfl) rfl rfl (by (try simp only [List.map_toArray, List.map_cons, List.map_nil]); first | done | rfl | (simp only [List.length_drop, List.length_take]; rfl)) ?_
        with_reducible refine (spec_FormatInt.calls k3 ((rd_T48 ((rd_T33 l0 x4_1).f2) x5_3).f0) t222 _ A26.out).mono ?_
        rintro e w32 ⟨rfl, hb⟩
        refine ⟨_, rfl, ?_⟩
        replace HB := AM_ (below_step (BT HB.out) hb)
        (try clear hb)
        (try clear hb2)
        (try clear hk)
        (try clear hi)
        refine hK.out _ _ ⟨(BD HB.out hw220_0), (BD HB.out hw220_1), (BD HB.out hw220_2), (BD HB.out hw220_3), (BD HB.out hw221_0), (BD HB.out hw221_1), (BD HB.out hw223_0), (BD HB.out hw223_1), (BD HB.out hw223_2), (BD HB.out hw223_3), (BD HB.out hw224_0), (BD HB.out hw224_1)⟩ (fun hHeld => ?_)
        clear hK K
        refine norm_ (a' := ?_) ?_ ?_
        rotate_left
        ·show Act.put _ (some 60) _ = _
         simp only[pA,pS,pZ,pK,pV]
         rfl
        refine pu (i := 12) (N := some 61) (v := ?_) (a' := ?_) (bs 8380415 26) rfl rfl HT_ ?_ ?_ ?_
        rotate_left
        ·intro w'
         go_simp
         with_reducible rfl
        rotate_left
        ·simp only[pA,pS,pZ,pK,pV]
         rfl
        refine pu (i := 13) (N := some 62) (v := ?_) (a' := ?_) (bs 8388607 26) rfl rfl HT_ ?_ ?_ ?_
        rotate_left
        ·intro w'
         go_simp
         with_reducible rfl
        rotate_left
        ·simp only[pA,pS,pZ,pK,pV]
         rfl
        refine one_ (i := 23) (N := some 72) (bs 16777215 26) rfl rfl (one_of HT_.out (by kernel_rfl)) (by decide) (fun K hK => ?_)
        refine goes_ Tryz.func25 (by kernel_rfl) rfl #[.int .i64 ((rd_T48 ((rd_T33 l0 x4_1).f2) x5_3).f1)] (by rfl) rfl rfl (by (try simp only [List.map_toArray, List.map_cons, List.map_nil]); first | done | rfl | (simp only [List.length_drop, List.length_take]; rfl)) ?_
        with_reducible refine (spec_FormatInt.calls k3 ((rd_T48 ((rd_T33 l0 x4_1).f2) x5_3).f1) t225 _ A29.out).mono ?_
        rintro e w33 ⟨rfl, hb⟩
        refine ⟨_, rfl, ?_⟩
        replace HB := AM_ (below_step (BT HB.out) hb)
        (try clear hb)
        (try clear hb2)
        (try clear hk)
        (try clear hi)
        refine hK.out _ _ ⟨(BD HB.out hw220_0), (BD HB.out hw220_1), (BD HB.out hw220_2), (BD HB.out hw220_3), (BD HB.out hw221_0), (BD HB.out hw221_1), (BD HB.out hw223_0), (BD HB.out hw223_1), (BD HB.out hw223_2), (BD HB.out hw223_3), (BD HB.out hw224_0), (BD HB.out hw224_1)⟩ (fun hHeld => ?_)
        clear hK K
        refine norm_ (a' := ?_) ?_ ?_
        rotate_left
        ·show Act.put _ (some 72) _ = _
         simp only[pA,pS,pZ,pK,pV]
         rfl
        refine pu (i := 24) (N := some 73) (v := ?_) (a' := ?_) (bs 33554431 26) rfl rfl HT_ ?_ ?_ ?_
        rotate_left
        ·intro w'
         go_simp
         with_reducible rfl
        rotate_left
        ·simp only[pA,pS,pZ,pK,pV]
         rfl
        refine pu (i := 25) (N := some 3) (v := ?_) (a' := ?_) (bs 67108863 26) rfl rfl HT_ ?_ ?_ ?_
        rotate_left
        ·intro w'
         go_simp
         with_reducible rfl
        rotate_left
        ·simp only[pA,pS,pZ,pK,pV]
         rfl
        refine done_ (done_of HT_.out (by kernel_rfl)) ?_
        try go_wp2
        go_roundg k3
        case measure => have := HK1.out; have := HJ7.out; have := HK3.out; omega
        case rel => exact ⟨((((x3_3 ++ (⟨#[32, 114]⟩ : ByteArray)) ++ t222) ++ (⟨#[58]⟩ : ByteArray)) ++ t225), (wrap64 (x5_3 + 1)), (by first | rfl | (simp; done) | (simp [*]; done)), (by first | rfl | (simp; done) | (simp [*]; done)), H', ⟨by have := HK1.out; have := HJ7.out; have := HK3.out; omega⟩, ⟨BT HB.out⟩⟩
       rw [if_neg c23] at H
       have c23b0 : decide (x5_3 < (((rd_T33 l0 x4_1).f2).length : Int)) = false := decide_eq_false c23
       clear c23
       have H' := AM_ H
       clear H
       have p219 : 0 ≤ (x4_1 : Int) := DT
       have q219 : x4_1 < (l0.length : Int) := DT
       obtain ⟨ad219, A219_2, c219_2, A219_3, c219_3, e219, hx219_0, hx219_1, hx219_2, hx219_3, hl219_2, hi219_2, hl219_3, hi219_3⟩ := at_T33 HR0.out x4_1 p219 q219
       obtain rfl : ad215 = ad219 := (by injection e219)
       replace hx219_0 := BC HB.out hx219_0
       replace hx219_1 := BC HB.out hx219_1
       replace hx219_2 := BC HB.out hx219_2
       replace hx219_3 := BC HB.out hx219_3
       have HR219_2 := AM_ hi219_2
       have HC219_2 := AM_ hl219_2
       clear hi219_2 hl219_2
       have HR219_3 := AM_ hi219_3
       have HC219_3 := AM_ hl219_3
       clear hi219_3 hl219_3
       replace p219 := eq_true p219
       replace q219 := eq_true q219
       go_wp2
       go_loopg [3, 6] k3 (fun kq v3 v6 w' => ∃ (x3_4 : ByteArray) (x6_4 : Int), v3 = .string x3_4 ∧ v6 = .int .i64 x6_4 ∧ Aside0 (spec_FormatHistory.l2 kq l0 x3_4 x4_1 x6_4 = some r) ∧ Aside0 (kq ≤ k3) ∧ Aside0 (Below w.heap.size w w'))
       case atStart => exact ⟨(x3_3), (0), (by first | rfl | (simp; done) | (simp [*]; done)), (by first | rfl | (simp; done) | (simp [*]; done)), H', ⟨Nat.le_refl _⟩, ⟨BT HB.out⟩⟩
       case round =>
        clear H'
        try clear c1
        try clear c2
        try clear p2
        try clear q2
        try clear hx2
        try clear c3
        try clear c4
        try clear c4b0
        try clear c4b1
        try clear c4b2
        try clear p6
        try clear c7
        try clear c7b0
        try clear c9
        try clear c9b0
        try clear c10
        try clear c10b0
        try clear c10b1
        try clear c10b2
        try clear c11
        try clear c11b0
        try clear c12
        try clear c12b0
        try clear c14
        try clear c14b0
        try clear c14b1
        try clear c14b2
        try clear c15
        try clear c15b0
        try clear c15b1
        try clear c15b2
        try clear c17
        try clear c17b0
        try clear c17b1
        try clear c17b2
        try clear c21
        try clear c21b0
        try clear p21
        try clear q21
        try clear hx21
        try clear c22
        try clear c22b0
        try clear p22
        try clear q22
        try clear hx22
        try clear c23
        try clear c23b0
        try clear c24
        try clear c24b0
        try clear c24b1
        try clear c24b2
        try clear c25
        try clear c25b0
        try clear c27
        try clear c27b0
        try clear c27b1
        try clear c27b2
        try clear c28
        try clear c28b0
        try clear c28b1
        try clear c28b2
        try clear c30
        try clear c30b0
        try clear c30b1
        try clear c30b2
        try clear hx215_0
        try clear hx215_1
        try clear hx215_2
        try clear hx215_3
        try clear hx217_0
        try clear hx217_1
        try clear hx217_2
        try clear hx217_3
        try clear hx219_0
        try clear hx219_1
        try clear hx219_2
        try clear hx219_3
        try clear hx220_0
        try clear hx220_1
        try clear hx220_2
        try clear hx220_3
        try clear hx221_0
        try clear hx221_1
        try clear hx223_0
        try clear hx223_1
        try clear hx223_2
        try clear hx223_3
        try clear hx224_0
        try clear hx224_1
        try clear p215
        try clear p217
        try clear p219
        try clear p220
        try clear p221
        try clear p223
        try clear p224
        try clear q215
        try clear q217
        try clear q219
        try clear q220
        try clear q221
        try clear q223
        try clear q224
        obtain ⟨x3_4, x6_4, rfl, rfl, HA, HK4, HB⟩ := hrel
        cases gk with
        | zero => exact absurd HA.out (by simp [spec_FormatHistory.l2])
        | succ k4 =>
         have H := HA.out
         clear HA
         simp only [spec_FormatHistory.l2] at H
         replace H := HI H
         obtain ⟨c34, H⟩ := H
         have c34b0 : decide (0 ≤ x4_1) = true := decide_eq_true c34
         clear c34
         replace H := HI H
         obtain ⟨c35, H⟩ := H
         have c35b0 : decide (x4_1 < (l0.length : Int)) = true := decide_eq_true c35
         clear c35
         by_cases c36 : x6_4 < (((rd_T33 l0 x4_1).f3).length : Int)
         rotate_left
         ·rw [if_neg c36] at H
          have c36b0 : decide (x6_4 < (((rd_T33 l0 x4_1).f3).length : Int)) = false := decide_eq_false c36
          clear c36
          have H' := AM_ H
          clear H
          have p226 : 0 ≤ (x4_1 : Int) := DT
          have q226 : x4_1 < (l0.length : Int) := DT
          obtain ⟨ad226, A226_2, c226_2, A226_3, c226_3, e226, hx226_0, hx226_1, hx226_2, hx226_3, hl226_2, hi226_2, hl226_3, hi226_3⟩ := at_T33 HR0.out x4_1 p226 q226
          obtain rfl : ad215 = ad226 := (by injection e226)
          replace hx226_0 := BC HB.out hx226_0
          replace hx226_1 := BC HB.out hx226_1
          replace hx226_2 := BC HB.out hx226_2
          replace hx226_3 := BC HB.out hx226_3
          have HR226_2 := AM_ hi226_2
          have HC226_2 := AM_ hl226_2
          clear hi226_2 hl226_2
          have HR226_3 := AM_ hi226_3
          have HC226_3 := AM_ hl226_3
          clear hi226_3 hl226_3
          replace p226 := eq_true p226
          replace q226 := eq_true q226
          go_wp2
          go_roundg k4
          case measure => have := HK1.out; have := HJ7.out; have := HK3.out; have := HK4.out; omega
          case rel => exact ⟨(x3_4), (wrap64 (x4_1 + 1)), (by first | rfl | (simp; done) | (simp [*]; done)), (by first | rfl | (simp; done) | (simp [*]; done)), H', ⟨by have := HK1.out; have := HJ7.out; have := HK3.out; have := HK4.out; omega⟩, ⟨BT HB.out⟩⟩
         rw [if_pos c36] at H
         have c36b0 : decide (x6_4 < (((rd_T33 l0 x4_1).f3).length : Int)) = true := decide_eq_true c36
         clear c36
         replace H := HI H
         obtain ⟨c37, H⟩ := H
         have c37b0 := eq_true c37
         have c37b1 : decide (x3_4.size + 2 ≤ 9223372036854775807) = true := decide_eq_true c37
         try have c37b2 : (9223372036854775807 < x3_4.size + 2) = False := eq_false (Nat.not_lt.2 c37)
         replace H := HI H
         obtain ⟨c38, H⟩ := H
         have c38b0 : decide (0 ≤ x6_4) = true := decide_eq_true c38
         clear c38
         replace H := Option.bind_eq_some_iff.mp H
         obtain ⟨t229, A390, H⟩ := H
         replace H : (if (x3_4 ++ (⟨#[32, 119]⟩ : ByteArray)).size + t229.size ≤ 9223372036854775807 then (if ((x3_4 ++ (⟨#[32, 119]⟩ : ByteArray)) ++ t229).size + 1 ≤ 9223372036854775807 then ((spec_l3Value.f k4 ((rd_T50 ((rd_T33 l0 x4_1).f3) x6_4).f1)).bind fun t232 => (if (((x3_4 ++ (⟨#[32, 119]⟩ : ByteArray)) ++ t229) ++ (⟨#[58]⟩ : ByteArray)).size + t232.size ≤ 9223372036854775807 then (spec_FormatHistory.l2 k4 l0 ((((x3_4 ++ (⟨#[32, 119]⟩ : ByteArray)) ++ t229) ++ (⟨#[58]⟩ : ByteArray)) ++ t232) x4_1 (wrap64 (x6_4 + 1))) else (none))) else (none)) else (none)) = some r := H
         have A39 := AM_ A390
         clear A390
         replace H := HI H
         obtain ⟨c40, H⟩ := H
         have c40b0 := eq_true c40
         have c40b1 : decide ((x3_4 ++ (⟨#[32, 119]⟩ : ByteArray)).size + t229.size ≤ 9223372036854775807) = true := decide_eq_true c40
         try have c40b2 : (9223372036854775807 < (x3_4 ++ (⟨#[32, 119]⟩ : ByteArray)).size + t229.size) = False := eq_false (Nat.not_lt.2 c40)
         try have c40b3 : (9223372036854775807 < x3_4.size + 2 + t229.size) = False := by have h_ := c40; simp only [ByteArray.size_append] at h_; exact eq_false (Nat.not_lt.2 h_)
         replace H := HI H
         obtain ⟨c41, H⟩ := H
         have c41b0 := eq_true c41
         have c41b1 : decide (((x3_4 ++ (⟨#[32, 119]⟩ : ByteArray)) ++ t229).size + 1 ≤ 9223372036854775807) = true := decide_eq_true c41
         try have c41b2 : (9223372036854775807 < ((x3_4 ++ (⟨#[32, 119]⟩ : ByteArray)) ++ t229).size + 1) = False := eq_false (Nat.not_lt.2 c41)
         try have c41b3 : (9223372036854775807 < x3_4.size + 2 + t229.size + 1) = False := by have h_ := c41; simp only [ByteArray.size_append] at h_; exact eq_false (Nat.not_lt.2 h_)
         replace H := Option.bind_eq_some_iff.mp H
         obtain ⟨t232, A420, H⟩ := H
         replace H : (if (((x3_4 ++ (⟨#[32, 119]⟩ : ByteArray)) ++ t229) ++ (⟨#[58]⟩ : ByteArray)).size + t232.size ≤ 9223372036854775807 then (spec_FormatHistory.l2 k4 l0 ((((x3_4 ++ (⟨#[32, 119]⟩ : ByteArray)) ++ t229) ++ (⟨#[58]⟩ : ByteArray)) ++ t232) x4_1 (wrap64 (x6_4 + 1))) else (none)) = some r := H
         have A42 := AM_ A420
         clear A420
         replace H := HI H
         obtain ⟨c43, H⟩ := H
         have c43b0 := eq_true c43
         have c43b1 : decide ((((x3_4 ++ (⟨#[32, 119]⟩ : ByteArray)) ++ t229) ++ (⟨#[58]⟩ : ByteArray)).size + t232.size ≤ 9223372036854775807) = true := decide_eq_true c43
         try have c43b2 : (9223372036854775807 < (((x3_4 ++ (⟨#[32, 119]⟩ : ByteArray)) ++ t229) ++ (⟨#[58]⟩ : ByteArray)).size + t232.size) = False := eq_false (Nat.not_lt.2 c43)
         try have c43b3 : (9223372036854775807 < x3_4.size + 2 + t229.size + 1 + t232.size) = False := by have h_ := c43; simp only [ByteArray.size_append] at h_; exact eq_false (Nat.not_lt.2 h_)
         have H' := AM_ H
         clear H
         have p226 : 0 ≤ (x4_1 : Int) := DT
         have q226 : x4_1 < (l0.length : Int) := DT
         obtain ⟨ad226, A226_2, c226_2, A226_3, c226_3, e226, hx226_0, hx226_1, hx226_2, hx226_3, hl226_2, hi226_2, hl226_3, hi226_3⟩ := at_T33 HR0.out x4_1 p226 q226
         obtain rfl : ad215 = ad226 := (by injection e226)
         replace hx226_0 := BC HB.out hx226_0
         replace hx226_1 := BC HB.out hx226_1
         replace hx226_2 := BC HB.out hx226_2
         replace hx226_3 := BC HB.out hx226_3
         have HR226_2 := AM_ hi226_2
         have HC226_2 := AM_ hl226_2
         clear hi226_2 hl226_2
         have HR226_3 := AM_ hi226_3
         have HC226_3 := AM_ hl226_3
         clear hi226_3 hl226_3
         replace p226 := eq_true p226
         replace q226 := eq_true q226
         try go_wp2
         replace HB := AM_ (below_drew1 HB.out)
         have p227 : 0 ≤ (x4_1 : Int) := DT
         have q227 : x4_1 < (l0.length : Int) := DT
         obtain ⟨ad227, A227_2, c227_2, A227_3, c227_3, e227, hx227_0, hx227_1, hx227_2, hx227_3, hl227_2, hi227_2, hl227_3, hi227_3⟩ := at_T33 HR0.out x4_1 p227 q227
         have hw227_3 := hx227_3
         have hw227_2 := hx227_2
         have hw227_1 := hx227_1
         have hw227_0 := hx227_0
         obtain rfl : ad215 = ad227 := (by injection e227)
         replace hx227_0 := BC HB.out hx227_0
         replace hx227_1 := BC HB.out hx227_1
         replace hx227_2 := BC HB.out hx227_2
         replace hx227_3 := BC HB.out hx227_3
         have HR227_2 := AM_ hi227_2
         have HC227_2 := AM_ hl227_2
         clear hi227_2 hl227_2
         have HR227_3 := AM_ hi227_3
         have HC227_3 := AM_ hl227_3
         clear hi227_3 hl227_3
         replace p227 := eq_true p227
         replace q227 := eq_true q227
         have p228 : 0 ≤ (x6_4 : Int) := DT
         have q228 : x6_4 < (((rd_T33 l0 x4_1).f3).length : Int) := DT
         obtain ⟨ad228, e228, hx228_0, hx228_1⟩ := at_T50 HR227_3.out x6_4 p228 q228
         have hw228_1 := hx228_1
         have hw228_0 := hx228_0
         cases e228
         replace hx228_0 := BC HB.out hx228_0
         replace hx228_1 := BC HB.out hx228_1
         replace p228 := eq_true p228
         replace q228 := eq_true q228
         have p230 : 0 ≤ (x4_1 : Int) := DT
         have q230 : x4_1 < (l0.length : Int) := DT
         obtain ⟨ad230, A230_2, c230_2, A230_3, c230_3, e230, hx230_0, hx230_1, hx230_2, hx230_3, hl230_2, hi230_2, hl230_3, hi230_3⟩ := at_T33 HR0.out x4_1 p230 q230
         have hw230_3 := hx230_3
         have hw230_2 := hx230_2
         have hw230_1 := hx230_1
         have hw230_0 := hx230_0
         obtain rfl : ad215 = ad230 := (by injection e230)
         replace hx230_0 := BC HB.out hx230_0
         replace hx230_1 := BC HB.out hx230_1
         replace hx230_2 := BC HB.out hx230_2
         replace hx230_3 := BC HB.out hx230_3
         have HR230_2 := AM_ hi230_2
         have HC230_2 := AM_ hl230_2
         clear hi230_2 hl230_2
         have HR230_3 := AM_ hi230_3
         have HC230_3 := AM_ hl230_3
         clear hi230_3 hl230_3
         replace p230 := eq_true p230
         replace q230 := eq_true q230
         have ea_ := Option.some.inj (hx227_2.symm.trans hx230_2)
         injection ea_ with ea_ en_ ec_
         subst ea_
         subst ec_
         clear en_
         have ea_ := Option.some.inj (hx227_3.symm.trans hx230_3)
         injection ea_ with ea_ en_ ec_
         subst ea_
         subst ec_
         clear en_
         have p231 : 0 ≤ (x6_4 : Int) := DT
         have q231 : x6_4 < (((rd_T33 l0 x4_1).f3).length : Int) := DT
         obtain ⟨ad231, e231, hx231_0, hx231_1⟩ := at_T50 HR230_3.out x6_4 p231 q231
         have hw231_1 := hx231_1
         have hw231_0 := hx231_0
         cases e231
         replace hx231_0 := BC HB.out hx231_0
         replace hx231_1 := BC HB.out hx231_1
         replace p231 := eq_true p231
         replace q231 := eq_true q231
         refine start_ (n := 26) (S := fun w' => w'.cell? (ad215.add ((x4_1).toNat * 4)) = some (.int .i64 ((rd_T33 l0 x4_1).f0)) ∧ w'.cell? ⟨(ad215.add ((x4_1).toNat * 4)).block, (ad215.add ((x4_1).toNat * 4)).off + 1, none⟩ = some (.int .i64 ((rd_T33 l0 x4_1).f1)) ∧ w'.cell? ⟨(ad215.add ((x4_1).toNat * 4)).block, (ad215.add ((x4_1).toNat * 4)).off + 2, none⟩ = some (.slice A227_2 ((rd_T33 l0 x4_1).f2).length c227_2) ∧ w'.cell? ⟨(ad215.add ((x4_1).toNat * 4)).block, (ad215.add ((x4_1).toNat * 4)).off + 3, none⟩ = some (.slice (some ad228) ((rd_T33 l0 x4_1).f3).length c227_3) ∧ w'.cell? (ad228.add ((x6_4).toNat * 2)) = some (.int .i64 ((rd_T50 ((rd_T33 l0 x4_1).f3) x6_4).f0)) ∧ w'.cell? ⟨(ad228.add ((x6_4).toNat * 2)).block, (ad228.add ((x6_4).toNat * 2)).off + 1, none⟩ = some (.int .i64 ((rd_T50 ((rd_T33 l0 x4_1).f3) x6_4).f1)) ∧ w'.cell? (ad215.add ((x4_1).toNat * 4)) = some (.int .i64 ((rd_T33 l0 x4_1).f0)) ∧ w'.cell? ⟨(ad215.add ((x4_1).toNat * 4)).block, (ad215.add ((x4_1).toNat * 4)).off + 1, none⟩ = some (.int .i64 ((rd_T33 l0 x4_1).f1)) ∧ w'.cell? ⟨(ad215.add ((x4_1).toNat * 4)).block, (ad215.add ((x4_1).toNat * 4)).off + 2, none⟩ = some (.slice A227_2 ((rd_T33 l0 x4_1).f2).length c227_2) ∧ w'.cell? ⟨(ad215.add ((x4_1).toNat * 4)).block, (ad215.add ((x4_1).toNat * 4)).off + 3, none⟩ = some (.slice (some ad228) ((rd_T33 l0 x4_1).f3).length c227_3) ∧ w'.cell? (ad228.add ((x6_4).toNat * 2)) = some (.int .i64 ((rd_T50 ((rd_T33 l0 x4_1).f3) x6_4).f0)) ∧ w'.cell? ⟨(ad228.add ((x6_4).toNat * 2)).block, (ad228.add ((x6_4).toNat * 2)).off + 1, none⟩ = some (.int .i64 ((rd_T50 ((rd_T33 l0 x4_1).f3) x6_4).f1))) (ds := []) (bs 0 26) (by kernel_rfl) rfl rfl ⟨(BD HB.out hw227_0), (BD HB.out hw227_1), (BD HB.out hw227_2), (BD HB.out hw227_3), (BD HB.out hw228_0), (BD HB.out hw228_1), (BD HB.out hw230_0), (BD HB.out hw230_1), (BD HB.out hw230_2), (BD HB.out hw230_3), (BD HB.out hw231_0), (BD HB.out hw231_1)⟩ (fun hHeld => ?_); refine with_tabW spec_FormatHistory.tab19 spec_FormatHistory.bits19 (fun HT_ HW_ => ?_)
         generalize wr.drew = w44 at HB HR227_2 HR227_3 HR230_2 HR230_3 hx227_0 hx227_1 hx227_2 hx227_3 hx228_0 hx228_1 hx230_0 hx230_1 hx230_2 hx230_3 hx231_0 hx231_1 hHeld ⊢
         refine pu (i := 0) (N := some 84) (v := ?_) (a' := ?_) (bs 1 26) rfl rfl HT_ ?_ ?_ ?_
         rotate_left
         ·intro w'
          go_simp
          with_reducible rfl
         rotate_left
         ·simp only[pA,pS,pZ,pK,pV]
          rfl
         refine pu (i := 1) (N := some 85) (v := ?_) (a' := ?_) (bs 3 26) rfl rfl HT_ ?_ ?_ ?_
         rotate_left
         ·intro w'
          go_simp
          with_reducible rfl
         rotate_left
         ·simp only[pA,pS,pZ,pK,pV]
          rfl
         refine pu (i := 2) (N := some 86) (v := ?_) (a' := ?_) (bs 7 26) rfl rfl HT_ ?_ ?_ ?_
         rotate_left
         ·intro w'
          go_simp
          with_reducible rfl
         rotate_left
         ·simp only[pA,pS,pZ,pK,pV]
          rfl
         refine pu (i := 3) (N := some 87) (v := ?_) (a' := ?_) (bs 15 26) rfl rfl HT_ ?_ ?_ ?_
         rotate_left
         ·intro w'
          go_simp
          with_reducible rfl
         rotate_left
         ·simp only[pA,pS,pZ,pK,pV]
          rfl
         refine pu (i := 4) (N := some 88) (v := ?_) (a' := ?_) (bs 31 26) rfl rfl HT_ ?_ ?_ ?_
         rotate_left
         ·intro w'
          go_simp
          with_reducible rfl
         rotate_left
         ·simp only[pA,pS,pZ,pK,pV]
          rfl
         refine pu (i := 5) (N := some 89) (v := ?_) (a' := ?_) (bs 63 26) rfl rfl HT_ ?_ ?_ ?_
         rotate_left
         ·intro w'
          go_simp
          with_reducible rfl
         rotate_left
         ·simp only[pA,pS,pZ,pK,pV]
          rfl
         refine pu (i := 7) (N := some 91) (v := ?_) (a' := ?_) (bs 191 26) rfl rfl HT_ ?_ ?_ ?_
         rotate_left
         ·intro w'
          go_simp
          with_reducible rfl
         rotate_left
         ·simp only[pA,pS,pZ,pK,pV]
          rfl
         refine pu (i := 14) (N := some 98) (v := ?_) (a' := ?_) (bs 16575 26) rfl rfl HT_ ?_ ?_ ?_
         rotate_left
         ·intro w'
          go_simp
          with_reducible rfl
         rotate_left
         ·simp only[pA,pS,pZ,pK,pV]
          rfl
         refine pu (i := 15) (N := some 99) (v := ?_) (a' := ?_) (bs 49343 26) rfl rfl HT_ ?_ ?_ ?_
         rotate_left
         ·intro w'
          go_simp
          with_reducible rfl
         rotate_left
         ·simp only[pA,pS,pZ,pK,pV]
          rfl
         refine pu (i := 16) (N := some 100) (v := ?_) (a' := ?_) (bs 114879 26) rfl rfl HT_ ?_ ?_ ?_
         rotate_left
         ·intro w'
          go_simp
          with_reducible rfl
         rotate_left
         ·simp only[pA,pS,pZ,pK,pV]
          rfl
         refine pu (i := 17) (N := some 101) (v := ?_) (a' := ?_) (bs 245951 26) rfl rfl HT_ ?_ ?_ ?_
         rotate_left
         ·intro w'
          go_simp
          with_reducible rfl
         rotate_left
         ·simp only[pA,pS,pZ,pK,pV]
          rfl
         refine pu (i := 19) (N := some 103) (v := ?_) (a' := ?_) (bs 770239 26) rfl rfl HT_ ?_ ?_ ?_
         rotate_left
         ·intro w'
          go_simp
          with_reducible rfl
         rotate_left
         ·simp only[pA,pS,pZ,pK,pV]
          rfl
         refine tk (i := 6) (N := some 90) (v := ?_) (a' := ?_) (bs 770303 26) rfl rfl HT_ HW_ ?_ hHeld ?_ ?_
         rotate_left
         ·rintro w' ⟨s0, s1, s2, s3, s4, s5, s6, s7, s8, s9, s10, s11⟩
          go_simp
          with_reducible rfl
         rotate_left
         ·simp only[pA,pS,pZ,pK,pV]
          rfl
         refine pu (i := 8) (N := some 92) (v := ?_) (a' := ?_) (bs 770559 26) rfl rfl HT_ ?_ ?_ ?_
         rotate_left
         ·intro w'
          go_simp
          with_reducible rfl
         rotate_left
         ·simp only[pA,pS,pZ,pK,pV]
          rfl
         refine pu (i := 9) (N := some 93) (v := ?_) (a' := ?_) (bs 771071 26) rfl rfl HT_ ?_ ?_ ?_
         rotate_left
         ·intro w'
          go_simp
          with_reducible rfl
         rotate_left
         ·simp only[pA,pS,pZ,pK,pV]
          rfl
         refine tk (i := 10) (N := some 94) (v := ?_) (a' := ?_) (bs 772095 26) rfl rfl HT_ HW_ ?_ hHeld ?_ ?_
         rotate_left
         ·rintro w' ⟨s0, s1, s2, s3, s4, s5, s6, s7, s8, s9, s10, s11⟩
          go_simp
          with_reducible rfl
         rotate_left
         ·simp only[pA,pS,pZ,pK,pV]
          rfl
         refine tk (i := 18) (N := some 102) (v := ?_) (a' := ?_) (bs 1034239 26) rfl rfl HT_ HW_ ?_ hHeld ?_ ?_
         rotate_left
         ·rintro w' ⟨s0, s1, s2, s3, s4, s5, s6, s7, s8, s9, s10, s11⟩
          go_simp
          with_reducible rfl
         rotate_left
         ·simp only[pA,pS,pZ,pK,pV]
          rfl
         refine pu (i := 20) (N := some 104) (v := ?_) (a' := ?_) (bs 2082815 26) rfl rfl HT_ ?_ ?_ ?_
         rotate_left
         ·intro w'
          go_simp
          with_reducible rfl
         rotate_left
         ·simp only[pA,pS,pZ,pK,pV]
          rfl
         refine pu (i := 21) (N := some 105) (v := ?_) (a' := ?_) (bs 4179967 26) rfl rfl HT_ ?_ ?_ ?_
         rotate_left
         ·intro w'
          go_simp
          with_reducible rfl
         rotate_left
         ·simp only[pA,pS,pZ,pK,pV]
          rfl
         refine tk (i := 22) (N := some 106) (v := ?_) (a' := ?_) (bs 8374271 26) rfl rfl HT_ HW_ ?_ hHeld ?_ ?_
         rotate_left
         ·rintro w' ⟨s0, s1, s2, s3, s4, s5, s6, s7, s8, s9, s10, s11⟩
          go_simp
          with_reducible rfl
         rotate_left
         ·simp only[pA,pS,pZ,pK,pV]
          rfl
         refine one_ (i := 11) (N := some 95) (bs 8376319 26) rfl rfl (one_of HT_.out (by kernel_rfl)) (by decide) (fun K hK => ?_)
         refine goes_ Tryz.func25 (by kernel_rfl) rfl #[.int .i64 ((rd_T50 ((rd_T33 l0 x4_1).f3) x6_4).f0)] (by rfl) rfl rfl (by (try simp only [List.map_toArray, List.map_cons, List.map_nil]); first | done | rfl | (simp only [List.length_drop, List.length_take]; rfl)) ?_
         with_reducible refine (spec_FormatInt.calls k4 ((rd_T50 ((rd_T33 l0 x4_1).f3) x6_4).f0) t229 _ A39.out).mono ?_
         rintro e w45 ⟨rfl, hb⟩
         refine ⟨_, rfl, ?_⟩
         replace HB := AM_ (below_step (BT HB.out) hb)
         (try clear hb)
         (try clear hb2)
         (try clear hk)
         (try clear hi)
         refine hK.out _ _ ⟨(BD HB.out hw227_0), (BD HB.out hw227_1), (BD HB.out hw227_2), (BD HB.out hw227_3), (BD HB.out hw228_0), (BD HB.out hw228_1), (BD HB.out hw230_0), (BD HB.out hw230_1), (BD HB.out hw230_2), (BD HB.out hw230_3), (BD HB.out hw231_0), (BD HB.out hw231_1)⟩ (fun hHeld => ?_)
         clear hK K
         refine norm_ (a' := ?_) ?_ ?_
         rotate_left
         ·show Act.put _ (some 95) _ = _
          simp only[pA,pS,pZ,pK,pV]
          rfl
         refine pu (i := 12) (N := some 96) (v := ?_) (a' := ?_) (bs 8380415 26) rfl rfl HT_ ?_ ?_ ?_
         rotate_left
         ·intro w'
          go_simp
          with_reducible rfl
         rotate_left
         ·simp only[pA,pS,pZ,pK,pV]
          rfl
         refine pu (i := 13) (N := some 97) (v := ?_) (a' := ?_) (bs 8388607 26) rfl rfl HT_ ?_ ?_ ?_
         rotate_left
         ·intro w'
          go_simp
          with_reducible rfl
         rotate_left
         ·simp only[pA,pS,pZ,pK,pV]
          rfl
         refine one_ (i := 23) (N := some 107) (bs 16777215 26) rfl rfl (one_of HT_.out (by kernel_rfl)) (by decide) (fun K hK => ?_)
         refine goes_ Tryz.func26 (by kernel_rfl) rfl #[.int .i64 ((rd_T50 ((rd_T33 l0 x4_1).f3) x6_4).f1)] (by rfl) rfl rfl (by (try simp only [List.map_toArray, List.map_cons, List.map_nil]); first | done | rfl | (simp only [List.length_drop, List.length_take]; rfl)) ?_
         with_reducible refine (spec_l3Value.calls k4 ((rd_T50 ((rd_T33 l0 x4_1).f3) x6_4).f1) t232 _ A42.out).mono ?_
         rintro e w46 ⟨rfl, hb⟩
         refine ⟨_, rfl, ?_⟩
         replace HB := AM_ (below_step (BT HB.out) hb)
         (try clear hb)
         (try clear hb2)
         (try clear hk)
         (try clear hi)
         refine hK.out _ _ ⟨(BD HB.out hw227_0), (BD HB.out hw227_1), (BD HB.out hw227_2), (BD HB.out hw227_3), (BD HB.out hw228_0), (BD HB.out hw228_1), (BD HB.out hw230_0), (BD HB.out hw230_1), (BD HB.out hw230_2), (BD HB.out hw230_3), (BD HB.out hw231_0), (BD HB.out hw231_1)⟩ (fun hHeld => ?_)
         clear hK K
         refine norm_ (a' := ?_) ?_ ?_
         rotate_left
         ·show Act.put _ (some 107) _ = _
          simp only[pA,pS,pZ,pK,pV]
          rfl
         refine pu (i := 24) (N := some 108) (v := ?_) (a' := ?_) (bs 33554431 26) rfl rfl HT_ ?_ ?_ ?_
         rotate_left
         ·intro w'
          go_simp
          with_reducible rfl
         rotate_left
         ·simp only[pA,pS,pZ,pK,pV]
          rfl
         refine pu (i := 25) (N := some 3) (v := ?_) (a' := ?_) (bs 67108863 26) rfl rfl HT_ ?_ ?_ ?_
         rotate_left
         ·intro w'
          go_simp
          with_reducible rfl
         rotate_left
         ·simp only[pA,pS,pZ,pK,pV]
          rfl
         refine done_ (done_of HT_.out (by kernel_rfl)) ?_
         try go_wp2
         go_roundg k4
         case measure => have := HK1.out; have := HJ7.out; have := HK3.out; have := HK4.out; omega
         case rel => exact ⟨((((x3_4 ++ (⟨#[32, 119]⟩ : ByteArray)) ++ t229) ++ (⟨#[58]⟩ : ByteArray)) ++ t232), (wrap64 (x6_4 + 1)), (by first | rfl | (simp; done) | (simp [*]; done)), (by first | rfl | (simp; done) | (simp [*]; done)), H', ⟨by have := HK1.out; have := HJ7.out; have := HK3.out; have := HK4.out; omega⟩, ⟨BT HB.out⟩⟩

end Go.Proofs.YtdfbmaiboadodaaGreatDoor.PFnExactParseHistory
