-- Printed by wip/myprint.py.
import Derived.Test.YtdfbmaiboadodaaGreatDoorPFnExactParseHistoryx2
namespace Go.Proofs.YtdfbmaiboadodaaGreatDoor.PFnExactParseHistory
open Go.RowKit Go.Proofs.YtdfbmaiboadodaaGreatDoorW.PrintWords Go.Proofs.YtdfbmaiboadodaaGreatDoorW.PrintLast Go.Proofs.YtdfbmaiboadodaaGreatDoorW.PrintMore
set_option maxHeartbeats 8000000
set_option maxRecDepth 100000
set_option linter.unusedVariables false
set_option linter.unusedSimpArgs false

/-! ### spec_IsValidTransaction: function 39 -/
mutual
def spec_IsValidTransaction.l0 : Nat → Int → Int → Int → Int → Int → Int → Int → Int → List (S48) → List (S50) → Option (Bool)
 | 0, _, _, _, _, _, _, _, _, _, _ => none
 | k + 1, x3, x153000, x153001, x153002, x153003, x153004, x153005, x153006, x153007, x153008 => if x3 < (x153007.length : Int) then (if 0 ≤ x3 then ((spec_l1In.f ((rd_T48 x153007 x3).f0) 0 5).bind fun t155 => (if t155 = true then ((spec_l1In.f ((rd_T48 x153007 x3).f1) 0 999).bind fun t156 => (if t156 = true then (if x3 > 0 then (if 0 ≤ (wrap64 (x3 - 1)) then (if (wrap64 (x3 - 1)) < (x153007.length : Int) then ((spec_l5Before.f ((rd_T48 x153007 (wrap64 (x3 - 1))).f0) ((rd_T48 x153007 (wrap64 (x3 - 1))).f1) ((rd_T48 x153007 x3).f0) ((rd_T48 x153007 x3).f1)).bind fun t158 => (spec_IsValidTransaction.j1 k x3 (!t158) x153000 x153001 x153002 x153003 x153004 x153005 x153006 x153007 x153008)) else (none)) else (none)) else (spec_IsValidTransaction.j1 k x3 false x153000 x153001 x153002 x153003 x153004 x153005 x153006 x153007 x153008)) else (spec_IsValidTransaction.j1 k x3 true x153000 x153001 x153002 x153003 x153004 x153005 x153006 x153007 x153008))) else (spec_IsValidTransaction.j1 k x3 true x153000 x153001 x153002 x153003 x153004 x153005 x153006 x153007 x153008))) else (none)) else (spec_IsValidTransaction.l1 k 0 x153000 x153001 x153002 x153003 x153004 x153005 x153006 x153007 x153008)
def spec_IsValidTransaction.j1 : Nat → Int → Bool → Int → Int → Int → Int → Int → Int → Int → List (S48) → List (S50) → Option (Bool)
 | 0, _, _, _, _, _, _, _, _, _, _, _ => none
 | k + 1, x3, x43, x153000, x153001, x153002, x153003, x153004, x153005, x153006, x153007, x153008 => if x43 = true then (some false) else (spec_IsValidTransaction.l0 k (wrap64 (x3 + 1)) x153000 x153001 x153002 x153003 x153004 x153005 x153006 x153007 x153008)
def spec_IsValidTransaction.l1 : Nat → Int → Int → Int → Int → Int → Int → Int → Int → List (S48) → List (S50) → Option (Bool)
 | 0, _, _, _, _, _, _, _, _, _, _ => none
 | k + 1, x5, x153000, x153001, x153002, x153003, x153004, x153005, x153006, x153007, x153008 => if x5 < (x153008.length : Int) then (if 0 ≤ x5 then ((spec_l1In.f ((rd_T50 x153008 x5).f0) 0 5).bind fun t161 => (if t161 = true then ((spec_l1In.f ((rd_T50 x153008 x5).f1) (-1) 99).bind fun t162 => (if t162 = true then (if x5 > 0 then (if 0 ≤ (wrap64 (x5 - 1)) then (if (wrap64 (x5 - 1)) < (x153008.length : Int) then (spec_IsValidTransaction.j3 k x5 (decide (((rd_T50 x153008 (wrap64 (x5 - 1))).f0) ≥ ((rd_T50 x153008 x5).f0))) x153000 x153001 x153002 x153003 x153004 x153005 x153006 x153007 x153008) else (none)) else (none)) else (spec_IsValidTransaction.j3 k x5 false x153000 x153001 x153002 x153003 x153004 x153005 x153006 x153007 x153008)) else (spec_IsValidTransaction.j3 k x5 true x153000 x153001 x153002 x153003 x153004 x153005 x153006 x153007 x153008))) else (spec_IsValidTransaction.j3 k x5 true x153000 x153001 x153002 x153003 x153004 x153005 x153006 x153007 x153008))) else (none)) else ((spec_l1In.f x153000 1 9).bind fun t164 => (if t164 = true then ((spec_l1In.f x153001 1 4).bind fun t165 => (if t165 = true then ((spec_l1In.f x153003 0 999).bind fun t166 => (spec_IsValidTransaction.j4 k (!t166) x153000 x153001 x153002 x153003 x153004 x153005 x153006 x153007 x153008)) else (spec_IsValidTransaction.j4 k true x153000 x153001 x153002 x153003 x153004 x153005 x153006 x153007 x153008))) else (spec_IsValidTransaction.j4 k true x153000 x153001 x153002 x153003 x153004 x153005 x153006 x153007 x153008)))
def spec_IsValidTransaction.j3 : Nat → Int → Bool → Int → Int → Int → Int → Int → Int → Int → List (S48) → List (S50) → Option (Bool)
 | 0, _, _, _, _, _, _, _, _, _, _, _ => none
 | k + 1, x5, x81, x153000, x153001, x153002, x153003, x153004, x153005, x153006, x153007, x153008 => if x81 = true then (some false) else (spec_IsValidTransaction.l1 k (wrap64 (x5 + 1)) x153000 x153001 x153002 x153003 x153004 x153005 x153006 x153007 x153008)
def spec_IsValidTransaction.j4 : Nat → Bool → Int → Int → Int → Int → Int → Int → Int → List (S48) → List (S50) → Option (Bool)
 | 0, _, _, _, _, _, _, _, _, _, _ => none
 | k + 1, x97, x153000, x153001, x153002, x153003, x153004, x153005, x153006, x153007, x153008 => if x97 = true then (some false) else ((spec_l1In.f x153002 1 3).bind fun t167 => (if t167 = true then ((spec_l1In.f x153004 0 999).bind fun t168 => (if t168 = true then ((spec_l1In.f x153005 1 1000).bind fun t169 => (if t169 = true then (if ((x153002 == 2) == (decide (x153006 > 0))) = true then ((spec_l1In.f x153006 0 999).bind fun t170 => (if t170 = true then (some (decide ((x153007.length : Int) ≤ 60))) else (some false))) else (some false)) else (some false))) else (some false))) else (some false)))
end
def spec_IsValidTransaction.f (k : Nat) (a0_0 : Int) (a0_1 : Int) (a0_2 : Int) (a0_3 : Int) (a0_4 : Int) (a0_5 : Int) (a0_6 : Int) (l0_7 : List (S48)) (l0_8 : List (S50)) : Option (Bool) := spec_IsValidTransaction.l0 k 0 a0_0 a0_1 a0_2 a0_3 a0_4 a0_5 a0_6 l0_7 l0_8
theorem spec_IsValidTransaction.mono_l : ∀ k, (∀ y0 y1 y2 y3 y4 y5 y6 y7 y8 y9, LeO (spec_IsValidTransaction.l0 k y0 y1 y2 y3 y4 y5 y6 y7 y8 y9) (spec_IsValidTransaction.l0 (k + 1) y0 y1 y2 y3 y4 y5 y6 y7 y8 y9)) ∧ (∀ y0 y1 y2 y3 y4 y5 y6 y7 y8 y9 y10, LeO (spec_IsValidTransaction.j1 k y0 y1 y2 y3 y4 y5 y6 y7 y8 y9 y10) (spec_IsValidTransaction.j1 (k + 1) y0 y1 y2 y3 y4 y5 y6 y7 y8 y9 y10)) ∧ (∀ y0 y1 y2 y3 y4 y5 y6 y7 y8 y9, LeO (spec_IsValidTransaction.l1 k y0 y1 y2 y3 y4 y5 y6 y7 y8 y9) (spec_IsValidTransaction.l1 (k + 1) y0 y1 y2 y3 y4 y5 y6 y7 y8 y9)) ∧ (∀ y0 y1 y2 y3 y4 y5 y6 y7 y8 y9 y10, LeO (spec_IsValidTransaction.j3 k y0 y1 y2 y3 y4 y5 y6 y7 y8 y9 y10) (spec_IsValidTransaction.j3 (k + 1) y0 y1 y2 y3 y4 y5 y6 y7 y8 y9 y10)) ∧ (∀ y0 y1 y2 y3 y4 y5 y6 y7 y8 y9, LeO (spec_IsValidTransaction.j4 k y0 y1 y2 y3 y4 y5 y6 y7 y8 y9) (spec_IsValidTransaction.j4 (k + 1) y0 y1 y2 y3 y4 y5 y6 y7 y8 y9))
 | 0 => ⟨fun _ _ _ _ _ _ _ _ _ _ r h => by simp [spec_IsValidTransaction.l0] at h, fun _ _ _ _ _ _ _ _ _ _ _ r h => by simp [spec_IsValidTransaction.j1] at h, fun _ _ _ _ _ _ _ _ _ _ r h => by simp [spec_IsValidTransaction.l1] at h, fun _ _ _ _ _ _ _ _ _ _ _ r h => by simp [spec_IsValidTransaction.j3] at h, fun _ _ _ _ _ _ _ _ _ _ r h => by simp [spec_IsValidTransaction.j4] at h⟩
 | k + 1 => by
  obtain ⟨ih0, ih1, ih2, ih3, ih4⟩ := spec_IsValidTransaction.mono_l k
  refine ⟨?_, ?_, ?_, ?_, ?_⟩
  ·intro y0 y1 y2 y3 y4 y5 y6 y7 y8 y9
   unfold spec_IsValidTransaction.l0
   repeat' first
   | (with_reducible exact ih0 _ _ _ _ _ _ _ _ _ _)
   | (with_reducible exact ih1 _ _ _ _ _ _ _ _ _ _ _)
   | (with_reducible exact ih2 _ _ _ _ _ _ _ _ _ _)
   | (with_reducible exact ih3 _ _ _ _ _ _ _ _ _ _ _)
   | (with_reducible exact ih4 _ _ _ _ _ _ _ _ _ _)
   | (with_reducible first | exact LeO.refl _ | exact LeO.none _ | refine LeO.ite ?_ ?_ | refine LeO.bind ?_ (fun _ => ?_))
   | exact ih0 _ _ _ _ _ _ _ _ _ _
   | exact ih1 _ _ _ _ _ _ _ _ _ _ _
   | exact ih2 _ _ _ _ _ _ _ _ _ _
   | exact ih3 _ _ _ _ _ _ _ _ _ _ _
   | exact ih4 _ _ _ _ _ _ _ _ _ _
   | exact LeO.none _ | refine LeO.ite ?_ ?_ | refine LeO.bind ?_ (fun _ => ?_)
  ·intro y0 y1 y2 y3 y4 y5 y6 y7 y8 y9 y10
   unfold spec_IsValidTransaction.j1
   repeat' first
   | (with_reducible exact ih0 _ _ _ _ _ _ _ _ _ _)
   | (with_reducible exact ih1 _ _ _ _ _ _ _ _ _ _ _)
   | (with_reducible exact ih2 _ _ _ _ _ _ _ _ _ _)
   | (with_reducible exact ih3 _ _ _ _ _ _ _ _ _ _ _)
   | (with_reducible exact ih4 _ _ _ _ _ _ _ _ _ _)
   | (with_reducible first | exact LeO.refl _ | exact LeO.none _ | refine LeO.ite ?_ ?_ | refine LeO.bind ?_ (fun _ => ?_))
   | exact ih0 _ _ _ _ _ _ _ _ _ _
   | exact ih1 _ _ _ _ _ _ _ _ _ _ _
   | exact ih2 _ _ _ _ _ _ _ _ _ _
   | exact ih3 _ _ _ _ _ _ _ _ _ _ _
   | exact ih4 _ _ _ _ _ _ _ _ _ _
   | exact LeO.none _ | refine LeO.ite ?_ ?_ | refine LeO.bind ?_ (fun _ => ?_)
  ·intro y0 y1 y2 y3 y4 y5 y6 y7 y8 y9
   unfold spec_IsValidTransaction.l1
   repeat' first
   | (with_reducible exact ih0 _ _ _ _ _ _ _ _ _ _)
   | (with_reducible exact ih1 _ _ _ _ _ _ _ _ _ _ _)
   | (with_reducible exact ih2 _ _ _ _ _ _ _ _ _ _)
   | (with_reducible exact ih3 _ _ _ _ _ _ _ _ _ _ _)
   | (with_reducible exact ih4 _ _ _ _ _ _ _ _ _ _)
   | (with_reducible first | exact LeO.refl _ | exact LeO.none _ | refine LeO.ite ?_ ?_ | refine LeO.bind ?_ (fun _ => ?_))
   | exact ih0 _ _ _ _ _ _ _ _ _ _
   | exact ih1 _ _ _ _ _ _ _ _ _ _ _
   | exact ih2 _ _ _ _ _ _ _ _ _ _
   | exact ih3 _ _ _ _ _ _ _ _ _ _ _
   | exact ih4 _ _ _ _ _ _ _ _ _ _
   | exact LeO.none _ | refine LeO.ite ?_ ?_ | refine LeO.bind ?_ (fun _ => ?_)
  ·intro y0 y1 y2 y3 y4 y5 y6 y7 y8 y9 y10
   unfold spec_IsValidTransaction.j3
   repeat' first
   | (with_reducible exact ih0 _ _ _ _ _ _ _ _ _ _)
   | (with_reducible exact ih1 _ _ _ _ _ _ _ _ _ _ _)
   | (with_reducible exact ih2 _ _ _ _ _ _ _ _ _ _)
   | (with_reducible exact ih3 _ _ _ _ _ _ _ _ _ _ _)
   | (with_reducible exact ih4 _ _ _ _ _ _ _ _ _ _)
   | (with_reducible first | exact LeO.refl _ | exact LeO.none _ | refine LeO.ite ?_ ?_ | refine LeO.bind ?_ (fun _ => ?_))
   | exact ih0 _ _ _ _ _ _ _ _ _ _
   | exact ih1 _ _ _ _ _ _ _ _ _ _ _
   | exact ih2 _ _ _ _ _ _ _ _ _ _
   | exact ih3 _ _ _ _ _ _ _ _ _ _ _
   | exact ih4 _ _ _ _ _ _ _ _ _ _
   | exact LeO.none _ | refine LeO.ite ?_ ?_ | refine LeO.bind ?_ (fun _ => ?_)
  ·intro y0 y1 y2 y3 y4 y5 y6 y7 y8 y9
   unfold spec_IsValidTransaction.j4
   repeat' first
   | (with_reducible exact ih0 _ _ _ _ _ _ _ _ _ _)
   | (with_reducible exact ih1 _ _ _ _ _ _ _ _ _ _ _)
   | (with_reducible exact ih2 _ _ _ _ _ _ _ _ _ _)
   | (with_reducible exact ih3 _ _ _ _ _ _ _ _ _ _ _)
   | (with_reducible exact ih4 _ _ _ _ _ _ _ _ _ _)
   | (with_reducible first | exact LeO.refl _ | exact LeO.none _ | refine LeO.ite ?_ ?_ | refine LeO.bind ?_ (fun _ => ?_))
   | exact ih0 _ _ _ _ _ _ _ _ _ _
   | exact ih1 _ _ _ _ _ _ _ _ _ _ _
   | exact ih2 _ _ _ _ _ _ _ _ _ _
   | exact ih3 _ _ _ _ _ _ _ _ _ _ _
   | exact ih4 _ _ _ _ _ _ _ _ _ _
   | exact LeO.none _ | refine LeO.ite ?_ ?_ | refine LeO.bind ?_ (fun _ => ?_)
theorem spec_IsValidTransaction.mono : ∀ a0 a1 a2 a3 a4 a5 a6 a7 a8 k, LeO (spec_IsValidTransaction.f k a0 a1 a2 a3 a4 a5 a6 a7 a8) (spec_IsValidTransaction.f (k + 1) a0 a1 a2 a3 a4 a5 a6 a7 a8) := by
 intro a0 a1 a2 a3 a4 a5 a6 a7 a8 k
 obtain ⟨ih0, ih1, ih2, ih3, ih4⟩ := spec_IsValidTransaction.mono_l k
 unfold spec_IsValidTransaction.f
 repeat' first
   | (with_reducible exact ih0 _ _ _ _ _ _ _ _ _ _)
   | (with_reducible exact ih1 _ _ _ _ _ _ _ _ _ _ _)
   | (with_reducible exact ih2 _ _ _ _ _ _ _ _ _ _)
   | (with_reducible exact ih3 _ _ _ _ _ _ _ _ _ _ _)
   | (with_reducible exact ih4 _ _ _ _ _ _ _ _ _ _)
   | (with_reducible first | exact LeO.refl _ | exact LeO.none _ | refine LeO.ite ?_ ?_ | refine LeO.bind ?_ (fun _ => ?_))
   | exact ih0 _ _ _ _ _ _ _ _ _ _
   | exact ih1 _ _ _ _ _ _ _ _ _ _ _
   | exact ih2 _ _ _ _ _ _ _ _ _ _
   | exact ih3 _ _ _ _ _ _ _ _ _ _ _
   | exact ih4 _ _ _ _ _ _ _ _ _ _
   | exact LeO.none _ | refine LeO.ite ?_ ?_ | refine LeO.bind ?_ (fun _ => ?_)
def spec_IsValidTransaction.T5 : Bool × List (List Nat × List Nat) := (true, [([], []), ([0], [0]), ([1], [1]), ([2], [2]), ([3, 2], [3]), ([4], [4]), ([5, 4], [4, 5]), ([6, 4, 4], [4, 6]), ([7, 4], [4, 7]), ([4, 8], [4, 8]), ([9, 7], [9]), ([10], [10]), ([11, 10], [10, 11]), ([12, 10, 10], [10, 12]), ([13], [13]), ([14, 13], [13, 14]), ([13], [13]), ([16, 13], [13, 16]), ([15, 17, 13], [13, 15, 17]), ([18, 13], [13, 18]), ([13], [13]), ([19, 20, 13, 13], [13, 19, 20]), ([21, 13], [13, 21]), ([13, 22, 10], [10, 13, 22]), ([10, 23], [10, 23])])
def spec_IsValidTransaction.B5 : List Nat := [0, 1, 3, 7, 15, 31, 63, 127, 255, 511, 1023, 2047, 4095, 8191, 16383, 32767, 16383, 81919, 262143, 524287, 16383, 2097151, 4194303, 8388607, 16777215]
theorem spec_IsValidTransaction.tab5 : rtab .any (opsOf Tryz.f39 5) = spec_IsValidTransaction.T5 := by kernel_rfl
theorem spec_IsValidTransaction.bits5 : waitsOk spec_IsValidTransaction.T5.2 spec_IsValidTransaction.B5 = true := by kernel_rfl
def spec_IsValidTransaction.T11 : Bool × List (List Nat × List Nat) := (true, [([], []), ([0], [0]), ([1], [1]), ([2], [2]), ([3, 2], [3]), ([4], [4]), ([5, 4], [4, 5]), ([6, 4, 4], [4, 6]), ([7, 4], [4, 7]), ([4, 8], [4, 8]), ([9, 7], [9]), ([10], [10]), ([11, 10], [10, 11]), ([12, 10, 10], [10, 12]), ([13], [13]), ([14, 13], [13, 14]), ([13], [13]), ([16, 13], [13, 16]), ([15, 17, 13], [13, 15, 17]), ([18, 13], [13, 18]), ([19, 13], [13, 19]), ([13], [13]), ([21, 13], [13, 21]), ([20, 22, 13], [13, 20, 22]), ([13, 23, 10], [10, 13, 23]), ([10, 24], [10, 24])])
def spec_IsValidTransaction.B11 : List Nat := [0, 1, 3, 7, 15, 31, 63, 127, 255, 511, 1023, 2047, 4095, 8191, 16383, 32767, 16383, 81919, 262143, 524287, 1048575, 16383, 2113535, 8388607, 16777215, 33554431]
theorem spec_IsValidTransaction.tab11 : rtab .any (opsOf Tryz.f39 11) = spec_IsValidTransaction.T11 := by kernel_rfl
theorem spec_IsValidTransaction.bits11 : waitsOk spec_IsValidTransaction.T11.2 spec_IsValidTransaction.B11 = true := by kernel_rfl
theorem spec_IsValidTransaction.calls (k : Nat) (a0_0 : Int) (a0_1 : Int) (a0_2 : Int) (a0_3 : Int) (a0_4 : Int) (a0_5 : Int) (a0_6 : Int) (A0_7 : Option Addr) (c0_7 : Nat) (l0_7 : List (S48)) (A0_8 : Option Addr) (c0_8 : Nat) (l0_8 : List (S50)) (r : Bool) (w : World) (hr0_7 : Kd.C k48 w A0_7 l0_7.length l0_7) (hc0_7 : l0_7.length ≤ c0_7) (hr0_8 : Kd.C k50 w A0_8 l0_8.length l0_8) (hc0_8 : l0_8.length ≤ c0_8) (h : spec_IsValidTransaction.f k a0_0 a0_1 a0_2 a0_3 a0_4 a0_5 a0_6 l0_7 l0_8 = some r) :
  Calls Tryz.prog 39 #[.agg #[.int .i64 a0_0, .int .i64 a0_1, .int .i64 a0_2, .int .i64 a0_3, .int .i64 a0_4, .int .i64 a0_5, .int .i64 a0_6, .slice A0_7 l0_7.length c0_7, .slice A0_8 l0_8.length c0_8]] w fun e w' => e = .returned (.bool r) ∧ Below w.heap.size w w' := by
 have hu65 := Tryz.underlying65
 have hu48 := Tryz.underlying48
 have hu50 := Tryz.underlying50
 have HR0_7 := AM_ hr0_7
 have HC0_7 := AM_ hc0_7
 clear hr0_7 hc0_7
 have HR0_8 := AM_ hr0_8
 have HC0_8 := AM_ hc0_8
 clear hr0_8 hc0_8
 have HB := AM_ (Below.refl w.heap.size w)
 have H : (spec_IsValidTransaction.l0 k 0 a0_0 a0_1 a0_2 a0_3 a0_4 a0_5 a0_6 l0_7 l0_8) = some r := h
 clear h
 have H' := AM_ H
 clear H
 go_enter Tryz.func39, Tryz.ntmps39
 go_wp2_with (first | ((with_reducible refine gate_dst (N := 1) rfl ?_); (try (refine gate_guard (by rfl) ?_; dsimp only)); refine box_event ?hg (N := 1) ?hd (cs := #[.int .i64 a0_0, .int .i64 a0_1, .int .i64 a0_2, .int .i64 a0_3, .int .i64 a0_4, .int .i64 a0_5, .int .i64 a0_6, .slice A0_7 l0_7.length c0_7, .slice A0_8 l0_8.length c0_8]) (t := 65) ?hr ?_; (case hd => rfl); (case hg => rfl); (case hr => first | (go_simp; done) | (go_simp; rfl)); intro gb152 hg w2 hbox hb; have BK152 := AM_ (hbox); have GW152 := AM_ ((GS HB.out hg)); have GE152 := AM_ ((GS HB.out hg)); replace HB := AM_ (below_step (BT HB.out) hb); clear hb hbox hg))
 go_loopg [3] k (fun kq v3 w' => ∃ (x3_1 : Int), v3 = .int .i64 x3_1 ∧ Aside0 (spec_IsValidTransaction.l0 kq x3_1 a0_0 a0_1 a0_2 a0_3 a0_4 a0_5 a0_6 l0_7 l0_8 = some r) ∧ Aside0 (kq ≤ k) ∧ Aside0 (w'.heap[gb152]? = some (.cells #[.int .i64 a0_0, .int .i64 a0_1, .int .i64 a0_2, .int .i64 a0_3, .int .i64 a0_4, .int .i64 a0_5, .int .i64 a0_6, (.slice A0_7 l0_7.length c0_7), (.slice A0_8 l0_8.length c0_8)] 65 (0, 0))) ∧ Aside0 (Below w.heap.size w w'))
 case atStart => exact ⟨(0), (by first | rfl | (simp; done) | (simp [*]; done)), H', ⟨Nat.le_refl _⟩, ⟨BH BK152.out⟩, ⟨BT HB.out⟩⟩
 case round =>
  clear H'
  try clear p2
  obtain ⟨x3_1, rfl, HA, HK1, BK152, HB⟩ := hrel
  cases gk with
  | zero => exact absurd HA.out (by simp [spec_IsValidTransaction.l0])
  | succ k1 =>
   have H := HA.out
   clear HA
   simp only [spec_IsValidTransaction.l0] at H
   by_cases c3 : x3_1 < (l0_7.length : Int)
   ·rw [if_pos c3] at H
    have c3b0 : decide (x3_1 < (l0_7.length : Int)) = true := decide_eq_true c3
    clear c3
    replace H := HI H
    obtain ⟨c4, H⟩ := H
    have c4b0 : decide (0 ≤ x3_1) = true := decide_eq_true c4
    clear c4
    have HC5 := AM_ H
    clear H
    obtain ⟨hcz6_0, hcz6_1, hcz6_2, hcz6_3, hcz6_4, hcz6_5, hcz6_6, hcz6_7, hcz6_8, hfz6_0, hfz6_1, hfz6_2, hfz6_3, hfz6_4, hfz6_5, hfz6_6, hfz6_7, hfz6_8⟩ := bk9 BK152.out
    have p153 : 0 ≤ (x3_1 : Int) := DT
    have q153 : x3_1 < (l0_7.length : Int) := DT
    obtain ⟨ad153, e153, hx153_0, hx153_1⟩ := at_T48 HR0_7.out x3_1 p153 q153
    cases e153
    replace hx153_0 := BC HB.out hx153_0
    replace hx153_1 := BC HB.out hx153_1
    replace p153 := eq_true p153
    replace q153 := eq_true q153
    go_upto_region 5 with (first | ((with_reducible refine gate_dst (N := 4) rfl ?_); (try (refine gate_guard (by rfl) ?_; dsimp only)); refine box_event ?hg (N := 4) ?hd (cs := #[.int .i64 0, .int .i64 0]) (t := 48) ?hr ?_; (case hd => rfl); (case hg => rfl); (case hr => first | (go_simp; done) | (go_simp; rfl)); intro gb154 hg w7 hbox hb; have BK154 := AM_ (hbox); have GW154 := AM_ ((GS HB.out hg)); have GE154 := AM_ ((GS HB.out hg)); replace HB := AM_ (below_step (BT HB.out) hb); have NB152_154 := AM_ ((NL BK152.out hg)); have NB154_152 := AM_ ((NG BK152.out hg)); replace BK152 := AM_ (BB BK152.out hb); clear hb hbox hg; have hnb8 := NB154_152.out; have hnc8 := NB152_154.out; obtain ⟨hcz9_0, hcz9_1, hfz9_0, hfz9_1⟩ := bk2 BK154.out))
    (try simp only [pA, pS, pZ, pK])
    go_cut [43] (fun v43 wc => ∃ (kq : Nat) (x43_4 : Bool), v43 = .bool x43_4 ∧ Aside0 (spec_IsValidTransaction.j1 kq x3_1 x43_4 a0_0 a0_1 a0_2 a0_3 a0_4 a0_5 a0_6 l0_7 l0_8 = some r) ∧ Aside0 (kq ≤ k1) ∧ Aside0 (wc.heap[gb152]? = some (.cells #[.int .i64 a0_0, .int .i64 a0_1, .int .i64 a0_2, .int .i64 a0_3, .int .i64 a0_4, .int .i64 a0_5, .int .i64 a0_6, (.slice (some ad153) l0_7.length c0_7), (.slice A0_8 l0_8.length c0_8)] 65 (0, 0))) ∧ Aside0 (wc.heap[gb154]? = some (.cells #[.int .i64 ((rd_T48 l0_7 x3_1).f0), .int .i64 ((rd_T48 l0_7 x3_1).f1)] 48 (0, 0))) ∧ Aside0 (Below w.heap.size w wc))
    case first =>
     have H := HC5.out
     clear HC5
     replace H := Option.bind_eq_some_iff.mp H
     obtain ⟨t155, A100, H⟩ := H
     replace H : (if t155 = true then ((spec_l1In.f ((rd_T48 l0_7 x3_1).f1) 0 999).bind fun t156 => (if t156 = true then (if x3_1 > 0 then (if 0 ≤ (wrap64 (x3_1 - 1)) then (if (wrap64 (x3_1 - 1)) < (l0_7.length : Int) then ((spec_l5Before.f ((rd_T48 l0_7 (wrap64 (x3_1 - 1))).f0) ((rd_T48 l0_7 (wrap64 (x3_1 - 1))).f1) ((rd_T48 l0_7 x3_1).f0) ((rd_T48 l0_7 x3_1).f1)).bind fun t158 => (spec_IsValidTransaction.j1 k1 x3_1 (!t158) a0_0 a0_1 a0_2 a0_3 a0_4 a0_5 a0_6 l0_7 l0_8)) else (none)) else (none)) else (spec_IsValidTransaction.j1 k1 x3_1 false a0_0 a0_1 a0_2 a0_3 a0_4 a0_5 a0_6 l0_7 l0_8)) else (spec_IsValidTransaction.j1 k1 x3_1 true a0_0 a0_1 a0_2 a0_3 a0_4 a0_5 a0_6 l0_7 l0_8))) else (spec_IsValidTransaction.j1 k1 x3_1 true a0_0 a0_1 a0_2 a0_3 a0_4 a0_5 a0_6 l0_7 l0_8)) = some r := H
     have A10 := AM_ A100
     clear A100
     by_cases c11 : t155 = true
     rotate_left
     ·replace c11 := Bool.eq_false_iff.mpr c11
      subst c11
      have H1 : (spec_IsValidTransaction.j1 k1 x3_1 true a0_0 a0_1 a0_2 a0_3 a0_4 a0_5 a0_6 l0_7 l0_8) = some r := by rw [if_neg (show ¬ (false = true) by decide)] at H; exact H
      clear H
      have H := H1
      clear H1
      have H' := AM_ H
      clear H
      try go_wp2
      have n0_ : Aside0 (((w7.setCell ⟨gb154, 0, none⟩ (.int .i64 ((rd_T48 l0_7 x3_1).f0))).setCell ⟨gb154, 1, none⟩ (.int .i64 ((rd_T48 l0_7 x3_1).f1))).heap[gb152]? = some (.cells #[.int .i64 a0_0, .int .i64 a0_1, .int .i64 a0_2, .int .i64 a0_3, .int .i64 a0_4, .int .i64 a0_5, .int .i64 a0_6, .slice (some ad153) l0_7.length c0_7, .slice A0_8 l0_8.length c0_8] 65 (0, 0))) := ⟨BG BK152.out NB152_154.out⟩
      have n1_ : Aside0 (((w7.setCell ⟨gb154, 0, none⟩ (.int .i64 ((rd_T48 l0_7 x3_1).f0))).setCell ⟨gb154, 1, none⟩ (.int .i64 ((rd_T48 l0_7 x3_1).f1))).heap[gb154]? = some (.cells #[.int .i64 ((rd_T48 l0_7 x3_1).f0), .int .i64 ((rd_T48 l0_7 x3_1).f1)] 48 (0, 0))) := ⟨BQ BK154.out⟩
      have n2_ : Aside0 (Below w.heap.size w ((w7.setCell ⟨gb154, 0, none⟩ (.int .i64 ((rd_T48 l0_7 x3_1).f0))).setCell ⟨gb154, 1, none⟩ (.int .i64 ((rd_T48 l0_7 x3_1).f1)))) := ⟨BT HB.out⟩
      (try clear BK152)
      (try clear BK154)
      (try clear HB)
      generalize ((w7.setCell ⟨gb154, 0, none⟩ (.int .i64 ((rd_T48 l0_7 x3_1).f0))).setCell ⟨gb154, 1, none⟩ (.int .i64 ((rd_T48 l0_7 x3_1).f1))) = w26 at n0_ n1_ n2_ ⊢
      have BK152 := n0_
      have BK154 := n1_
      have HB := n2_
      clear n0_ n1_ n2_
      replace BK152 := AM_ (blk_drew BK152.out)
      replace BK154 := AM_ (blk_drew BK154.out)
      replace HB := AM_ (below_drew1 HB.out)
      refine start_ (n := 25) (S := fun w' => w'.cell? ⟨gb154, 0, none⟩ = some (.int .i64 ((rd_T48 l0_7 x3_1).f0)) ∧ w'.cell? ⟨gb154, 1, none⟩ = some (.int .i64 ((rd_T48 l0_7 x3_1).f1))) (ds := []) (bs 0 25) (by kernel_rfl) rfl rfl ⟨bc BK154.out 0, bc BK154.out 1⟩ (fun hHeld => ?_); refine with_tabW spec_IsValidTransaction.tab5 spec_IsValidTransaction.bits5 (fun HT_ HW_ => ?_)
      generalize w26.drew = w27 at BK152 BK154 HB hHeld ⊢
      refine pu (i := 0) (N := some 19) (v := ?_) (a' := ?_) (bs 1 25) rfl rfl HT_ ?_ ?_ ?_
      rotate_left
      ·intro w'
       go_simp
       with_reducible rfl
      rotate_left
      ·simp only[pA,pS,pZ,pK,pV]
       rfl
      refine tk (i := 1) (N := some 20) (v := ?_) (a' := ?_) (bs 3 25) rfl rfl HT_ HW_ ?_ hHeld ?_ ?_
      rotate_left
      ·rintro w' ⟨s0, s1⟩
       go_simp
       with_reducible rfl
      rotate_left
      ·simp only[pA,pS,pZ,pK,pV]
       rfl
      refine one_ (i := 2) (N := some 21) (bs 7 25) rfl rfl (one_of HT_.out (by kernel_rfl)) (by decide) (fun K hK => ?_)
      refine goes_ Tryz.func59 (by kernel_rfl) rfl #[.int .i64 ((rd_T48 l0_7 x3_1).f0), .int .i64 0, .int .i64 5] (by rfl) rfl rfl (by (try simp only [List.map_toArray, List.map_cons, List.map_nil]); first | done | rfl | (simp only [List.length_drop, List.length_take]; rfl)) ?_
      with_reducible refine (spec_l1In.calls ((rd_T48 l0_7 x3_1).f0) 0 5 false _ A10.out).mono ?_
      rintro e w' ⟨rfl, ⟨nd, rfl⟩⟩
      refine ⟨_, rfl, ?_⟩
      refine hK.out _ _ ⟨bc BK154.out 0, bc BK154.out 1⟩ (fun hHeld => ?_)
      clear hK K
      refine norm_ (a' := ?_) ?_ ?_
      rotate_left
      ·show Act.put _ (some 21) _ = _
       simp only[pA,pS,pZ,pK,pV]
       rfl
      refine pu (i := 3) (N := some 22) (v := ?_) (a' := ?_) (bs 15 25) rfl rfl HT_ ?_ ?_ ?_
      rotate_left
      ·intro w'
       go_simp
       with_reducible rfl
      rotate_left
      ·simp only[pA,pS,pZ,pK,pV]
       rfl
      refine pu (i := 4) (N := some 23) (v := ?_) (a' := ?_) (bs 31 25) rfl rfl HT_ ?_ ?_ ?_
      rotate_left
      ·intro w'
       go_simp
       with_reducible rfl
      rotate_left
      ·simp only[pA,pS,pZ,pK,pV]
       rfl
      refine pn (i := 5) (N := some 24) (v := undef) (a' := ?_) (bs 63 25) rfl rfl HT_ ?_ ?_
      rotate_left
      ·simp only[pA,pS,pZ,pK,pV]
       rfl
      refine pn (i := 6) (N := some 25) (v := undef) (a' := ?_) (bs 127 25) rfl rfl HT_ ?_ ?_
      rotate_left
      ·simp only[pA,pS,pZ,pK,pV]
       rfl
      refine pn (i := 7) (N := some 26) (v := undef) (a' := ?_) (bs 255 25) rfl rfl HT_ ?_ ?_
      rotate_left
      ·simp only[pA,pS,pZ,pK,pV]
       rfl
      refine pn (i := 8) (N := some 27) (v := undef) (a' := ?_) (bs 511 25) rfl rfl HT_ ?_ ?_
      rotate_left
      ·simp only[pA,pS,pZ,pK,pV]
       rfl
      refine pu (i := 9) (N := some 28) (v := ?_) (a' := ?_) (bs 1023 25) rfl rfl HT_ ?_ ?_ ?_
      rotate_left
      ·intro w'
       go_simp
       with_reducible rfl
      rotate_left
      ·simp only[pA,pS,pZ,pK,pV]
       rfl
      refine pu (i := 10) (N := some 29) (v := ?_) (a' := ?_) (bs 2047 25) rfl rfl HT_ ?_ ?_ ?_
      rotate_left
      ·intro w'
       go_simp
       with_reducible rfl
      rotate_left
      ·simp only[pA,pS,pZ,pK,pV]
       rfl
      refine pn (i := 11) (N := some 30) (v := undef) (a' := ?_) (bs 4095 25) rfl rfl HT_ ?_ ?_
      rotate_left
      ·simp only[pA,pS,pZ,pK,pV]
       rfl
      refine pn (i := 12) (N := some 31) (v := undef) (a' := ?_) (bs 8191 25) rfl rfl HT_ ?_ ?_
      rotate_left
      ·simp only[pA,pS,pZ,pK,pV]
       rfl
      refine pn (i := 13) (N := some 32) (v := undef) (a' := ?_) (bs 16383 25) rfl rfl HT_ ?_ ?_
      rotate_left
      ·simp only[pA,pS,pZ,pK,pV]
       rfl
      refine pn (i := 14) (N := some 33) (v := undef) (a' := ?_) (bs 32767 25) rfl rfl HT_ ?_ ?_
      rotate_left
      ·simp only[pA,pS,pZ,pK,pV]
       rfl
      refine pn (i := 15) (N := some 34) (v := undef) (a' := ?_) (bs 65535 25) rfl rfl HT_ ?_ ?_
      rotate_left
      ·simp only[pA,pS,pZ,pK,pV]
       rfl
      refine pn (i := 16) (N := some 35) (v := undef) (a' := ?_) (bs 131071 25) rfl rfl HT_ ?_ ?_
      rotate_left
      ·simp only[pA,pS,pZ,pK,pV]
       rfl
      refine pn (i := 17) (N := some 36) (v := undef) (a' := ?_) (bs 262143 25) rfl rfl HT_ ?_ ?_
      rotate_left
      ·simp only[pA,pS,pZ,pK,pV]
       rfl
      refine pn (i := 18) (N := some 37) (v := undef) (a' := ?_) (bs 524287 25) rfl rfl HT_ ?_ ?_
      rotate_left
      ·simp only[pA,pS,pZ,pK,pV]
       rfl
      refine pn (i := 19) (N := some 38) (v := undef) (a' := ?_) (bs 1048575 25) rfl rfl HT_ ?_ ?_
      rotate_left
      ·simp only[pA,pS,pZ,pK,pV]
       rfl
      refine pn (i := 20) (N := some 39) (v := undef) (a' := ?_) (bs 2097151 25) rfl rfl HT_ ?_ ?_
      rotate_left
      ·simp only[pA,pS,pZ,pK,pV]
       rfl
      refine pn (i := 21) (N := some 40) (v := undef) (a' := ?_) (bs 4194303 25) rfl rfl HT_ ?_ ?_
      rotate_left
      ·simp only[pA,pS,pZ,pK,pV]
       rfl
      refine pn (i := 22) (N := some 41) (v := undef) (a' := ?_) (bs 8388607 25) rfl rfl HT_ ?_ ?_
      rotate_left
      ·simp only[pA,pS,pZ,pK,pV]
       rfl
      refine pn (i := 23) (N := some 42) (v := undef) (a' := ?_) (bs 16777215 25) rfl rfl HT_ ?_ ?_
      rotate_left
      ·simp only[pA,pS,pZ,pK,pV]
       rfl
      refine pu (i := 24) (N := some 43) (v := ?_) (a' := ?_) (bs 33554431 25) rfl rfl HT_ ?_ ?_ ?_
      rotate_left
      ·intro w'
       go_simp
       with_reducible rfl
      rotate_left
      ·simp only[pA,pS,pZ,pK,pV]
       rfl
      refine done_ (done_of HT_.out (by kernel_rfl)) ?_
      try go_wp2
      go_meet
      case rel => exact ⟨_, (true), (by first | rfl | (simp; done) | (simp [*]; done)), H', ⟨by have := HK1.out; first | omega | exact Nat.le_refl _⟩, ⟨BH BK152.out⟩, ⟨BH BK154.out⟩, ⟨BT HB.out⟩⟩
     subst c11
     have H1 : ((spec_l1In.f ((rd_T48 l0_7 x3_1).f1) 0 999).bind fun t156 => (if t156 = true then (if x3_1 > 0 then (if 0 ≤ (wrap64 (x3_1 - 1)) then (if (wrap64 (x3_1 - 1)) < (l0_7.length : Int) then ((spec_l5Before.f ((rd_T48 l0_7 (wrap64 (x3_1 - 1))).f0) ((rd_T48 l0_7 (wrap64 (x3_1 - 1))).f1) ((rd_T48 l0_7 x3_1).f0) ((rd_T48 l0_7 x3_1).f1)).bind fun t158 => (spec_IsValidTransaction.j1 k1 x3_1 (!t158) a0_0 a0_1 a0_2 a0_3 a0_4 a0_5 a0_6 l0_7 l0_8)) else (none)) else (none)) else (spec_IsValidTransaction.j1 k1 x3_1 false a0_0 a0_1 a0_2 a0_3 a0_4 a0_5 a0_6 l0_7 l0_8)) else (spec_IsValidTransaction.j1 k1 x3_1 true a0_0 a0_1 a0_2 a0_3 a0_4 a0_5 a0_6 l0_7 l0_8))) = some r := by rw [if_pos rfl] at H; exact H
     clear H
     have H := H1
     clear H1
     replace H := Option.bind_eq_some_iff.mp H
     obtain ⟨t156, A120, H⟩ := H
     replace H : (if t156 = true then (if x3_1 > 0 then (if 0 ≤ (wrap64 (x3_1 - 1)) then (if (wrap64 (x3_1 - 1)) < (l0_7.length : Int) then ((spec_l5Before.f ((rd_T48 l0_7 (wrap64 (x3_1 - 1))).f0) ((rd_T48 l0_7 (wrap64 (x3_1 - 1))).f1) ((rd_T48 l0_7 x3_1).f0) ((rd_T48 l0_7 x3_1).f1)).bind fun t158 => (spec_IsValidTransaction.j1 k1 x3_1 (!t158) a0_0 a0_1 a0_2 a0_3 a0_4 a0_5 a0_6 l0_7 l0_8)) else (none)) else (none)) else (spec_IsValidTransaction.j1 k1 x3_1 false a0_0 a0_1 a0_2 a0_3 a0_4 a0_5 a0_6 l0_7 l0_8)) else (spec_IsValidTransaction.j1 k1 x3_1 true a0_0 a0_1 a0_2 a0_3 a0_4 a0_5 a0_6 l0_7 l0_8)) = some r := H
     have A12 := AM_ A120
     clear A120
     by_cases c13 : t156 = true
     rotate_left
     ·replace c13 := Bool.eq_false_iff.mpr c13
      subst c13
      have H1 : (spec_IsValidTransaction.j1 k1 x3_1 true a0_0 a0_1 a0_2 a0_3 a0_4 a0_5 a0_6 l0_7 l0_8) = some r := by rw [if_neg (show ¬ (false = true) by decide)] at H; exact H
      clear H
      have H := H1
      clear H1
      have H' := AM_ H
      clear H
      try go_wp2
      have n0_ : Aside0 (((w7.setCell ⟨gb154, 0, none⟩ (.int .i64 ((rd_T48 l0_7 x3_1).f0))).setCell ⟨gb154, 1, none⟩ (.int .i64 ((rd_T48 l0_7 x3_1).f1))).heap[gb152]? = some (.cells #[.int .i64 a0_0, .int .i64 a0_1, .int .i64 a0_2, .int .i64 a0_3, .int .i64 a0_4, .int .i64 a0_5, .int .i64 a0_6, .slice (some ad153) l0_7.length c0_7, .slice A0_8 l0_8.length c0_8] 65 (0, 0))) := ⟨BG BK152.out NB152_154.out⟩
      have n1_ : Aside0 (((w7.setCell ⟨gb154, 0, none⟩ (.int .i64 ((rd_T48 l0_7 x3_1).f0))).setCell ⟨gb154, 1, none⟩ (.int .i64 ((rd_T48 l0_7 x3_1).f1))).heap[gb154]? = some (.cells #[.int .i64 ((rd_T48 l0_7 x3_1).f0), .int .i64 ((rd_T48 l0_7 x3_1).f1)] 48 (0, 0))) := ⟨BQ BK154.out⟩
      have n2_ : Aside0 (Below w.heap.size w ((w7.setCell ⟨gb154, 0, none⟩ (.int .i64 ((rd_T48 l0_7 x3_1).f0))).setCell ⟨gb154, 1, none⟩ (.int .i64 ((rd_T48 l0_7 x3_1).f1)))) := ⟨BT HB.out⟩
      (try clear BK152)
      (try clear BK154)
      (try clear HB)
      generalize ((w7.setCell ⟨gb154, 0, none⟩ (.int .i64 ((rd_T48 l0_7 x3_1).f0))).setCell ⟨gb154, 1, none⟩ (.int .i64 ((rd_T48 l0_7 x3_1).f1))) = w24 at n0_ n1_ n2_ ⊢
      have BK152 := n0_
      have BK154 := n1_
      have HB := n2_
      clear n0_ n1_ n2_
      replace BK152 := AM_ (blk_drew BK152.out)
      replace BK154 := AM_ (blk_drew BK154.out)
      replace HB := AM_ (below_drew1 HB.out)
      refine start_ (n := 25) (S := fun w' => w'.cell? ⟨gb154, 0, none⟩ = some (.int .i64 ((rd_T48 l0_7 x3_1).f0)) ∧ w'.cell? ⟨gb154, 1, none⟩ = some (.int .i64 ((rd_T48 l0_7 x3_1).f1))) (ds := []) (bs 0 25) (by kernel_rfl) rfl rfl ⟨bc BK154.out 0, bc BK154.out 1⟩ (fun hHeld => ?_); refine with_tabW spec_IsValidTransaction.tab5 spec_IsValidTransaction.bits5 (fun HT_ HW_ => ?_)
      generalize w24.drew = w25 at BK152 BK154 HB hHeld ⊢
      refine pu (i := 0) (N := some 19) (v := ?_) (a' := ?_) (bs 1 25) rfl rfl HT_ ?_ ?_ ?_
      rotate_left
      ·intro w'
       go_simp
       with_reducible rfl
      rotate_left
      ·simp only[pA,pS,pZ,pK,pV]
       rfl
      refine tk (i := 1) (N := some 20) (v := ?_) (a' := ?_) (bs 3 25) rfl rfl HT_ HW_ ?_ hHeld ?_ ?_
      rotate_left
      ·rintro w' ⟨s0, s1⟩
       go_simp
       with_reducible rfl
      rotate_left
      ·simp only[pA,pS,pZ,pK,pV]
       rfl
      refine one_ (i := 2) (N := some 21) (bs 7 25) rfl rfl (one_of HT_.out (by kernel_rfl)) (by decide) (fun K hK => ?_)
      refine goes_ Tryz.func59 (by kernel_rfl) rfl #[.int .i64 ((rd_T48 l0_7 x3_1).f0), .int .i64 0, .int .i64 5] (by rfl) rfl rfl (by (try simp only [List.map_toArray, List.map_cons, List.map_nil]); first | done | rfl | (simp only [List.length_drop, List.length_take]; rfl)) ?_
      with_reducible refine (spec_l1In.calls ((rd_T48 l0_7 x3_1).f0) 0 5 true _ A10.out).mono ?_
      rintro e w' ⟨rfl, ⟨nd, rfl⟩⟩
      refine ⟨_, rfl, ?_⟩
      refine hK.out _ _ ⟨bc BK154.out 0, bc BK154.out 1⟩ (fun hHeld => ?_)
      clear hK K
      refine norm_ (a' := ?_) ?_ ?_
      rotate_left
      ·show Act.put _ (some 21) _ = _
       simp only[pA,pS,pZ,pK,pV]
       rfl
      refine pu (i := 3) (N := some 22) (v := ?_) (a' := ?_) (bs 15 25) rfl rfl HT_ ?_ ?_ ?_
      rotate_left
      ·intro w'
       go_simp
       with_reducible rfl
      rotate_left
      ·simp only[pA,pS,pZ,pK,pV]
       rfl
      refine pu (i := 4) (N := some 23) (v := ?_) (a' := ?_) (bs 31 25) rfl rfl HT_ ?_ ?_ ?_
      rotate_left
      ·intro w'
       go_simp
       with_reducible rfl
      rotate_left
      ·simp only[pA,pS,pZ,pK,pV]
       rfl
      refine pu (i := 5) (N := some 24) (v := ?_) (a' := ?_) (bs 63 25) rfl rfl HT_ ?_ ?_ ?_
      rotate_left
      ·intro w'
       go_simp
       with_reducible rfl
      rotate_left
      ·simp only[pA,pS,pZ,pK,pV]
       rfl
      refine tk (i := 6) (N := some 25) (v := ?_) (a' := ?_) (bs 127 25) rfl rfl HT_ HW_ ?_ hHeld ?_ ?_
      rotate_left
      ·rintro w' ⟨s0, s1⟩
       go_simp
       with_reducible rfl
      rotate_left
      ·simp only[pA,pS,pZ,pK,pV]
       rfl
      refine one_ (i := 7) (N := some 26) (bs 255 25) rfl rfl (one_of HT_.out (by kernel_rfl)) (by decide) (fun K hK => ?_)
      refine goes_ Tryz.func59 (by kernel_rfl) rfl #[.int .i64 ((rd_T48 l0_7 x3_1).f1), .int .i64 0, .int .i64 999] (by rfl) rfl rfl (by (try simp only [List.map_toArray, List.map_cons, List.map_nil]); first | done | rfl | (simp only [List.length_drop, List.length_take]; rfl)) ?_
      with_reducible refine (spec_l1In.calls ((rd_T48 l0_7 x3_1).f1) 0 999 false _ A12.out).mono ?_
      rintro e w' ⟨rfl, ⟨nd, rfl⟩⟩
      refine ⟨_, rfl, ?_⟩
      refine hK.out _ _ ⟨bc BK154.out 0, bc BK154.out 1⟩ (fun hHeld => ?_)
      clear hK K
      refine norm_ (a' := ?_) ?_ ?_
      rotate_left
      ·show Act.put _ (some 26) _ = _
       simp only[pA,pS,pZ,pK,pV]
       rfl
      refine pu (i := 8) (N := some 27) (v := ?_) (a' := ?_) (bs 511 25) rfl rfl HT_ ?_ ?_ ?_
      rotate_left
      ·intro w'
       go_simp
       with_reducible rfl
      rotate_left
      ·simp only[pA,pS,pZ,pK,pV]
       rfl
      refine pu (i := 9) (N := some 28) (v := ?_) (a' := ?_) (bs 1023 25) rfl rfl HT_ ?_ ?_ ?_
      rotate_left
      ·intro w'
       go_simp
       with_reducible rfl
      rotate_left
      ·simp only[pA,pS,pZ,pK,pV]
       rfl
      refine pu (i := 10) (N := some 29) (v := ?_) (a' := ?_) (bs 2047 25) rfl rfl HT_ ?_ ?_ ?_
      rotate_left
      ·intro w'
       go_simp
       with_reducible rfl
      rotate_left
      ·simp only[pA,pS,pZ,pK,pV]
       rfl
      refine pn (i := 11) (N := some 30) (v := undef) (a' := ?_) (bs 4095 25) rfl rfl HT_ ?_ ?_
      rotate_left
      ·simp only[pA,pS,pZ,pK,pV]
       rfl
      refine pn (i := 12) (N := some 31) (v := undef) (a' := ?_) (bs 8191 25) rfl rfl HT_ ?_ ?_
      rotate_left
      ·simp only[pA,pS,pZ,pK,pV]
       rfl
      refine pn (i := 13) (N := some 32) (v := undef) (a' := ?_) (bs 16383 25) rfl rfl HT_ ?_ ?_
      rotate_left
      ·simp only[pA,pS,pZ,pK,pV]
       rfl
      refine pn (i := 14) (N := some 33) (v := undef) (a' := ?_) (bs 32767 25) rfl rfl HT_ ?_ ?_
      rotate_left
      ·simp only[pA,pS,pZ,pK,pV]
       rfl
      refine pn (i := 15) (N := some 34) (v := undef) (a' := ?_) (bs 65535 25) rfl rfl HT_ ?_ ?_
      rotate_left
      ·simp only[pA,pS,pZ,pK,pV]
       rfl
      refine pn (i := 16) (N := some 35) (v := undef) (a' := ?_) (bs 131071 25) rfl rfl HT_ ?_ ?_
      rotate_left
      ·simp only[pA,pS,pZ,pK,pV]
       rfl
      refine pn (i := 17) (N := some 36) (v := undef) (a' := ?_) (bs 262143 25) rfl rfl HT_ ?_ ?_
      rotate_left
      ·simp only[pA,pS,pZ,pK,pV]
       rfl
      refine pn (i := 18) (N := some 37) (v := undef) (a' := ?_) (bs 524287 25) rfl rfl HT_ ?_ ?_
      rotate_left
      ·simp only[pA,pS,pZ,pK,pV]
       rfl
      refine pn (i := 19) (N := some 38) (v := undef) (a' := ?_) (bs 1048575 25) rfl rfl HT_ ?_ ?_
      rotate_left
      ·simp only[pA,pS,pZ,pK,pV]
       rfl
      refine pn (i := 20) (N := some 39) (v := undef) (a' := ?_) (bs 2097151 25) rfl rfl HT_ ?_ ?_
      rotate_left
      ·simp only[pA,pS,pZ,pK,pV]
       rfl
      refine pn (i := 21) (N := some 40) (v := undef) (a' := ?_) (bs 4194303 25) rfl rfl HT_ ?_ ?_
      rotate_left
      ·simp only[pA,pS,pZ,pK,pV]
       rfl
      refine pn (i := 22) (N := some 41) (v := undef) (a' := ?_) (bs 8388607 25) rfl rfl HT_ ?_ ?_
      rotate_left
      ·simp only[pA,pS,pZ,pK,pV]
       rfl
      refine pn (i := 23) (N := some 42) (v := undef) (a' := ?_) (bs 16777215 25) rfl rfl HT_ ?_ ?_
      rotate_left
      ·simp only[pA,pS,pZ,pK,pV]
       rfl
      refine pu (i := 24) (N := some 43) (v := ?_) (a' := ?_) (bs 33554431 25) rfl rfl HT_ ?_ ?_ ?_
      rotate_left
      ·intro w'
       go_simp
       with_reducible rfl
      rotate_left
      ·simp only[pA,pS,pZ,pK,pV]
       rfl
      refine done_ (done_of HT_.out (by kernel_rfl)) ?_
      try go_wp2
      go_meet
      case rel => exact ⟨_, (true), (by first | rfl | (simp; done) | (simp [*]; done)), H', ⟨by have := HK1.out; first | omega | exact Nat.le_refl _⟩, ⟨BH BK152.out⟩, ⟨BH BK154.out⟩, ⟨BT HB.out⟩⟩
     subst c13
     have H1 : (if x3_1 > 0 then (if 0 ≤ (wrap64 (x3_1 - 1)) then (if (wrap64 (x3_1 - 1)) < (l0_7.length : Int) then ((spec_l5Before.f ((rd_T48 l0_7 (wrap64 (x3_1 - 1))).f0) ((rd_T48 l0_7 (wrap64 (x3_1 - 1))).f1) ((rd_T48 l0_7 x3_1).f0) ((rd_T48 l0_7 x3_1).f1)).bind fun t158 => (spec_IsValidTransaction.j1 k1 x3_1 (!t158) a0_0 a0_1 a0_2 a0_3 a0_4 a0_5 a0_6 l0_7 l0_8)) else (none)) else (none)) else (spec_IsValidTransaction.j1 k1 x3_1 false a0_0 a0_1 a0_2 a0_3 a0_4 a0_5 a0_6 l0_7 l0_8)) = some r := by rw [if_pos rfl] at H; exact H
     clear H
     have H := H1
     clear H1
     by_cases c14 : x3_1 > 0
     rotate_left
     ·rw [if_neg c14] at H
      have c14b0 : decide (0 < x3_1) = false := decide_eq_false c14
      clear c14
      (first | rw [c14b0] | (simp only [i64_w, i32_w]; rw [c14b0]) | skip)
      have H' := AM_ H
      clear H
      try go_wp2
      have n0_ : Aside0 (((w7.setCell ⟨gb154, 0, none⟩ (.int .i64 ((rd_T48 l0_7 x3_1).f0))).setCell ⟨gb154, 1, none⟩ (.int .i64 ((rd_T48 l0_7 x3_1).f1))).heap[gb152]? = some (.cells #[.int .i64 a0_0, .int .i64 a0_1, .int .i64 a0_2, .int .i64 a0_3, .int .i64 a0_4, .int .i64 a0_5, .int .i64 a0_6, .slice (some ad153) l0_7.length c0_7, .slice A0_8 l0_8.length c0_8] 65 (0, 0))) := ⟨BG BK152.out NB152_154.out⟩
      have n1_ : Aside0 (((w7.setCell ⟨gb154, 0, none⟩ (.int .i64 ((rd_T48 l0_7 x3_1).f0))).setCell ⟨gb154, 1, none⟩ (.int .i64 ((rd_T48 l0_7 x3_1).f1))).heap[gb154]? = some (.cells #[.int .i64 ((rd_T48 l0_7 x3_1).f0), .int .i64 ((rd_T48 l0_7 x3_1).f1)] 48 (0, 0))) := ⟨BQ BK154.out⟩
      have n2_ : Aside0 (Below w.heap.size w ((w7.setCell ⟨gb154, 0, none⟩ (.int .i64 ((rd_T48 l0_7 x3_1).f0))).setCell ⟨gb154, 1, none⟩ (.int .i64 ((rd_T48 l0_7 x3_1).f1)))) := ⟨BT HB.out⟩
      (try clear BK152)
      (try clear BK154)
      (try clear HB)
      generalize ((w7.setCell ⟨gb154, 0, none⟩ (.int .i64 ((rd_T48 l0_7 x3_1).f0))).setCell ⟨gb154, 1, none⟩ (.int .i64 ((rd_T48 l0_7 x3_1).f1))) = w22 at n0_ n1_ n2_ ⊢
      have BK152 := n0_
      have BK154 := n1_
      have HB := n2_
      clear n0_ n1_ n2_
      replace BK152 := AM_ (blk_drew BK152.out)
      replace BK154 := AM_ (blk_drew BK154.out)
      replace HB := AM_ (below_drew1 HB.out)
      refine start_ (n := 25) (S := fun w' => w'.cell? ⟨gb154, 0, none⟩ = some (.int .i64 ((rd_T48 l0_7 x3_1).f0)) ∧ w'.cell? ⟨gb154, 1, none⟩ = some (.int .i64 ((rd_T48 l0_7 x3_1).f1))) (ds := []) (bs 0 25) (by kernel_rfl) rfl rfl ⟨bc BK154.out 0, bc BK154.out 1⟩ (fun hHeld => ?_); refine with_tabW spec_IsValidTransaction.tab5 spec_IsValidTransaction.bits5 (fun HT_ HW_ => ?_)
      generalize w22.drew = w23 at BK152 BK154 HB hHeld ⊢
      refine pu (i := 0) (N := some 19) (v := ?_) (a' := ?_) (bs 1 25) rfl rfl HT_ ?_ ?_ ?_
      rotate_left
      ·intro w'
       go_simp
       with_reducible rfl
      rotate_left
      ·simp only[pA,pS,pZ,pK,pV]
       rfl
      refine tk (i := 1) (N := some 20) (v := ?_) (a' := ?_) (bs 3 25) rfl rfl HT_ HW_ ?_ hHeld ?_ ?_
      rotate_left
      ·rintro w' ⟨s0, s1⟩
       go_simp
       with_reducible rfl
      rotate_left
      ·simp only[pA,pS,pZ,pK,pV]
       rfl
      refine one_ (i := 2) (N := some 21) (bs 7 25) rfl rfl (one_of HT_.out (by kernel_rfl)) (by decide) (fun K hK => ?_)
      refine goes_ Tryz.func59 (by kernel_rfl) rfl #[.int .i64 ((rd_T48 l0_7 x3_1).f0), .int .i64 0, .int .i64 5] (by rfl) rfl rfl (by (try simp only [List.map_toArray, List.map_cons, List.map_nil]); first | done | rfl | (simp only [List.length_drop, List.length_take]; rfl)) ?_
      with_reducible refine (spec_l1In.calls ((rd_T48 l0_7 x3_1).f0) 0 5 true _ A10.out).mono ?_
      rintro e w' ⟨rfl, ⟨nd, rfl⟩⟩
      refine ⟨_, rfl, ?_⟩
      refine hK.out _ _ ⟨bc BK154.out 0, bc BK154.out 1⟩ (fun hHeld => ?_)
      clear hK K
      refine norm_ (a' := ?_) ?_ ?_
      rotate_left
      ·show Act.put _ (some 21) _ = _
       simp only[pA,pS,pZ,pK,pV]
       rfl
      refine pu (i := 3) (N := some 22) (v := ?_) (a' := ?_) (bs 15 25) rfl rfl HT_ ?_ ?_ ?_
      rotate_left
      ·intro w'
       go_simp
       with_reducible rfl
      rotate_left
      ·simp only[pA,pS,pZ,pK,pV]
       rfl
      refine pu (i := 4) (N := some 23) (v := ?_) (a' := ?_) (bs 31 25) rfl rfl HT_ ?_ ?_ ?_
      rotate_left
      ·intro w'
       go_simp
       with_reducible rfl
      rotate_left
      ·simp only[pA,pS,pZ,pK,pV]
       rfl
      refine pu (i := 5) (N := some 24) (v := ?_) (a' := ?_) (bs 63 25) rfl rfl HT_ ?_ ?_ ?_
      rotate_left
      ·intro w'
       go_simp
       with_reducible rfl
      rotate_left
      ·simp only[pA,pS,pZ,pK,pV]
       rfl
      refine tk (i := 6) (N := some 25) (v := ?_) (a' := ?_) (bs 127 25) rfl rfl HT_ HW_ ?_ hHeld ?_ ?_
      rotate_left
      ·rintro w' ⟨s0, s1⟩
       go_simp
       with_reducible rfl
      rotate_left
      ·simp only[pA,pS,pZ,pK,pV]
       rfl
      refine one_ (i := 7) (N := some 26) (bs 255 25) rfl rfl (one_of HT_.out (by kernel_rfl)) (by decide) (fun K hK => ?_)
      refine goes_ Tryz.func59 (by kernel_rfl) rfl #[.int .i64 ((rd_T48 l0_7 x3_1).f1), .int .i64 0, .int .i64 999] (by rfl) rfl rfl (by (try simp only [List.map_toArray, List.map_cons, List.map_nil]); first | done | rfl | (simp only [List.length_drop, List.length_take]; rfl)) ?_
      with_reducible refine (spec_l1In.calls ((rd_T48 l0_7 x3_1).f1) 0 999 true _ A12.out).mono ?_
      rintro e w' ⟨rfl, ⟨nd, rfl⟩⟩
      refine ⟨_, rfl, ?_⟩
      refine hK.out _ _ ⟨bc BK154.out 0, bc BK154.out 1⟩ (fun hHeld => ?_)
      clear hK K
      refine norm_ (a' := ?_) ?_ ?_
      rotate_left
      ·show Act.put _ (some 26) _ = _
       simp only[pA,pS,pZ,pK,pV]
       rfl
      refine pu (i := 8) (N := some 27) (v := ?_) (a' := ?_) (bs 511 25) rfl rfl HT_ ?_ ?_ ?_
      rotate_left
      ·intro w'
       go_simp
       with_reducible rfl
      rotate_left
      ·simp only[pA,pS,pZ,pK,pV]
       rfl
      refine pu (i := 9) (N := some 28) (v := ?_) (a' := ?_) (bs 1023 25) rfl rfl HT_ ?_ ?_ ?_
      rotate_left
      ·intro w'
       go_simp
       with_reducible rfl
      rotate_left
      ·simp only[pA,pS,pZ,pK,pV]
       rfl
      refine pu (i := 10) (N := some 29) (v := ?_) (a' := ?_) (bs 2047 25) rfl rfl HT_ ?_ ?_ ?_
      rotate_left
      ·intro w'
       go_simp
       with_reducible rfl
      rotate_left
      ·simp only[pA,pS,pZ,pK,pV]
       rfl
      refine pu (i := 11) (N := some 30) (v := ?_) (a' := ?_) (bs 4095 25) rfl rfl HT_ ?_ ?_ ?_
      rotate_left
      ·intro w'
       go_simp
       with_reducible rfl
      rotate_left
      ·simp only[pA,pS,pZ,pK,pV]
       rfl
      refine pu (i := 12) (N := some 31) (v := ?_) (a' := ?_) (bs 8191 25) rfl rfl HT_ ?_ ?_ ?_
      rotate_left
      ·intro w'
       go_simp
       with_reducible rfl
      rotate_left
      ·simp only[pA,pS,pZ,pK,pV]
       rfl
      refine pu (i := 13) (N := some 32) (v := ?_) (a' := ?_) (bs 16383 25) rfl rfl HT_ ?_ ?_ ?_
      rotate_left
      ·intro w'
       go_simp
       with_reducible rfl
      rotate_left
      ·simp only[pA,pS,pZ,pK,pV]
       rfl
      refine pn (i := 14) (N := some 33) (v := undef) (a' := ?_) (bs 32767 25) rfl rfl HT_ ?_ ?_
      rotate_left
      ·simp only[pA,pS,pZ,pK,pV]
       rfl
      refine pn (i := 15) (N := some 34) (v := undef) (a' := ?_) (bs 65535 25) rfl rfl HT_ ?_ ?_
      rotate_left
      ·simp only[pA,pS,pZ,pK,pV]
       rfl
      refine pn (i := 16) (N := some 35) (v := undef) (a' := ?_) (bs 131071 25) rfl rfl HT_ ?_ ?_
      rotate_left
      ·simp only[pA,pS,pZ,pK,pV]
       rfl
      refine pn (i := 17) (N := some 36) (v := undef) (a' := ?_) (bs 262143 25) rfl rfl HT_ ?_ ?_
      rotate_left
      ·simp only[pA,pS,pZ,pK,pV]
       rfl
      refine pn (i := 18) (N := some 37) (v := undef) (a' := ?_) (bs 524287 25) rfl rfl HT_ ?_ ?_
      rotate_left
      ·simp only[pA,pS,pZ,pK,pV]
       rfl
      refine pn (i := 19) (N := some 38) (v := undef) (a' := ?_) (bs 1048575 25) rfl rfl HT_ ?_ ?_
      rotate_left
      ·simp only[pA,pS,pZ,pK,pV]
       rfl
      refine pn (i := 20) (N := some 39) (v := undef) (a' := ?_) (bs 2097151 25) rfl rfl HT_ ?_ ?_
      rotate_left
      ·simp only[pA,pS,pZ,pK,pV]
       rfl
      refine pn (i := 21) (N := some 40) (v := undef) (a' := ?_) (bs 4194303 25) rfl rfl HT_ ?_ ?_
      rotate_left
      ·simp only[pA,pS,pZ,pK,pV]
       rfl
      refine pn (i := 22) (N := some 41) (v := undef) (a' := ?_) (bs 8388607 25) rfl rfl HT_ ?_ ?_
      rotate_left
      ·simp only[pA,pS,pZ,pK,pV]
       rfl
      refine pu (i := 23) (N := some 42) (v := ?_) (a' := ?_) (bs 16777215 25) rfl rfl HT_ ?_ ?_ ?_
      rotate_left
      ·intro w'
       go_simp
       with_reducible rfl
      rotate_left
      ·simp only[pA,pS,pZ,pK,pV]
       rfl
      refine pu (i := 24) (N := some 43) (v := ?_) (a' := ?_) (bs 33554431 25) rfl rfl HT_ ?_ ?_ ?_
      rotate_left
      ·intro w'
       go_simp
       with_reducible rfl
      rotate_left
      ·simp only[pA,pS,pZ,pK,pV]
       rfl
      refine done_ (done_of HT_.out (by kernel_rfl)) ?_
      try go_wp2
      go_meet
      case rel => exact ⟨_, (false), (by first | rfl | (simp; done) | (simp [*]; done)), H', ⟨by have := HK1.out; first | omega | exact Nat.le_refl _⟩, ⟨BH BK152.out⟩, ⟨BH BK154.out⟩, ⟨BT HB.out⟩⟩
     rw [if_pos c14] at H
     have c14b0 : decide (0 < x3_1) = true := decide_eq_true c14
     clear c14
     (first | rw [c14b0] | (simp only [i64_w, i32_w]; rw [c14b0]) | skip)
     obtain ⟨ji15, hji15⟩ : ∃ j_ : Int, (wrap64 (x3_1 - 1)) = j_ := ⟨_, rfl⟩
     replace H : (if 0 ≤ (ji15) then (if (ji15) < (l0_7.length : Int) then ((spec_l5Before.f ((rd_T48 l0_7 (ji15)).f0) ((rd_T48 l0_7 (ji15)).f1) ((rd_T48 l0_7 x3_1).f0) ((rd_T48 l0_7 x3_1).f1)).bind fun t158 => (spec_IsValidTransaction.j1 k1 x3_1 (!t158) a0_0 a0_1 a0_2 a0_3 a0_4 a0_5 a0_6 l0_7 l0_8)) else (none)) else (none)) = some r := by first | (rw [hji15] at H; exact H) | (simp only [hji15] at H ⊢; exact H)
     (try rw [hji15] at A10)
     (try rw [hji15] at A12)
     have hji15w : (IntKind.i64.wrap (x3_1 - 1)) = ji15 := (i64_w _).trans hji15
     replace H := HI H
     obtain ⟨c16, H⟩ := H
     have c16b0 : decide (0 ≤ (ji15)) = true := decide_eq_true c16
     clear c16
     replace H := HI H
     obtain ⟨c17, H⟩ := H
     have c17b0 : decide ((ji15) < (l0_7.length : Int)) = true := decide_eq_true c17
     clear c17
     replace H := Option.bind_eq_some_iff.mp H
     obtain ⟨t158, A180, H⟩ := H
     replace H : (spec_IsValidTransaction.j1 k1 x3_1 (!t158) a0_0 a0_1 a0_2 a0_3 a0_4 a0_5 a0_6 l0_7 l0_8) = some r := H
     have A18 := AM_ A180
     clear A180
     have H' := AM_ H
     clear H
     try go_wp2
     have n0_ : Aside0 (((w7.setCell ⟨gb154, 0, none⟩ (.int .i64 ((rd_T48 l0_7 x3_1).f0))).setCell ⟨gb154, 1, none⟩ (.int .i64 ((rd_T48 l0_7 x3_1).f1))).heap[gb152]? = some (.cells #[.int .i64 a0_0, .int .i64 a0_1, .int .i64 a0_2, .int .i64 a0_3, .int .i64 a0_4, .int .i64 a0_5, .int .i64 a0_6, .slice (some ad153) l0_7.length c0_7, .slice A0_8 l0_8.length c0_8] 65 (0, 0))) := ⟨BG BK152.out NB152_154.out⟩
     have n1_ : Aside0 (((w7.setCell ⟨gb154, 0, none⟩ (.int .i64 ((rd_T48 l0_7 x3_1).f0))).setCell ⟨gb154, 1, none⟩ (.int .i64 ((rd_T48 l0_7 x3_1).f1))).heap[gb154]? = some (.cells #[.int .i64 ((rd_T48 l0_7 x3_1).f0), .int .i64 ((rd_T48 l0_7 x3_1).f1)] 48 (0, 0))) := ⟨BQ BK154.out⟩
     have n2_ : Aside0 (Below w.heap.size w ((w7.setCell ⟨gb154, 0, none⟩ (.int .i64 ((rd_T48 l0_7 x3_1).f0))).setCell ⟨gb154, 1, none⟩ (.int .i64 ((rd_T48 l0_7 x3_1).f1)))) := ⟨BT HB.out⟩
     (try clear BK152)
     (try clear BK154)
     (try clear HB)
     generalize ((w7.setCell ⟨gb154, 0, none⟩ (.int .i64 ((rd_T48 l0_7 x3_1).f0))).setCell ⟨gb154, 1, none⟩ (.int .i64 ((rd_T48 l0_7 x3_1).f1))) = w19 at n0_ n1_ n2_ ⊢
     have BK152 := n0_
     have BK154 := n1_
     have HB := n2_
     clear n0_ n1_ n2_
     replace BK152 := AM_ (blk_drew BK152.out)
     replace BK154 := AM_ (blk_drew BK154.out)
     replace HB := AM_ (below_drew1 HB.out)
     have p157 : 0 ≤ ((ji15) : Int) := DT
     have q157 : (ji15) < (l0_7.length : Int) := DT
     obtain ⟨ad157, e157, hx157_0, hx157_1⟩ := at_T48 HR0_7.out (ji15) p157 q157
     have hw157_1 := hx157_1
     have hw157_0 := hx157_0
     obtain rfl : ad153 = ad157 := (by injection e157)
     replace hx157_0 := BC HB.out hx157_0
     replace hx157_1 := BC HB.out hx157_1
     replace p157 := eq_true p157
     replace q157 := eq_true q157
     refine start_ (n := 25) (S := fun w' => w'.cell? ⟨gb154, 0, none⟩ = some (.int .i64 ((rd_T48 l0_7 x3_1).f0)) ∧ w'.cell? ⟨gb154, 1, none⟩ = some (.int .i64 ((rd_T48 l0_7 x3_1).f1)) ∧ w'.cell? ⟨gb152, 0, none⟩ = some (.int .i64 a0_0) ∧ w'.cell? ⟨gb152, 1, none⟩ = some (.int .i64 a0_1) ∧ w'.cell? ⟨gb152, 2, none⟩ = some (.int .i64 a0_2) ∧ w'.cell? ⟨gb152, 3, none⟩ = some (.int .i64 a0_3) ∧ w'.cell? ⟨gb152, 4, none⟩ = some (.int .i64 a0_4) ∧ w'.cell? ⟨gb152, 5, none⟩ = some (.int .i64 a0_5) ∧ w'.cell? ⟨gb152, 6, none⟩ = some (.int .i64 a0_6) ∧ w'.cell? ⟨gb152, 7, none⟩ = some (.slice (some ad153) l0_7.length c0_7) ∧ w'.cell? ⟨gb152, 8, none⟩ = some (.slice A0_8 l0_8.length c0_8) ∧ w'.cell? (ad153.add (((ji15)).toNat * 2)) = some (.int .i64 ((rd_T48 l0_7 (ji15)).f0)) ∧ w'.cell? ⟨(ad153.add (((ji15)).toNat * 2)).block, (ad153.add (((ji15)).toNat * 2)).off + 1, none⟩ = some (.int .i64 ((rd_T48 l0_7 (ji15)).f1))) (ds := []) (bs 0 25) (by kernel_rfl) rfl rfl ⟨bc BK154.out 0, bc BK154.out 1, bc BK152.out 0, bc BK152.out 1, bc BK152.out 2, bc BK152.out 3, bc BK152.out 4, bc BK152.out 5, bc BK152.out 6, bc BK152.out 7, bc BK152.out 8, (BD HB.out hw157_0), (BD HB.out hw157_1)⟩ (fun hHeld => ?_); refine with_tabW spec_IsValidTransaction.tab5 spec_IsValidTransaction.bits5 (fun HT_ HW_ => ?_)
     generalize w19.drew = w20 at BK152 BK154 HB hx157_0 hx157_1 hHeld ⊢
     refine pu (i := 0) (N := some 19) (v := ?_) (a' := ?_) (bs 1 25) rfl rfl HT_ ?_ ?_ ?_
     rotate_left
     ·intro w'
      go_simp
      with_reducible rfl
     rotate_left
     ·simp only[pA,pS,pZ,pK,pV]
      rfl
     refine tk (i := 1) (N := some 20) (v := ?_) (a' := ?_) (bs 3 25) rfl rfl HT_ HW_ ?_ hHeld ?_ ?_
     rotate_left
     ·rintro w' ⟨s0, s1, s2, s3, s4, s5, s6, s7, s8, s9, s10, s11, s12⟩
      go_simp
      with_reducible rfl
     rotate_left
     ·simp only[pA,pS,pZ,pK,pV]
      rfl
     refine one_ (i := 2) (N := some 21) (bs 7 25) rfl rfl (one_of HT_.out (by kernel_rfl)) (by decide) (fun K hK => ?_)
     refine goes_ Tryz.func59 (by kernel_rfl) rfl #[.int .i64 ((rd_T48 l0_7 x3_1).f0), .int .i64 0, .int .i64 5] (by rfl) rfl rfl (by (try simp only [List.map_toArray, List.map_cons, List.map_nil]); first | done | rfl | (simp only [List.length_drop, List.length_take]; rfl)) ?_
     with_reducible refine (spec_l1In.calls ((rd_T48 l0_7 x3_1).f0) 0 5 true _ A10.out).mono ?_
     rintro e w' ⟨rfl, ⟨nd, rfl⟩⟩
     refine ⟨_, rfl, ?_⟩
     refine hK.out _ _ ⟨bc BK154.out 0, bc BK154.out 1, bc BK152.out 0, bc BK152.out 1, bc BK152.out 2, bc BK152.out 3, bc BK152.out 4, bc BK152.out 5, bc BK152.out 6, bc BK152.out 7, bc BK152.out 8, (BD HB.out hw157_0), (BD HB.out hw157_1)⟩ (fun hHeld => ?_)
     clear hK K
     refine norm_ (a' := ?_) ?_ ?_
     rotate_left
     ·show Act.put _ (some 21) _ = _
      simp only[pA,pS,pZ,pK,pV]
      rfl
     refine pu (i := 3) (N := some 22) (v := ?_) (a' := ?_) (bs 15 25) rfl rfl HT_ ?_ ?_ ?_
     rotate_left
     ·intro w'
      go_simp
      with_reducible rfl
     rotate_left
     ·simp only[pA,pS,pZ,pK,pV]
      rfl
     refine pu (i := 4) (N := some 23) (v := ?_) (a' := ?_) (bs 31 25) rfl rfl HT_ ?_ ?_ ?_
     rotate_left
     ·intro w'
      go_simp
      with_reducible rfl
     rotate_left
     ·simp only[pA,pS,pZ,pK,pV]
      rfl
     refine pu (i := 5) (N := some 24) (v := ?_) (a' := ?_) (bs 63 25) rfl rfl HT_ ?_ ?_ ?_
     rotate_left
     ·intro w'
      go_simp
      with_reducible rfl
     rotate_left
     ·simp only[pA,pS,pZ,pK,pV]
      rfl
     refine tk (i := 6) (N := some 25) (v := ?_) (a' := ?_) (bs 127 25) rfl rfl HT_ HW_ ?_ hHeld ?_ ?_
     rotate_left
     ·rintro w' ⟨s0, s1, s2, s3, s4, s5, s6, s7, s8, s9, s10, s11, s12⟩
      go_simp
      with_reducible rfl
     rotate_left
     ·simp only[pA,pS,pZ,pK,pV]
      rfl
     refine one_ (i := 7) (N := some 26) (bs 255 25) rfl rfl (one_of HT_.out (by kernel_rfl)) (by decide) (fun K hK => ?_)
     refine goes_ Tryz.func59 (by kernel_rfl) rfl #[.int .i64 ((rd_T48 l0_7 x3_1).f1), .int .i64 0, .int .i64 999] (by rfl) rfl rfl (by (try simp only [List.map_toArray, List.map_cons, List.map_nil]); first | done | rfl | (simp only [List.length_drop, List.length_take]; rfl)) ?_
     with_reducible refine (spec_l1In.calls ((rd_T48 l0_7 x3_1).f1) 0 999 true _ A12.out).mono ?_
     rintro e w' ⟨rfl, ⟨nd, rfl⟩⟩
     refine ⟨_, rfl, ?_⟩
     refine hK.out _ _ ⟨bc BK154.out 0, bc BK154.out 1, bc BK152.out 0, bc BK152.out 1, bc BK152.out 2, bc BK152.out 3, bc BK152.out 4, bc BK152.out 5, bc BK152.out 6, bc BK152.out 7, bc BK152.out 8, (BD HB.out hw157_0), (BD HB.out hw157_1)⟩ (fun hHeld => ?_)
     clear hK K
     refine norm_ (a' := ?_) ?_ ?_
     rotate_left
     ·show Act.put _ (some 26) _ = _
      simp only[pA,pS,pZ,pK,pV]
      rfl
     refine pu (i := 8) (N := some 27) (v := ?_) (a' := ?_) (bs 511 25) rfl rfl HT_ ?_ ?_ ?_
     rotate_left
     ·intro w'
      go_simp
      with_reducible rfl
     rotate_left
     ·simp only[pA,pS,pZ,pK,pV]
      rfl
     refine pu (i := 9) (N := some 28) (v := ?_) (a' := ?_) (bs 1023 25) rfl rfl HT_ ?_ ?_ ?_
     rotate_left
     ·intro w'
      go_simp
      with_reducible rfl
     rotate_left
     ·simp only[pA,pS,pZ,pK,pV]
      rfl
     refine pu (i := 10) (N := some 29) (v := ?_) (a' := ?_) (bs 2047 25) rfl rfl HT_ ?_ ?_ ?_
     rotate_left
     ·intro w'
      go_simp
      with_reducible rfl
     rotate_left
     ·simp only[pA,pS,pZ,pK,pV]
      rfl
     refine pu (i := 11) (N := some 30) (v := ?_) (a' := ?_) (bs 4095 25) rfl rfl HT_ ?_ ?_ ?_
     rotate_left
     ·intro w'
      go_simp
      with_reducible rfl
     rotate_left
     ·simp only[pA,pS,pZ,pK,pV]
      rfl
     refine pu (i := 12) (N := some 31) (v := ?_) (a' := ?_) (bs 8191 25) rfl rfl HT_ ?_ ?_ ?_
     rotate_left
     ·intro w'
      go_simp
      with_reducible rfl
     rotate_left
     ·simp only[pA,pS,pZ,pK,pV]
      rfl
     refine pu (i := 13) (N := some 32) (v := ?_) (a' := ?_) (bs 16383 25) rfl rfl HT_ ?_ ?_ ?_
     rotate_left
     ·intro w'
      go_simp
      with_reducible rfl
     rotate_left
     ·simp only[pA,pS,pZ,pK,pV]
      rfl
     refine pu (i := 14) (N := some 33) (v := ?_) (a' := ?_) (bs 32767 25) rfl rfl HT_ ?_ ?_ ?_
     rotate_left
     ·intro w'
      go_simp
      with_reducible rfl
     rotate_left
     ·simp only[pA,pS,pZ,pK,pV]
      rfl
     refine pu (i := 16) (N := some 35) (v := ?_) (a' := ?_) (bs 98303 25) rfl rfl HT_ ?_ ?_ ?_
     rotate_left
     ·intro w'
      go_simp
      with_reducible rfl
     rotate_left
     ·simp only[pA,pS,pZ,pK,pV]
      rfl
     refine pu (i := 17) (N := some 36) (v := ?_) (a' := ?_) (bs 229375 25) rfl rfl HT_ ?_ ?_ ?_
     rotate_left
     ·intro w'
      go_simp
      with_reducible rfl
     rotate_left
     ·simp only[pA,pS,pZ,pK,pV]
      rfl
     refine tk (i := 15) (N := some 34) (v := ?_) (a' := ?_) (bs 262143 25) rfl rfl HT_ HW_ ?_ hHeld ?_ ?_
     rotate_left
     ·rintro w' ⟨s0, s1, s2, s3, s4, s5, s6, s7, s8, s9, s10, s11, s12⟩
      go_simp
      with_reducible rfl
     rotate_left
     ·simp only[pA,pS,pZ,pK,pV]
      rfl
     refine pu (i := 18) (N := some 37) (v := ?_) (a' := ?_) (bs 524287 25) rfl rfl HT_ ?_ ?_ ?_
     rotate_left
     ·intro w'
      go_simp
      with_reducible rfl
     rotate_left
     ·simp only[pA,pS,pZ,pK,pV]
      rfl
     refine tk (i := 19) (N := some 38) (v := ?_) (a' := ?_) (bs 1048575 25) rfl rfl HT_ HW_ ?_ hHeld ?_ ?_
     rotate_left
     ·rintro w' ⟨s0, s1, s2, s3, s4, s5, s6, s7, s8, s9, s10, s11, s12⟩
      go_simp
      with_reducible rfl
     rotate_left
     ·simp only[pA,pS,pZ,pK,pV]
      rfl
     refine tk (i := 20) (N := some 39) (v := ?_) (a' := ?_) (bs 2097151 25) rfl rfl HT_ HW_ ?_ hHeld ?_ ?_
     rotate_left
     ·rintro w' ⟨s0, s1, s2, s3, s4, s5, s6, s7, s8, s9, s10, s11, s12⟩
      go_simp
      with_reducible rfl
     rotate_left
     ·simp only[pA,pS,pZ,pK,pV]
      rfl
     refine one_ (i := 21) (N := some 40) (bs 4194303 25) rfl rfl (one_of HT_.out (by kernel_rfl)) (by decide) (fun K hK => ?_)
     refine goes_ Tryz.func60 (by kernel_rfl) rfl #[.agg #[.int .i64 ((rd_T48 l0_7 (ji15)).f0), .int .i64 ((rd_T48 l0_7 (ji15)).f1)], .agg #[.int .i64 ((rd_T48 l0_7 x3_1).f0), .int .i64 ((rd_T48 l0_7 x3_1).f1)]] (by rfl) rfl rfl (by (try simp only [List.map_toArray, List.map_cons, List.map_nil]); first | done | (simp only [hji15]; rfl) | rfl | (simp only [List.length_drop, List.length_take]; rfl)) ?_
     with_reducible refine (spec_l5Before.calls ((rd_T48 l0_7 (ji15)).f0) ((rd_T48 l0_7 (ji15)).f1) ((rd_T48 l0_7 x3_1).f0) ((rd_T48 l0_7 x3_1).f1) t158 _ A18.out).mono ?_
     rintro e w21 ⟨rfl, hb⟩
     refine ⟨_, rfl, ?_⟩
     replace BK152 := AM_ (BB BK152.out hb)
     replace BK154 := AM_ (BB BK154.out hb)
     replace HB := AM_ (below_step (BT HB.out) hb)
     (try clear hb)
     (try clear hb2)
     (try clear hk)
     (try clear hi)
     refine hK.out _ _ ⟨bc BK154.out 0, bc BK154.out 1, bc BK152.out 0, bc BK152.out 1, bc BK152.out 2, bc BK152.out 3, bc BK152.out 4, bc BK152.out 5, bc BK152.out 6, bc BK152.out 7, bc BK152.out 8, (BD HB.out hw157_0), (BD HB.out hw157_1)⟩ (fun hHeld => ?_)
     clear hK K
     refine norm_ (a' := ?_) ?_ ?_
     rotate_left
     ·show Act.put _ (some 40) _ = _
      simp only[pA,pS,pZ,pK,pV]
      rfl
     refine pu (i := 22) (N := some 41) (v := ?_) (a' := ?_) (bs 8388607 25) rfl rfl HT_ ?_ ?_ ?_
     rotate_left
     ·intro w'
      go_simp
      with_reducible rfl
     rotate_left
     ·simp only[pA,pS,pZ,pK,pV]
      rfl
     refine pu (i := 23) (N := some 42) (v := ?_) (a' := ?_) (bs 16777215 25) rfl rfl HT_ ?_ ?_ ?_
     rotate_left
     ·intro w'
      go_simp
      with_reducible rfl
     rotate_left
     ·simp only[pA,pS,pZ,pK,pV]
      rfl
     refine pu (i := 24) (N := some 43) (v := ?_) (a' := ?_) (bs 33554431 25) rfl rfl HT_ ?_ ?_ ?_
     rotate_left
     ·intro w'
      go_simp
      with_reducible rfl
     rotate_left
     ·simp only[pA,pS,pZ,pK,pV]
      rfl
     refine done_ (done_of HT_.out (by kernel_rfl)) ?_
     try go_wp2
     go_meet
     case rel => exact ⟨_, (!t158), (by first | rfl | (simp; done) | (simp [*]; done)), H', ⟨by have := HK1.out; first | omega | exact Nat.le_refl _⟩, ⟨BH BK152.out⟩, ⟨BH BK154.out⟩, ⟨BT HB.out⟩⟩
    case rest =>
     clear HC5
     try clear c1
     try clear p2
     try clear c5
     try clear c11
     try clear c13
     try clear c14
     try clear c14b0
     try clear c16
     try clear c17
     obtain ⟨kq, x43_4, rfl, HA, HJ4, BK152, BK154, HB⟩ := hcut
     cases kq with
     | zero => exact absurd HA.out (by simp [spec_IsValidTransaction.j1])
     | succ kj4 =>
      have H := HA.out
      clear HA
      simp only [spec_IsValidTransaction.j1] at H
      by_cases c28 : x43_4 = true
      ·subst c28
       have H1 : (some false) = some r := by rw [if_pos rfl] at H; exact H
       clear H
       have H := H1
       clear H1
       obtain rfl := Option.some.inj H
       go_wp2
       go_ret
       exact QT (BT HB.out)
      replace c28 := Bool.eq_false_iff.mpr c28
      subst c28
      have H1 : (spec_IsValidTransaction.l0 kj4 (wrap64 (x3_1 + 1)) a0_0 a0_1 a0_2 a0_3 a0_4 a0_5 a0_6 l0_7 l0_8) = some r := by rw [if_neg (show ¬ (false = true) by decide)] at H; exact H
      clear H
      have H := H1
      clear H1
      have H' := AM_ H
      clear H
      go_wp2
      go_roundg kj4
      case measure => have := HK1.out; have := HJ4.out; omega
      case rel => exact ⟨(wrap64 (x3_1 + 1)), (by first | rfl | (simp; done) | (simp [*]; done)), H', ⟨by have := HK1.out; have := HJ4.out; omega⟩, ⟨BH BK152.out⟩, ⟨BT HB.out⟩⟩
   rw [if_neg c3] at H
   have c3b0 : decide (x3_1 < (l0_7.length : Int)) = false := decide_eq_false c3
   clear c3
   have H' := AM_ H
   clear H
   obtain ⟨hcz29_0, hcz29_1, hcz29_2, hcz29_3, hcz29_4, hcz29_5, hcz29_6, hcz29_7, hcz29_8, hfz29_0, hfz29_1, hfz29_2, hfz29_3, hfz29_4, hfz29_5, hfz29_6, hfz29_7, hfz29_8⟩ := bk9 BK152.out
   go_wp2
   go_loopg [5] k1 (fun kq v5 w' => ∃ (x5_2 : Int), v5 = .int .i64 x5_2 ∧ Aside0 (spec_IsValidTransaction.l1 kq x5_2 a0_0 a0_1 a0_2 a0_3 a0_4 a0_5 a0_6 l0_7 l0_8 = some r) ∧ Aside0 (kq ≤ k1) ∧ Aside0 (w'.heap[gb152]? = some (.cells #[.int .i64 a0_0, .int .i64 a0_1, .int .i64 a0_2, .int .i64 a0_3, .int .i64 a0_4, .int .i64 a0_5, .int .i64 a0_6, (.slice A0_7 l0_7.length c0_7), (.slice A0_8 l0_8.length c0_8)] 65 (0, 0))) ∧ Aside0 (Below w.heap.size w w'))
   case atStart => exact ⟨(0), (by first | rfl | (simp; done) | (simp [*]; done)), H', ⟨Nat.le_refl _⟩, ⟨BH BK152.out⟩, ⟨BT HB.out⟩⟩
   case round =>
    clear H'
    try clear c1
    try clear c2
    try clear p2
    try clear c3
    try clear c3b0
    try clear c4
    try clear c5
    try clear p6
    try clear c11
    try clear c13
    try clear c14
    try clear c14b0
    try clear c16
    try clear c17
    try clear c28
    try clear hcz29_0
    try clear hcz29_1
    try clear hcz29_2
    try clear hcz29_3
    try clear hcz29_4
    try clear hcz29_5
    try clear hcz29_6
    try clear hcz29_7
    try clear hcz29_8
    try clear hfz29_0
    try clear hfz29_1
    try clear hfz29_2
    try clear hfz29_3
    try clear hfz29_4
    try clear hfz29_5
    try clear hfz29_6
    try clear hfz29_7
    try clear hfz29_8
    obtain ⟨x5_2, rfl, HA, HK2, BK152, HB⟩ := hrel
    cases gk with
    | zero => exact absurd HA.out (by simp [spec_IsValidTransaction.l1])
    | succ k2 =>
     have H := HA.out
     clear HA
     simp only [spec_IsValidTransaction.l1] at H
     by_cases c30 : x5_2 < (l0_8.length : Int)
     rotate_left
     ·rw [if_neg c30] at H
      have c30b0 : decide (x5_2 < (l0_8.length : Int)) = false := decide_eq_false c30
      clear c30
      have HC54 := AM_ H
      clear H
      obtain ⟨hcz55_0, hcz55_1, hcz55_2, hcz55_3, hcz55_4, hcz55_5, hcz55_6, hcz55_7, hcz55_8, hfz55_0, hfz55_1, hfz55_2, hfz55_3, hfz55_4, hfz55_5, hfz55_6, hfz55_7, hfz55_8⟩ := bk9 BK152.out
      go_upto_region 13 with (fail)
      go_cut [97] (fun v97 wc => ∃ (kq : Nat) (x97_53 : Bool), v97 = .bool x97_53 ∧ Aside0 (spec_IsValidTransaction.j4 kq x97_53 a0_0 a0_1 a0_2 a0_3 a0_4 a0_5 a0_6 l0_7 l0_8 = some r) ∧ Aside0 (kq ≤ k2) ∧ Aside0 (wc.heap[gb152]? = some (.cells #[.int .i64 a0_0, .int .i64 a0_1, .int .i64 a0_2, .int .i64 a0_3, .int .i64 a0_4, .int .i64 a0_5, .int .i64 a0_6, (.slice A0_7 l0_7.length c0_7), (.slice A0_8 l0_8.length c0_8)] 65 (0, 0))) ∧ Aside0 (Below w.heap.size w wc))
      case first =>
       have H := HC54.out
       clear HC54
       replace H := Option.bind_eq_some_iff.mp H
       obtain ⟨t164, A560, H⟩ := H
       replace H : (if t164 = true then ((spec_l1In.f a0_1 1 4).bind fun t165 => (if t165 = true then ((spec_l1In.f a0_3 0 999).bind fun t166 => (spec_IsValidTransaction.j4 k2 (!t166) a0_0 a0_1 a0_2 a0_3 a0_4 a0_5 a0_6 l0_7 l0_8)) else (spec_IsValidTransaction.j4 k2 true a0_0 a0_1 a0_2 a0_3 a0_4 a0_5 a0_6 l0_7 l0_8))) else (spec_IsValidTransaction.j4 k2 true a0_0 a0_1 a0_2 a0_3 a0_4 a0_5 a0_6 l0_7 l0_8)) = some r := H
       have A56 := AM_ A560
       clear A560
       by_cases c57 : t164 = true
       rotate_left
       ·replace c57 := Bool.eq_false_iff.mpr c57
        subst c57
        have H1 : (spec_IsValidTransaction.j4 k2 true a0_0 a0_1 a0_2 a0_3 a0_4 a0_5 a0_6 l0_7 l0_8) = some r := by rw [if_neg (show ¬ (false = true) by decide)] at H; exact H
        clear H
        have H := H1
        clear H1
        have H' := AM_ H
        clear H
        obtain ⟨hcz63_0, hcz63_1, hcz63_2, hcz63_3, hcz63_4, hcz63_5, hcz63_6, hcz63_7, hcz63_8, hfz63_0, hfz63_1, hfz63_2, hfz63_3, hfz63_4, hfz63_5, hfz63_6, hfz63_7, hfz63_8⟩ := bk9 BK152.out
        go_wp2_with (first | ((with_reducible refine gate_callee (f := 59) rfl ?_); refine goesL_ (some 84) rfl rfl Tryz.func59 (by kernel_rfl) rfl #[.int .i64 a0_0, .int .i64 1, .int .i64 9] rfl (by (try simp only [List.map_toArray, List.map_cons, List.map_nil]); first | done | rfl | (simp only [List.length_drop, List.length_take]; rfl)) ?_; (with_reducible refine (spec_l1In.calls a0_0 1 9 false _ A56.out).mono ?_); rintro e w' ⟨rfl, ⟨nd, rfl⟩⟩; refine ⟨_, rfl, ?_⟩))
        go_meet
        case rel => exact ⟨_, (true), (by first | rfl | (simp; done) | (simp [*]; done)), H', ⟨by have := HK1.out; have := HK2.out; first | omega | exact Nat.le_refl _⟩, ⟨BH BK152.out⟩, ⟨BT HB.out⟩⟩
       subst c57
       have H1 : ((spec_l1In.f a0_1 1 4).bind fun t165 => (if t165 = true then ((spec_l1In.f a0_3 0 999).bind fun t166 => (spec_IsValidTransaction.j4 k2 (!t166) a0_0 a0_1 a0_2 a0_3 a0_4 a0_5 a0_6 l0_7 l0_8)) else (spec_IsValidTransaction.j4 k2 true a0_0 a0_1 a0_2 a0_3 a0_4 a0_5 a0_6 l0_7 l0_8))) = some r := by rw [if_pos rfl] at H; exact H
       clear H
       have H := H1
       clear H1
       replace H := Option.bind_eq_some_iff.mp H
       obtain ⟨t165, A580, H⟩ := H
       replace H : (if t165 = true then ((spec_l1In.f a0_3 0 999).bind fun t166 => (spec_IsValidTransaction.j4 k2 (!t166) a0_0 a0_1 a0_2 a0_3 a0_4 a0_5 a0_6 l0_7 l0_8)) else (spec_IsValidTransaction.j4 k2 true a0_0 a0_1 a0_2 a0_3 a0_4 a0_5 a0_6 l0_7 l0_8)) = some r := H
       have A58 := AM_ A580
       clear A580
       by_cases c59 : t165 = true
       rotate_left
       ·replace c59 := Bool.eq_false_iff.mpr c59
        subst c59
        have H1 : (spec_IsValidTransaction.j4 k2 true a0_0 a0_1 a0_2 a0_3 a0_4 a0_5 a0_6 l0_7 l0_8) = some r := by rw [if_neg (show ¬ (false = true) by decide)] at H; exact H
        clear H
        have H := H1
        clear H1
        have H' := AM_ H
        clear H
        obtain ⟨hcz62_0, hcz62_1, hcz62_2, hcz62_3, hcz62_4, hcz62_5, hcz62_6, hcz62_7, hcz62_8, hfz62_0, hfz62_1, hfz62_2, hfz62_3, hfz62_4, hfz62_5, hfz62_6, hfz62_7, hfz62_8⟩ := bk9 BK152.out
        go_wp2_with (first | ((with_reducible refine gate_callee (f := 59) rfl ?_); refine goesL_ (some 84) rfl rfl Tryz.func59 (by kernel_rfl) rfl #[.int .i64 a0_0, .int .i64 1, .int .i64 9] rfl (by (try simp only [List.map_toArray, List.map_cons, List.map_nil]); first | done | rfl | (simp only [List.length_drop, List.length_take]; rfl)) ?_; (with_reducible refine (spec_l1In.calls a0_0 1 9 true _ A56.out).mono ?_); rintro e w' ⟨rfl, ⟨nd, rfl⟩⟩; refine ⟨_, rfl, ?_⟩) | (go_at_call 59; (with_reducible refine (spec_l1In.calls a0_1 1 4 false _ A58.out).mono ?_); rintro e w' ⟨rfl, ⟨nd, rfl⟩⟩))
        go_meet
        case rel => exact ⟨_, (true), (by first | rfl | (simp; done) | (simp [*]; done)), H', ⟨by have := HK1.out; have := HK2.out; first | omega | exact Nat.le_refl _⟩, ⟨BH BK152.out⟩, ⟨BT HB.out⟩⟩
       subst c59
       have H1 : ((spec_l1In.f a0_3 0 999).bind fun t166 => (spec_IsValidTransaction.j4 k2 (!t166) a0_0 a0_1 a0_2 a0_3 a0_4 a0_5 a0_6 l0_7 l0_8)) = some r := by rw [if_pos rfl] at H; exact H
       clear H
       have H := H1
       clear H1
       replace H := Option.bind_eq_some_iff.mp H
       obtain ⟨t166, A600, H⟩ := H
       replace H : (spec_IsValidTransaction.j4 k2 (!t166) a0_0 a0_1 a0_2 a0_3 a0_4 a0_5 a0_6 l0_7 l0_8) = some r := H
       have A60 := AM_ A600
       clear A600
       have H' := AM_ H
       clear H
       obtain ⟨hcz61_0, hcz61_1, hcz61_2, hcz61_3, hcz61_4, hcz61_5, hcz61_6, hcz61_7, hcz61_8, hfz61_0, hfz61_1, hfz61_2, hfz61_3, hfz61_4, hfz61_5, hfz61_6, hfz61_7, hfz61_8⟩ := bk9 BK152.out
       go_wp2_with (first | ((with_reducible refine gate_callee (f := 59) rfl ?_); refine goesL_ (some 84) rfl rfl Tryz.func59 (by kernel_rfl) rfl #[.int .i64 a0_0, .int .i64 1, .int .i64 9] rfl (by (try simp only [List.map_toArray, List.map_cons, List.map_nil]); first | done | rfl | (simp only [List.length_drop, List.length_take]; rfl)) ?_; (with_reducible refine (spec_l1In.calls a0_0 1 9 true _ A56.out).mono ?_); rintro e w' ⟨rfl, ⟨nd, rfl⟩⟩; refine ⟨_, rfl, ?_⟩) | (go_at_call 59; (with_reducible refine (spec_l1In.calls a0_1 1 4 true _ A58.out).mono ?_); rintro e w' ⟨rfl, ⟨nd, rfl⟩⟩) | (go_at_call 59; (with_reducible refine (spec_l1In.calls a0_3 0 999 t166 _ A60.out).mono ?_); rintro e w' ⟨rfl, ⟨nd, rfl⟩⟩))
       go_meet
       case rel => exact ⟨_, (!t166), (by first | rfl | (simp; done) | (simp [*]; done)), H', ⟨by have := HK1.out; have := HK2.out; first | omega | exact Nat.le_refl _⟩, ⟨BH BK152.out⟩, ⟨BT HB.out⟩⟩
      case rest =>
       clear HC54
       try clear p2
       try clear c3
       try clear c4
       try clear c5
       try clear p6
       try clear c30
       try clear c30b0
       try clear c31
       try clear c38
       try clear c40
       try clear c41
       try clear c41b0
       try clear c43
       try clear c44
       try clear c53
       try clear c57
       try clear c59
       try clear hcz55_0
       try clear hcz55_1
       try clear hcz55_2
       try clear hcz55_3
       try clear hcz55_4
       try clear hcz55_5
       try clear hcz55_6
       try clear hcz55_7
       try clear hcz55_8
       try clear hcz61_0
       try clear hcz61_1
       try clear hcz61_2
       try clear hcz61_3
       try clear hcz61_4
       try clear hcz61_5
       try clear hcz61_6
       try clear hcz61_7
       try clear hcz61_8
       try clear hcz62_0
       try clear hcz62_1
       try clear hcz62_2
       try clear hcz62_3
       try clear hcz62_4
       try clear hcz62_5
       try clear hcz62_6
       try clear hcz62_7
       try clear hcz62_8
       try clear hcz63_0
       try clear hcz63_1
       try clear hcz63_2
       try clear hcz63_3
       try clear hcz63_4
       try clear hcz63_5
       try clear hcz63_6
       try clear hcz63_7
       try clear hcz63_8
       try clear hfz55_0
       try clear hfz55_1
       try clear hfz55_2
       try clear hfz55_3
       try clear hfz55_4
       try clear hfz55_5
       try clear hfz55_6
       try clear hfz55_7
       try clear hfz55_8
       try clear hfz61_0
       try clear hfz61_1
       try clear hfz61_2
       try clear hfz61_3
       try clear hfz61_4
       try clear hfz61_5
       try clear hfz61_6
       try clear hfz61_7
       try clear hfz61_8
       try clear hfz62_0
       try clear hfz62_1
       try clear hfz62_2
       try clear hfz62_3
       try clear hfz62_4
       try clear hfz62_5
       try clear hfz62_6
       try clear hfz62_7
       try clear hfz62_8
       try clear hfz63_0
       try clear hfz63_1
       try clear hfz63_2
       try clear hfz63_3
       try clear hfz63_4
       try clear hfz63_5
       try clear hfz63_6
       try clear hfz63_7
       try clear hfz63_8
       obtain ⟨kq, x97_53, rfl, HA, HJ53, BK152, HB⟩ := hcut
       cases kq with
       | zero => exact absurd HA.out (by simp [spec_IsValidTransaction.j4])
       | succ kj53 =>
        have H := HA.out
        clear HA
        simp only [spec_IsValidTransaction.j4] at H
        by_cases c64 : x97_53 = true
        ·subst c64
         have H1 : (some false) = some r := by rw [if_pos rfl] at H; exact H
         clear H
         have H := H1
         clear H1
         obtain rfl := Option.some.inj H
         go_wp2
         go_ret
         exact QT (BT HB.out)
        replace c64 := Bool.eq_false_iff.mpr c64
        subst c64
        have H1 : ((spec_l1In.f a0_2 1 3).bind fun t167 => (if t167 = true then ((spec_l1In.f a0_4 0 999).bind fun t168 => (if t168 = true then ((spec_l1In.f a0_5 1 1000).bind fun t169 => (if t169 = true then (if ((a0_2 == 2) == (decide (a0_6 > 0))) = true then ((spec_l1In.f a0_6 0 999).bind fun t170 => (if t170 = true then (some (decide ((l0_7.length : Int) ≤ 60))) else (some false))) else (some false)) else (some false))) else (some false))) else (some false))) = some r := by rw [if_neg (show ¬ (false = true) by decide)] at H; exact H
        clear H
        have H := H1
        clear H1
        replace H := Option.bind_eq_some_iff.mp H
        obtain ⟨t167, A650, H⟩ := H
        replace H : (if t167 = true then ((spec_l1In.f a0_4 0 999).bind fun t168 => (if t168 = true then ((spec_l1In.f a0_5 1 1000).bind fun t169 => (if t169 = true then (if ((a0_2 == 2) == (decide (a0_6 > 0))) = true then ((spec_l1In.f a0_6 0 999).bind fun t170 => (if t170 = true then (some (decide ((l0_7.length : Int) ≤ 60))) else (some false))) else (some false)) else (some false))) else (some false))) else (some false)) = some r := H
        have A65 := AM_ A650
        clear A650
        by_cases c66 : t167 = true
        rotate_left
        ·replace c66 := Bool.eq_false_iff.mpr c66
         subst c66
         have H1 : (some false) = some r := by rw [if_neg (show ¬ (false = true) by decide)] at H; exact H
         clear H
         have H := H1
         clear H1
         obtain rfl := Option.some.inj H
         obtain ⟨hcz79_0, hcz79_1, hcz79_2, hcz79_3, hcz79_4, hcz79_5, hcz79_6, hcz79_7, hcz79_8, hfz79_0, hfz79_1, hfz79_2, hfz79_3, hfz79_4, hfz79_5, hfz79_6, hfz79_7, hfz79_8⟩ := bk9 BK152.out
         go_wp2_with (first | ((with_reducible refine gate_callee (f := 59) rfl ?_); refine goesL_ (some 100) rfl rfl Tryz.func59 (by kernel_rfl) rfl #[.int .i64 a0_2, .int .i64 1, .int .i64 3] rfl (by (try simp only [List.map_toArray, List.map_cons, List.map_nil]); first | done | rfl | (simp only [List.length_drop, List.length_take]; rfl)) ?_; (with_reducible refine (spec_l1In.calls a0_2 1 3 false _ A65.out).mono ?_); rintro e w' ⟨rfl, ⟨nd, rfl⟩⟩; refine ⟨_, rfl, ?_⟩))
         go_ret
         exact QT (BT HB.out)
        subst c66
        have H1 : ((spec_l1In.f a0_4 0 999).bind fun t168 => (if t168 = true then ((spec_l1In.f a0_5 1 1000).bind fun t169 => (if t169 = true then (if ((a0_2 == 2) == (decide (a0_6 > 0))) = true then ((spec_l1In.f a0_6 0 999).bind fun t170 => (if t170 = true then (some (decide ((l0_7.length : Int) ≤ 60))) else (some false))) else (some false)) else (some false))) else (some false))) = some r := by rw [if_pos rfl] at H; exact H
        clear H
        have H := H1
        clear H1
        replace H := Option.bind_eq_some_iff.mp H
        obtain ⟨t168, A670, H⟩ := H
        replace H : (if t168 = true then ((spec_l1In.f a0_5 1 1000).bind fun t169 => (if t169 = true then (if ((a0_2 == 2) == (decide (a0_6 > 0))) = true then ((spec_l1In.f a0_6 0 999).bind fun t170 => (if t170 = true then (some (decide ((l0_7.length : Int) ≤ 60))) else (some false))) else (some false)) else (some false))) else (some false)) = some r := H
        have A67 := AM_ A670
        clear A670
        by_cases c68 : t168 = true
        rotate_left
        ·replace c68 := Bool.eq_false_iff.mpr c68
         subst c68
         have H1 : (some false) = some r := by rw [if_neg (show ¬ (false = true) by decide)] at H; exact H
         clear H
         have H := H1
         clear H1
         obtain rfl := Option.some.inj H
         obtain ⟨hcz78_0, hcz78_1, hcz78_2, hcz78_3, hcz78_4, hcz78_5, hcz78_6, hcz78_7, hcz78_8, hfz78_0, hfz78_1, hfz78_2, hfz78_3, hfz78_4, hfz78_5, hfz78_6, hfz78_7, hfz78_8⟩ := bk9 BK152.out
         go_wp2_with (first | ((with_reducible refine gate_callee (f := 59) rfl ?_); refine goesL_ (some 100) rfl rfl Tryz.func59 (by kernel_rfl) rfl #[.int .i64 a0_2, .int .i64 1, .int .i64 3] rfl (by (try simp only [List.map_toArray, List.map_cons, List.map_nil]); first | done | rfl | (simp only [List.length_drop, List.length_take]; rfl)) ?_; (with_reducible refine (spec_l1In.calls a0_2 1 3 true _ A65.out).mono ?_); rintro e w' ⟨rfl, ⟨nd, rfl⟩⟩; refine ⟨_, rfl, ?_⟩) | (go_at_call 59; (with_reducible refine (spec_l1In.calls a0_4 0 999 false _ A67.out).mono ?_); rintro e w' ⟨rfl, ⟨nd, rfl⟩⟩))
         go_ret
         exact QT (BT HB.out)
        subst c68
        have H1 : ((spec_l1In.f a0_5 1 1000).bind fun t169 => (if t169 = true then (if ((a0_2 == 2) == (decide (a0_6 > 0))) = true then ((spec_l1In.f a0_6 0 999).bind fun t170 => (if t170 = true then (some (decide ((l0_7.length : Int) ≤ 60))) else (some false))) else (some false)) else (some false))) = some r := by rw [if_pos rfl] at H; exact H
        clear H
        have H := H1
        clear H1
        replace H := Option.bind_eq_some_iff.mp H
        obtain ⟨t169, A690, H⟩ := H
        replace H : (if t169 = true then (if ((a0_2 == 2) == (decide (a0_6 > 0))) = true then ((spec_l1In.f a0_6 0 999).bind fun t170 => (if t170 = true then (some (decide ((l0_7.length : Int) ≤ 60))) else (some false))) else (some false)) else (some false)) = some r := H
        have A69 := AM_ A690
        clear A690
        by_cases c70 : t169 = true
        rotate_left
        ·replace c70 := Bool.eq_false_iff.mpr c70
         subst c70
         have H1 : (some false) = some r := by rw [if_neg (show ¬ (false = true) by decide)] at H; exact H
         clear H
         have H := H1
         clear H1
         obtain rfl := Option.some.inj H
         obtain ⟨hcz77_0, hcz77_1, hcz77_2, hcz77_3, hcz77_4, hcz77_5, hcz77_6, hcz77_7, hcz77_8, hfz77_0, hfz77_1, hfz77_2, hfz77_3, hfz77_4, hfz77_5, hfz77_6, hfz77_7, hfz77_8⟩ := bk9 BK152.out
         go_wp2_with (first | ((with_reducible refine gate_callee (f := 59) rfl ?_); refine goesL_ (some 100) rfl rfl Tryz.func59 (by kernel_rfl) rfl #[.int .i64 a0_2, .int .i64 1, .int .i64 3] rfl (by (try simp only [List.map_toArray, List.map_cons, List.map_nil]); first | done | rfl | (simp only [List.length_drop, List.length_take]; rfl)) ?_; (with_reducible refine (spec_l1In.calls a0_2 1 3 true _ A65.out).mono ?_); rintro e w' ⟨rfl, ⟨nd, rfl⟩⟩; refine ⟨_, rfl, ?_⟩) | (go_at_call 59; (with_reducible refine (spec_l1In.calls a0_4 0 999 true _ A67.out).mono ?_); rintro e w' ⟨rfl, ⟨nd, rfl⟩⟩) | (go_at_call 59; (with_reducible refine (spec_l1In.calls a0_5 1 1000 false _ A69.out).mono ?_); rintro e w' ⟨rfl, ⟨nd, rfl⟩⟩))
         go_ret
         exact QT (BT HB.out)
        subst c70
        have H1 : (if ((a0_2 == 2) == (decide (a0_6 > 0))) = true then ((spec_l1In.f a0_6 0 999).bind fun t170 => (if t170 = true then (some (decide ((l0_7.length : Int) ≤ 60))) else (some false))) else (some false)) = some r := by rw [if_pos rfl] at H; exact H
        clear H
        have H := H1
        clear H1
        by_cases c71 : ((a0_2 == 2) == (decide (a0_6 > 0))) = true
        rotate_left
        ·rw [if_neg c71] at H
         have c71b0 : ((a0_2 == 2) == (decide (a0_6 > 0))) = false := by simpa using c71
         (try (have c71b1 : decide ((a0_2 == 2) = (decide (a0_6 > 0))) = false := by simpa using c71))
         (try (have c71b2 : ((a0_2 == 2) == (decide (a0_6 > 0))) = false := by simpa using c71))
         (try (have c71b3 : ¬ ((a0_2 == 2) = (decide (a0_6 > 0))) := by simpa using c71))
         clear c71
         obtain rfl := Option.some.inj H
         obtain ⟨hcz76_0, hcz76_1, hcz76_2, hcz76_3, hcz76_4, hcz76_5, hcz76_6, hcz76_7, hcz76_8, hfz76_0, hfz76_1, hfz76_2, hfz76_3, hfz76_4, hfz76_5, hfz76_6, hfz76_7, hfz76_8⟩ := bk9 BK152.out
         go_wp2_with (first | ((with_reducible refine gate_callee (f := 59) rfl ?_); refine goesL_ (some 100) rfl rfl Tryz.func59 (by kernel_rfl) rfl #[.int .i64 a0_2, .int .i64 1, .int .i64 3] rfl (by (try simp only [List.map_toArray, List.map_cons, List.map_nil]); first | done | rfl | (simp only [List.length_drop, List.length_take]; rfl)) ?_; (with_reducible refine (spec_l1In.calls a0_2 1 3 true _ A65.out).mono ?_); rintro e w' ⟨rfl, ⟨nd, rfl⟩⟩; refine ⟨_, rfl, ?_⟩) | (go_at_call 59; (with_reducible refine (spec_l1In.calls a0_4 0 999 true _ A67.out).mono ?_); rintro e w' ⟨rfl, ⟨nd, rfl⟩⟩) | (go_at_call 59; (with_reducible refine (spec_l1In.calls a0_5 1 1000 true _ A69.out).mono ?_); rintro e w' ⟨rfl, ⟨nd, rfl⟩⟩))
         go_ret
         exact QT (BT HB.out)
        rw [if_pos c71] at H
        have c71b0 : ((a0_2 == 2) == (decide (a0_6 > 0))) = true := c71
        (try (have c71b1 : decide ((a0_2 == 2) = (decide (a0_6 > 0))) = true := by simpa using c71))
        (try (have c71b2 : ((a0_2 == 2) == (decide (a0_6 > 0))) = true := by simpa using c71))
        clear c71
        replace H := Option.bind_eq_some_iff.mp H
        obtain ⟨t170, A720, H⟩ := H
        replace H : (if t170 = true then (some (decide ((l0_7.length : Int) ≤ 60))) else (some false)) = some r := H
        have A72 := AM_ A720
        clear A720
        by_cases c73 : t170 = true
        ·subst c73
         have H1 : (some (decide ((l0_7.length : Int) ≤ 60))) = some r := by rw [if_pos rfl] at H; exact H
         clear H
         have H := H1
         clear H1
         obtain rfl := Option.some.inj H
         obtain ⟨hcz74_0, hcz74_1, hcz74_2, hcz74_3, hcz74_4, hcz74_5, hcz74_6, hcz74_7, hcz74_8, hfz74_0, hfz74_1, hfz74_2, hfz74_3, hfz74_4, hfz74_5, hfz74_6, hfz74_7, hfz74_8⟩ := bk9 BK152.out
         go_wp2_with (first | ((with_reducible refine gate_callee (f := 59) rfl ?_); refine goesL_ (some 100) rfl rfl Tryz.func59 (by kernel_rfl) rfl #[.int .i64 a0_2, .int .i64 1, .int .i64 3] rfl (by (try simp only [List.map_toArray, List.map_cons, List.map_nil]); first | done | rfl | (simp only [List.length_drop, List.length_take]; rfl)) ?_; (with_reducible refine (spec_l1In.calls a0_2 1 3 true _ A65.out).mono ?_); rintro e w' ⟨rfl, ⟨nd, rfl⟩⟩; refine ⟨_, rfl, ?_⟩) | (go_at_call 59; (with_reducible refine (spec_l1In.calls a0_4 0 999 true _ A67.out).mono ?_); rintro e w' ⟨rfl, ⟨nd, rfl⟩⟩) | (go_at_call 59; (with_reducible refine (spec_l1In.calls a0_5 1 1000 true _ A69.out).mono ?_); rintro e w' ⟨rfl, ⟨nd, rfl⟩⟩) | (go_at_call 59; (with_reducible refine (spec_l1In.calls a0_6 0 999 true _ A72.out).mono ?_); rintro e w' ⟨rfl, ⟨nd, rfl⟩⟩))
         go_ret
         exact QT (BT HB.out)
        replace c73 := Bool.eq_false_iff.mpr c73
        subst c73
        have H1 : (some false) = some r := by rw [if_neg (show ¬ (false = true) by decide)] at H; exact H
        clear H
        have H := H1
        clear H1
        obtain rfl := Option.some.inj H
        obtain ⟨hcz75_0, hcz75_1, hcz75_2, hcz75_3, hcz75_4, hcz75_5, hcz75_6, hcz75_7, hcz75_8, hfz75_0, hfz75_1, hfz75_2, hfz75_3, hfz75_4, hfz75_5, hfz75_6, hfz75_7, hfz75_8⟩ := bk9 BK152.out
        go_wp2_with (first | ((with_reducible refine gate_callee (f := 59) rfl ?_); refine goesL_ (some 100) rfl rfl Tryz.func59 (by kernel_rfl) rfl #[.int .i64 a0_2, .int .i64 1, .int .i64 3] rfl (by (try simp only [List.map_toArray, List.map_cons, List.map_nil]); first | done | rfl | (simp only [List.length_drop, List.length_take]; rfl)) ?_; (with_reducible refine (spec_l1In.calls a0_2 1 3 true _ A65.out).mono ?_); rintro e w' ⟨rfl, ⟨nd, rfl⟩⟩; refine ⟨_, rfl, ?_⟩) | (go_at_call 59; (with_reducible refine (spec_l1In.calls a0_4 0 999 true _ A67.out).mono ?_); rintro e w' ⟨rfl, ⟨nd, rfl⟩⟩) | (go_at_call 59; (with_reducible refine (spec_l1In.calls a0_5 1 1000 true _ A69.out).mono ?_); rintro e w' ⟨rfl, ⟨nd, rfl⟩⟩) | (go_at_call 59; (with_reducible refine (spec_l1In.calls a0_6 0 999 false _ A72.out).mono ?_); rintro e w' ⟨rfl, ⟨nd, rfl⟩⟩))
        go_ret
        exact QT (BT HB.out)
     rw [if_pos c30] at H
     have c30b0 : decide (x5_2 < (l0_8.length : Int)) = true := decide_eq_true c30
     clear c30
     replace H := HI H
     obtain ⟨c31, H⟩ := H
     have c31b0 : decide (0 ≤ x5_2) = true := decide_eq_true c31
     clear c31
     have HC32 := AM_ H
     clear H
     obtain ⟨hcz33_0, hcz33_1, hcz33_2, hcz33_3, hcz33_4, hcz33_5, hcz33_6, hcz33_7, hcz33_8, hfz33_0, hfz33_1, hfz33_2, hfz33_3, hfz33_4, hfz33_5, hfz33_6, hfz33_7, hfz33_8⟩ := bk9 BK152.out
     have p159 : 0 ≤ (x5_2 : Int) := DT
     have q159 : x5_2 < (l0_8.length : Int) := DT
     obtain ⟨ad159, e159, hx159_0, hx159_1⟩ := at_T50 HR0_8.out x5_2 p159 q159
     cases e159
     replace hx159_0 := BC HB.out hx159_0
     replace hx159_1 := BC HB.out hx159_1
     replace p159 := eq_true p159
     replace q159 := eq_true q159
     go_upto_region 11 with (first | ((with_reducible refine gate_dst (N := 6) rfl ?_); (try (refine gate_guard (by rfl) ?_; dsimp only)); refine box_event ?hg (N := 6) ?hd (cs := #[.int .i64 0, .int .i64 0]) (t := 50) ?hr ?_; (case hd => rfl); (case hg => rfl); (case hr => first | (go_simp; done) | (go_simp; rfl)); intro gb160 hg w34 hbox hb; have BK160 := AM_ (hbox); have GW160 := AM_ ((GS HB.out hg)); have GE160 := AM_ ((GS HB.out hg)); replace HB := AM_ (below_step (BT HB.out) hb); have NB152_160 := AM_ ((NL BK152.out hg)); have NB160_152 := AM_ ((NG BK152.out hg)); replace BK152 := AM_ (BB BK152.out hb); clear hb hbox hg; have hnb35 := NB160_152.out; have hnc35 := NB152_160.out; obtain ⟨hcz36_0, hcz36_1, hfz36_0, hfz36_1⟩ := bk2 BK160.out))
     (try simp only [pA, pS, pZ, pK])
     go_cut [81] (fun v81 wc => ∃ (kq : Nat) (x81_31 : Bool), v81 = .bool x81_31 ∧ Aside0 (spec_IsValidTransaction.j3 kq x5_2 x81_31 a0_0 a0_1 a0_2 a0_3 a0_4 a0_5 a0_6 l0_7 l0_8 = some r) ∧ Aside0 (kq ≤ k2) ∧ Aside0 (wc.heap[gb152]? = some (.cells #[.int .i64 a0_0, .int .i64 a0_1, .int .i64 a0_2, .int .i64 a0_3, .int .i64 a0_4, .int .i64 a0_5, .int .i64 a0_6, (.slice A0_7 l0_7.length c0_7), (.slice (some ad159) l0_8.length c0_8)] 65 (0, 0))) ∧ Aside0 (wc.heap[gb160]? = some (.cells #[.int .i64 ((rd_T50 l0_8 x5_2).f0), .int .i64 ((rd_T50 l0_8 x5_2).f1)] 50 (0, 0))) ∧ Aside0 (Below w.heap.size w wc))
     case first =>
      have H := HC32.out
      clear HC32
      replace H := Option.bind_eq_some_iff.mp H
      obtain ⟨t161, A370, H⟩ := H
      replace H : (if t161 = true then ((spec_l1In.f ((rd_T50 l0_8 x5_2).f1) (-1) 99).bind fun t162 => (if t162 = true then (if x5_2 > 0 then (if 0 ≤ (wrap64 (x5_2 - 1)) then (if (wrap64 (x5_2 - 1)) < (l0_8.length : Int) then (spec_IsValidTransaction.j3 k2 x5_2 (decide (((rd_T50 l0_8 (wrap64 (x5_2 - 1))).f0) ≥ ((rd_T50 l0_8 x5_2).f0))) a0_0 a0_1 a0_2 a0_3 a0_4 a0_5 a0_6 l0_7 l0_8) else (none)) else (none)) else (spec_IsValidTransaction.j3 k2 x5_2 false a0_0 a0_1 a0_2 a0_3 a0_4 a0_5 a0_6 l0_7 l0_8)) else (spec_IsValidTransaction.j3 k2 x5_2 true a0_0 a0_1 a0_2 a0_3 a0_4 a0_5 a0_6 l0_7 l0_8))) else (spec_IsValidTransaction.j3 k2 x5_2 true a0_0 a0_1 a0_2 a0_3 a0_4 a0_5 a0_6 l0_7 l0_8)) = some r := H
      have A37 := AM_ A370
      clear A370
      by_cases c38 : t161 = true
      rotate_left
      ·replace c38 := Bool.eq_false_iff.mpr c38
       subst c38
       have H1 : (spec_IsValidTransaction.j3 k2 x5_2 true a0_0 a0_1 a0_2 a0_3 a0_4 a0_5 a0_6 l0_7 l0_8) = some r := by rw [if_neg (show ¬ (false = true) by decide)] at H; exact H
       clear H
       have H := H1
       clear H1
       have H' := AM_ H
       clear H
       try go_wp2
       have n0_ : Aside0 (((w34.setCell ⟨gb160, 0, none⟩ (.int .i64 ((rd_T50 l0_8 x5_2).f0))).setCell ⟨gb160, 1, none⟩ (.int .i64 ((rd_T50 l0_8 x5_2).f1))).heap[gb152]? = some (.cells #[.int .i64 a0_0, .int .i64 a0_1, .int .i64 a0_2, .int .i64 a0_3, .int .i64 a0_4, .int .i64 a0_5, .int .i64 a0_6, .slice A0_7 l0_7.length c0_7, .slice (some ad159) l0_8.length c0_8] 65 (0, 0))) := ⟨BG BK152.out NB152_160.out⟩
       have n1_ : Aside0 (((w34.setCell ⟨gb160, 0, none⟩ (.int .i64 ((rd_T50 l0_8 x5_2).f0))).setCell ⟨gb160, 1, none⟩ (.int .i64 ((rd_T50 l0_8 x5_2).f1))).heap[gb160]? = some (.cells #[.int .i64 ((rd_T50 l0_8 x5_2).f0), .int .i64 ((rd_T50 l0_8 x5_2).f1)] 50 (0, 0))) := ⟨BQ BK160.out⟩
       have n2_ : Aside0 (Below w.heap.size w ((w34.setCell ⟨gb160, 0, none⟩ (.int .i64 ((rd_T50 l0_8 x5_2).f0))).setCell ⟨gb160, 1, none⟩ (.int .i64 ((rd_T50 l0_8 x5_2).f1)))) := ⟨BT HB.out⟩
       (try clear BK152)
       (try clear BK160)
       (try clear HB)
       generalize ((w34.setCell ⟨gb160, 0, none⟩ (.int .i64 ((rd_T50 l0_8 x5_2).f0))).setCell ⟨gb160, 1, none⟩ (.int .i64 ((rd_T50 l0_8 x5_2).f1))) = w51 at n0_ n1_ n2_ ⊢
       have BK152 := n0_
       have BK160 := n1_
       have HB := n2_
       clear n0_ n1_ n2_
       replace BK152 := AM_ (blk_drew BK152.out)
       replace BK160 := AM_ (blk_drew BK160.out)
       replace HB := AM_ (below_drew1 HB.out)
       refine start_ (n := 26) (S := fun w' => w'.cell? ⟨gb160, 0, none⟩ = some (.int .i64 ((rd_T50 l0_8 x5_2).f0)) ∧ w'.cell? ⟨gb160, 1, none⟩ = some (.int .i64 ((rd_T50 l0_8 x5_2).f1))) (ds := []) (bs 0 26) (by kernel_rfl) rfl rfl ⟨bc BK160.out 0, bc BK160.out 1⟩ (fun hHeld => ?_); refine with_tabW spec_IsValidTransaction.tab11 spec_IsValidTransaction.bits11 (fun HT_ HW_ => ?_)
       generalize w51.drew = w52 at BK152 BK160 HB hHeld ⊢
       refine pu (i := 0) (N := some 56) (v := ?_) (a' := ?_) (bs 1 26) rfl rfl HT_ ?_ ?_ ?_
       rotate_left
       ·intro w'
        go_simp
        with_reducible rfl
       rotate_left
       ·simp only[pA,pS,pZ,pK,pV]
        rfl
       refine tk (i := 1) (N := some 57) (v := ?_) (a' := ?_) (bs 3 26) rfl rfl HT_ HW_ ?_ hHeld ?_ ?_
       rotate_left
       ·rintro w' ⟨s0, s1⟩
        go_simp
        with_reducible rfl
       rotate_left
       ·simp only[pA,pS,pZ,pK,pV]
        rfl
       refine one_ (i := 2) (N := some 58) (bs 7 26) rfl rfl (one_of HT_.out (by kernel_rfl)) (by decide) (fun K hK => ?_)
       refine goes_ Tryz.func59 (by kernel_rfl) rfl #[.int .i64 ((rd_T50 l0_8 x5_2).f0), .int .i64 0, .int .i64 5] (by rfl) rfl rfl (by (try simp only [List.map_toArray, List.map_cons, List.map_nil]); first | done | rfl | (simp only [List.length_drop, List.length_take]; rfl)) ?_
       with_reducible refine (spec_l1In.calls ((rd_T50 l0_8 x5_2).f0) 0 5 false _ A37.out).mono ?_
       rintro e w' ⟨rfl, ⟨nd, rfl⟩⟩
       refine ⟨_, rfl, ?_⟩
       refine hK.out _ _ ⟨bc BK160.out 0, bc BK160.out 1⟩ (fun hHeld => ?_)
       clear hK K
       refine norm_ (a' := ?_) ?_ ?_
       rotate_left
       ·show Act.put _ (some 58) _ = _
        simp only[pA,pS,pZ,pK,pV]
        rfl
       refine pu (i := 3) (N := some 59) (v := ?_) (a' := ?_) (bs 15 26) rfl rfl HT_ ?_ ?_ ?_
       rotate_left
       ·intro w'
        go_simp
        with_reducible rfl
       rotate_left
       ·simp only[pA,pS,pZ,pK,pV]
        rfl
       refine pu (i := 4) (N := some 60) (v := ?_) (a' := ?_) (bs 31 26) rfl rfl HT_ ?_ ?_ ?_
       rotate_left
       ·intro w'
        go_simp
        with_reducible rfl
       rotate_left
       ·simp only[pA,pS,pZ,pK,pV]
        rfl
       refine pn (i := 5) (N := some 61) (v := undef) (a' := ?_) (bs 63 26) rfl rfl HT_ ?_ ?_
       rotate_left
       ·simp only[pA,pS,pZ,pK,pV]
        rfl
       refine pn (i := 6) (N := some 62) (v := undef) (a' := ?_) (bs 127 26) rfl rfl HT_ ?_ ?_
       rotate_left
       ·simp only[pA,pS,pZ,pK,pV]
        rfl
       refine pn (i := 7) (N := some 63) (v := undef) (a' := ?_) (bs 255 26) rfl rfl HT_ ?_ ?_
       rotate_left
       ·simp only[pA,pS,pZ,pK,pV]
        rfl
       refine pn (i := 8) (N := some 64) (v := undef) (a' := ?_) (bs 511 26) rfl rfl HT_ ?_ ?_
       rotate_left
       ·simp only[pA,pS,pZ,pK,pV]
        rfl
       refine pu (i := 9) (N := some 65) (v := ?_) (a' := ?_) (bs 1023 26) rfl rfl HT_ ?_ ?_ ?_
       rotate_left
       ·intro w'
        go_simp
        with_reducible rfl
       rotate_left
       ·simp only[pA,pS,pZ,pK,pV]
        rfl
       refine pu (i := 10) (N := some 66) (v := ?_) (a' := ?_) (bs 2047 26) rfl rfl HT_ ?_ ?_ ?_
       rotate_left
       ·intro w'
        go_simp
        with_reducible rfl
       rotate_left
       ·simp only[pA,pS,pZ,pK,pV]
        rfl
       refine pn (i := 11) (N := some 67) (v := undef) (a' := ?_) (bs 4095 26) rfl rfl HT_ ?_ ?_
       rotate_left
       ·simp only[pA,pS,pZ,pK,pV]
        rfl
       refine pn (i := 12) (N := some 68) (v := undef) (a' := ?_) (bs 8191 26) rfl rfl HT_ ?_ ?_
       rotate_left
       ·simp only[pA,pS,pZ,pK,pV]
        rfl
       refine pn (i := 13) (N := some 69) (v := undef) (a' := ?_) (bs 16383 26) rfl rfl HT_ ?_ ?_
       rotate_left
       ·simp only[pA,pS,pZ,pK,pV]
        rfl
       refine pn (i := 14) (N := some 70) (v := undef) (a' := ?_) (bs 32767 26) rfl rfl HT_ ?_ ?_
       rotate_left
       ·simp only[pA,pS,pZ,pK,pV]
        rfl
       refine pn (i := 15) (N := some 71) (v := undef) (a' := ?_) (bs 65535 26) rfl rfl HT_ ?_ ?_
       rotate_left
       ·simp only[pA,pS,pZ,pK,pV]
        rfl
       refine pn (i := 16) (N := some 72) (v := undef) (a' := ?_) (bs 131071 26) rfl rfl HT_ ?_ ?_
       rotate_left
       ·simp only[pA,pS,pZ,pK,pV]
        rfl
       refine pn (i := 17) (N := some 73) (v := undef) (a' := ?_) (bs 262143 26) rfl rfl HT_ ?_ ?_
       rotate_left
       ·simp only[pA,pS,pZ,pK,pV]
        rfl
       refine pn (i := 18) (N := some 74) (v := undef) (a' := ?_) (bs 524287 26) rfl rfl HT_ ?_ ?_
       rotate_left
       ·simp only[pA,pS,pZ,pK,pV]
        rfl
       refine pn (i := 19) (N := some 75) (v := undef) (a' := ?_) (bs 1048575 26) rfl rfl HT_ ?_ ?_
       rotate_left
       ·simp only[pA,pS,pZ,pK,pV]
        rfl
       refine pn (i := 20) (N := some 76) (v := undef) (a' := ?_) (bs 2097151 26) rfl rfl HT_ ?_ ?_
       rotate_left
       ·simp only[pA,pS,pZ,pK,pV]
        rfl
       refine pn (i := 21) (N := some 77) (v := undef) (a' := ?_) (bs 4194303 26) rfl rfl HT_ ?_ ?_
       rotate_left
       ·simp only[pA,pS,pZ,pK,pV]
        rfl
       refine pn (i := 22) (N := some 78) (v := undef) (a' := ?_) (bs 8388607 26) rfl rfl HT_ ?_ ?_
       rotate_left
       ·simp only[pA,pS,pZ,pK,pV]
        rfl
       refine pn (i := 23) (N := some 79) (v := undef) (a' := ?_) (bs 16777215 26) rfl rfl HT_ ?_ ?_
       rotate_left
       ·simp only[pA,pS,pZ,pK,pV]
        rfl
       refine pn (i := 24) (N := some 80) (v := undef) (a' := ?_) (bs 33554431 26) rfl rfl HT_ ?_ ?_
       rotate_left
       ·simp only[pA,pS,pZ,pK,pV]
        rfl
       refine pu (i := 25) (N := some 81) (v := ?_) (a' := ?_) (bs 67108863 26) rfl rfl HT_ ?_ ?_ ?_
       rotate_left
       ·intro w'
        go_simp
        with_reducible rfl
       rotate_left
       ·simp only[pA,pS,pZ,pK,pV]
        rfl
       refine done_ (done_of HT_.out (by kernel_rfl)) ?_
       try go_wp2
       go_meet
       case rel => exact ⟨_, (true), (by first | rfl | (simp; done) | (simp [*]; done)), H', ⟨by have := HK1.out; have := HK2.out; first | omega | exact Nat.le_refl _⟩, ⟨BH BK152.out⟩, ⟨BH BK160.out⟩, ⟨BT HB.out⟩⟩
      subst c38
      have H1 : ((spec_l1In.f ((rd_T50 l0_8 x5_2).f1) (-1) 99).bind fun t162 => (if t162 = true then (if x5_2 > 0 then (if 0 ≤ (wrap64 (x5_2 - 1)) then (if (wrap64 (x5_2 - 1)) < (l0_8.length : Int) then (spec_IsValidTransaction.j3 k2 x5_2 (decide (((rd_T50 l0_8 (wrap64 (x5_2 - 1))).f0) ≥ ((rd_T50 l0_8 x5_2).f0))) a0_0 a0_1 a0_2 a0_3 a0_4 a0_5 a0_6 l0_7 l0_8) else (none)) else (none)) else (spec_IsValidTransaction.j3 k2 x5_2 false a0_0 a0_1 a0_2 a0_3 a0_4 a0_5 a0_6 l0_7 l0_8)) else (spec_IsValidTransaction.j3 k2 x5_2 true a0_0 a0_1 a0_2 a0_3 a0_4 a0_5 a0_6 l0_7 l0_8))) = some r := by rw [if_pos rfl] at H; exact H
      clear H
      have H := H1
      clear H1
      replace H := Option.bind_eq_some_iff.mp H
      obtain ⟨t162, A390, H⟩ := H
      replace H : (if t162 = true then (if x5_2 > 0 then (if 0 ≤ (wrap64 (x5_2 - 1)) then (if (wrap64 (x5_2 - 1)) < (l0_8.length : Int) then (spec_IsValidTransaction.j3 k2 x5_2 (decide (((rd_T50 l0_8 (wrap64 (x5_2 - 1))).f0) ≥ ((rd_T50 l0_8 x5_2).f0))) a0_0 a0_1 a0_2 a0_3 a0_4 a0_5 a0_6 l0_7 l0_8) else (none)) else (none)) else (spec_IsValidTransaction.j3 k2 x5_2 false a0_0 a0_1 a0_2 a0_3 a0_4 a0_5 a0_6 l0_7 l0_8)) else (spec_IsValidTransaction.j3 k2 x5_2 true a0_0 a0_1 a0_2 a0_3 a0_4 a0_5 a0_6 l0_7 l0_8)) = some r := H
      have A39 := AM_ A390
      clear A390
      by_cases c40 : t162 = true
      rotate_left
      ·replace c40 := Bool.eq_false_iff.mpr c40
       subst c40
       have H1 : (spec_IsValidTransaction.j3 k2 x5_2 true a0_0 a0_1 a0_2 a0_3 a0_4 a0_5 a0_6 l0_7 l0_8) = some r := by rw [if_neg (show ¬ (false = true) by decide)] at H; exact H
       clear H
       have H := H1
       clear H1
       have H' := AM_ H
       clear H
       try go_wp2
       have n0_ : Aside0 (((w34.setCell ⟨gb160, 0, none⟩ (.int .i64 ((rd_T50 l0_8 x5_2).f0))).setCell ⟨gb160, 1, none⟩ (.int .i64 ((rd_T50 l0_8 x5_2).f1))).heap[gb152]? = some (.cells #[.int .i64 a0_0, .int .i64 a0_1, .int .i64 a0_2, .int .i64 a0_3, .int .i64 a0_4, .int .i64 a0_5, .int .i64 a0_6, .slice A0_7 l0_7.length c0_7, .slice (some ad159) l0_8.length c0_8] 65 (0, 0))) := ⟨BG BK152.out NB152_160.out⟩
       have n1_ : Aside0 (((w34.setCell ⟨gb160, 0, none⟩ (.int .i64 ((rd_T50 l0_8 x5_2).f0))).setCell ⟨gb160, 1, none⟩ (.int .i64 ((rd_T50 l0_8 x5_2).f1))).heap[gb160]? = some (.cells #[.int .i64 ((rd_T50 l0_8 x5_2).f0), .int .i64 ((rd_T50 l0_8 x5_2).f1)] 50 (0, 0))) := ⟨BQ BK160.out⟩
       have n2_ : Aside0 (Below w.heap.size w ((w34.setCell ⟨gb160, 0, none⟩ (.int .i64 ((rd_T50 l0_8 x5_2).f0))).setCell ⟨gb160, 1, none⟩ (.int .i64 ((rd_T50 l0_8 x5_2).f1)))) := ⟨BT HB.out⟩
       (try clear BK152)
       (try clear BK160)
       (try clear HB)
       generalize ((w34.setCell ⟨gb160, 0, none⟩ (.int .i64 ((rd_T50 l0_8 x5_2).f0))).setCell ⟨gb160, 1, none⟩ (.int .i64 ((rd_T50 l0_8 x5_2).f1))) = w49 at n0_ n1_ n2_ ⊢
       have BK152 := n0_
       have BK160 := n1_
       have HB := n2_
       clear n0_ n1_ n2_
       replace BK152 := AM_ (blk_drew BK152.out)
       replace BK160 := AM_ (blk_drew BK160.out)
       replace HB := AM_ (below_drew1 HB.out)
       refine start_ (n := 26) (S := fun w' => w'.cell? ⟨gb160, 0, none⟩ = some (.int .i64 ((rd_T50 l0_8 x5_2).f0)) ∧ w'.cell? ⟨gb160, 1, none⟩ = some (.int .i64 ((rd_T50 l0_8 x5_2).f1))) (ds := []) (bs 0 26) (by kernel_rfl) rfl rfl ⟨bc BK160.out 0, bc BK160.out 1⟩ (fun hHeld => ?_); refine with_tabW spec_IsValidTransaction.tab11 spec_IsValidTransaction.bits11 (fun HT_ HW_ => ?_)
       generalize w49.drew = w50 at BK152 BK160 HB hHeld ⊢
       refine pu (i := 0) (N := some 56) (v := ?_) (a' := ?_) (bs 1 26) rfl rfl HT_ ?_ ?_ ?_
       rotate_left
       ·intro w'
        go_simp
        with_reducible rfl
       rotate_left
       ·simp only[pA,pS,pZ,pK,pV]
        rfl
       refine tk (i := 1) (N := some 57) (v := ?_) (a' := ?_) (bs 3 26) rfl rfl HT_ HW_ ?_ hHeld ?_ ?_
       rotate_left
       ·rintro w' ⟨s0, s1⟩
        go_simp
        with_reducible rfl
       rotate_left
       ·simp only[pA,pS,pZ,pK,pV]
        rfl
       refine one_ (i := 2) (N := some 58) (bs 7 26) rfl rfl (one_of HT_.out (by kernel_rfl)) (by decide) (fun K hK => ?_)
       refine goes_ Tryz.func59 (by kernel_rfl) rfl #[.int .i64 ((rd_T50 l0_8 x5_2).f0), .int .i64 0, .int .i64 5] (by rfl) rfl rfl (by (try simp only [List.map_toArray, List.map_cons, List.map_nil]); first | done | rfl | (simp only [List.length_drop, List.length_take]; rfl)) ?_
       with_reducible refine (spec_l1In.calls ((rd_T50 l0_8 x5_2).f0) 0 5 true _ A37.out).mono ?_
       rintro e w' ⟨rfl, ⟨nd, rfl⟩⟩
       refine ⟨_, rfl, ?_⟩
       refine hK.out _ _ ⟨bc BK160.out 0, bc BK160.out 1⟩ (fun hHeld => ?_)
       clear hK K
       refine norm_ (a' := ?_) ?_ ?_
       rotate_left
       ·show Act.put _ (some 58) _ = _
        simp only[pA,pS,pZ,pK,pV]
        rfl
       refine pu (i := 3) (N := some 59) (v := ?_) (a' := ?_) (bs 15 26) rfl rfl HT_ ?_ ?_ ?_
       rotate_left
       ·intro w'
        go_simp
        with_reducible rfl
       rotate_left
       ·simp only[pA,pS,pZ,pK,pV]
        rfl
       refine pu (i := 4) (N := some 60) (v := ?_) (a' := ?_) (bs 31 26) rfl rfl HT_ ?_ ?_ ?_
       rotate_left
       ·intro w'
        go_simp
        with_reducible rfl
       rotate_left
       ·simp only[pA,pS,pZ,pK,pV]
        rfl
       refine pu (i := 5) (N := some 61) (v := ?_) (a' := ?_) (bs 63 26) rfl rfl HT_ ?_ ?_ ?_
       rotate_left
       ·intro w'
        go_simp
        with_reducible rfl
       rotate_left
       ·simp only[pA,pS,pZ,pK,pV]
        rfl
       refine tk (i := 6) (N := some 62) (v := ?_) (a' := ?_) (bs 127 26) rfl rfl HT_ HW_ ?_ hHeld ?_ ?_
       rotate_left
       ·rintro w' ⟨s0, s1⟩
        go_simp
        with_reducible rfl
       rotate_left
       ·simp only[pA,pS,pZ,pK,pV]
        rfl
       refine one_ (i := 7) (N := some 63) (bs 255 26) rfl rfl (one_of HT_.out (by kernel_rfl)) (by decide) (fun K hK => ?_)
       refine goes_ Tryz.func59 (by kernel_rfl) rfl #[.int .i64 ((rd_T50 l0_8 x5_2).f1), .int .i64 (-1), .int .i64 99] (by rfl) rfl rfl (by (try simp only [List.map_toArray, List.map_cons, List.map_nil]); first | done | rfl | (simp only [List.length_drop, List.length_take]; rfl)) ?_
       with_reducible refine (spec_l1In.calls ((rd_T50 l0_8 x5_2).f1) (-1) 99 false _ A39.out).mono ?_
       rintro e w' ⟨rfl, ⟨nd, rfl⟩⟩
       refine ⟨_, rfl, ?_⟩
       refine hK.out _ _ ⟨bc BK160.out 0, bc BK160.out 1⟩ (fun hHeld => ?_)
       clear hK K
       refine norm_ (a' := ?_) ?_ ?_
       rotate_left
       ·show Act.put _ (some 63) _ = _
        simp only[pA,pS,pZ,pK,pV]
        rfl
       refine pu (i := 8) (N := some 64) (v := ?_) (a' := ?_) (bs 511 26) rfl rfl HT_ ?_ ?_ ?_
       rotate_left
       ·intro w'
        go_simp
        with_reducible rfl
       rotate_left
       ·simp only[pA,pS,pZ,pK,pV]
        rfl
       refine pu (i := 9) (N := some 65) (v := ?_) (a' := ?_) (bs 1023 26) rfl rfl HT_ ?_ ?_ ?_
       rotate_left
       ·intro w'
        go_simp
        with_reducible rfl
       rotate_left
       ·simp only[pA,pS,pZ,pK,pV]
        rfl
       refine pu (i := 10) (N := some 66) (v := ?_) (a' := ?_) (bs 2047 26) rfl rfl HT_ ?_ ?_ ?_
       rotate_left
       ·intro w'
        go_simp
        with_reducible rfl
       rotate_left
       ·simp only[pA,pS,pZ,pK,pV]
        rfl
       refine pn (i := 11) (N := some 67) (v := undef) (a' := ?_) (bs 4095 26) rfl rfl HT_ ?_ ?_
       rotate_left
       ·simp only[pA,pS,pZ,pK,pV]
        rfl
       refine pn (i := 12) (N := some 68) (v := undef) (a' := ?_) (bs 8191 26) rfl rfl HT_ ?_ ?_
       rotate_left
       ·simp only[pA,pS,pZ,pK,pV]
        rfl
       refine pn (i := 13) (N := some 69) (v := undef) (a' := ?_) (bs 16383 26) rfl rfl HT_ ?_ ?_
       rotate_left
       ·simp only[pA,pS,pZ,pK,pV]
        rfl
       refine pn (i := 14) (N := some 70) (v := undef) (a' := ?_) (bs 32767 26) rfl rfl HT_ ?_ ?_
       rotate_left
       ·simp only[pA,pS,pZ,pK,pV]
        rfl
       refine pn (i := 15) (N := some 71) (v := undef) (a' := ?_) (bs 65535 26) rfl rfl HT_ ?_ ?_
       rotate_left
       ·simp only[pA,pS,pZ,pK,pV]
        rfl
       refine pn (i := 16) (N := some 72) (v := undef) (a' := ?_) (bs 131071 26) rfl rfl HT_ ?_ ?_
       rotate_left
       ·simp only[pA,pS,pZ,pK,pV]
        rfl
       refine pn (i := 17) (N := some 73) (v := undef) (a' := ?_) (bs 262143 26) rfl rfl HT_ ?_ ?_
       rotate_left
       ·simp only[pA,pS,pZ,pK,pV]
        rfl
       refine pn (i := 18) (N := some 74) (v := undef) (a' := ?_) (bs 524287 26) rfl rfl HT_ ?_ ?_
       rotate_left
       ·simp only[pA,pS,pZ,pK,pV]
        rfl
       refine pn (i := 19) (N := some 75) (v := undef) (a' := ?_) (bs 1048575 26) rfl rfl HT_ ?_ ?_
       rotate_left
       ·simp only[pA,pS,pZ,pK,pV]
        rfl
       refine pn (i := 20) (N := some 76) (v := undef) (a' := ?_) (bs 2097151 26) rfl rfl HT_ ?_ ?_
       rotate_left
       ·simp only[pA,pS,pZ,pK,pV]
        rfl
       refine pn (i := 21) (N := some 77) (v := undef) (a' := ?_) (bs 4194303 26) rfl rfl HT_ ?_ ?_
       rotate_left
       ·simp only[pA,pS,pZ,pK,pV]
        rfl
       refine pn (i := 22) (N := some 78) (v := undef) (a' := ?_) (bs 8388607 26) rfl rfl HT_ ?_ ?_
       rotate_left
       ·simp only[pA,pS,pZ,pK,pV]
        rfl
       refine pn (i := 23) (N := some 79) (v := undef) (a' := ?_) (bs 16777215 26) rfl rfl HT_ ?_ ?_
       rotate_left
       ·simp only[pA,pS,pZ,pK,pV]
        rfl
       refine pn (i := 24) (N := some 80) (v := undef) (a' := ?_) (bs 33554431 26) rfl rfl HT_ ?_ ?_
       rotate_left
       ·simp only[pA,pS,pZ,pK,pV]
        rfl
       refine pu (i := 25) (N := some 81) (v := ?_) (a' := ?_) (bs 67108863 26) rfl rfl HT_ ?_ ?_ ?_
       rotate_left
       ·intro w'
        go_simp
        with_reducible rfl
       rotate_left
       ·simp only[pA,pS,pZ,pK,pV]
        rfl
       refine done_ (done_of HT_.out (by kernel_rfl)) ?_
       try go_wp2
       go_meet
       case rel => exact ⟨_, (true), (by first | rfl | (simp; done) | (simp [*]; done)), H', ⟨by have := HK1.out; have := HK2.out; first | omega | exact Nat.le_refl _⟩, ⟨BH BK152.out⟩, ⟨BH BK160.out⟩, ⟨BT HB.out⟩⟩
      subst c40
      have H1 : (if x5_2 > 0 then (if 0 ≤ (wrap64 (x5_2 - 1)) then (if (wrap64 (x5_2 - 1)) < (l0_8.length : Int) then (spec_IsValidTransaction.j3 k2 x5_2 (decide (((rd_T50 l0_8 (wrap64 (x5_2 - 1))).f0) ≥ ((rd_T50 l0_8 x5_2).f0))) a0_0 a0_1 a0_2 a0_3 a0_4 a0_5 a0_6 l0_7 l0_8) else (none)) else (none)) else (spec_IsValidTransaction.j3 k2 x5_2 false a0_0 a0_1 a0_2 a0_3 a0_4 a0_5 a0_6 l0_7 l0_8)) = some r := by rw [if_pos rfl] at H; exact H
      clear H
      have H := H1
      clear H1
      by_cases c41 : x5_2 > 0
      rotate_left
      ·rw [if_neg c41] at H
       have c41b0 : decide (0 < x5_2) = false := decide_eq_false c41
       clear c41
       (first | rw [c41b0] | (simp only [i64_w, i32_w]; rw [c41b0]) | skip)
       have H' := AM_ H
       clear H
       try go_wp2
       have n0_ : Aside0 (((w34.setCell ⟨gb160, 0, none⟩ (.int .i64 ((rd_T50 l0_8 x5_2).f0))).setCell ⟨gb160, 1, none⟩ (.int .i64 ((rd_T50 l0_8 x5_2).f1))).heap[gb152]? = some (.cells #[.int .i64 a0_0, .int .i64 a0_1, .int .i64 a0_2, .int .i64 a0_3, .int .i64 a0_4, .int .i64 a0_5, .int .i64 a0_6, .slice A0_7 l0_7.length c0_7, .slice (some ad159) l0_8.length c0_8] 65 (0, 0))) := ⟨BG BK152.out NB152_160.out⟩
       have n1_ : Aside0 (((w34.setCell ⟨gb160, 0, none⟩ (.int .i64 ((rd_T50 l0_8 x5_2).f0))).setCell ⟨gb160, 1, none⟩ (.int .i64 ((rd_T50 l0_8 x5_2).f1))).heap[gb160]? = some (.cells #[.int .i64 ((rd_T50 l0_8 x5_2).f0), .int .i64 ((rd_T50 l0_8 x5_2).f1)] 50 (0, 0))) := ⟨BQ BK160.out⟩
       have n2_ : Aside0 (Below w.heap.size w ((w34.setCell ⟨gb160, 0, none⟩ (.int .i64 ((rd_T50 l0_8 x5_2).f0))).setCell ⟨gb160, 1, none⟩ (.int .i64 ((rd_T50 l0_8 x5_2).f1)))) := ⟨BT HB.out⟩
       (try clear BK152)
       (try clear BK160)
       (try clear HB)
       generalize ((w34.setCell ⟨gb160, 0, none⟩ (.int .i64 ((rd_T50 l0_8 x5_2).f0))).setCell ⟨gb160, 1, none⟩ (.int .i64 ((rd_T50 l0_8 x5_2).f1))) = w47 at n0_ n1_ n2_ ⊢
       have BK152 := n0_
       have BK160 := n1_
       have HB := n2_
       clear n0_ n1_ n2_
       replace BK152 := AM_ (blk_drew BK152.out)
       replace BK160 := AM_ (blk_drew BK160.out)
       replace HB := AM_ (below_drew1 HB.out)
       refine start_ (n := 26) (S := fun w' => w'.cell? ⟨gb160, 0, none⟩ = some (.int .i64 ((rd_T50 l0_8 x5_2).f0)) ∧ w'.cell? ⟨gb160, 1, none⟩ = some (.int .i64 ((rd_T50 l0_8 x5_2).f1))) (ds := []) (bs 0 26) (by kernel_rfl) rfl rfl ⟨bc BK160.out 0, bc BK160.out 1⟩ (fun hHeld => ?_); refine with_tabW spec_IsValidTransaction.tab11 spec_IsValidTransaction.bits11 (fun HT_ HW_ => ?_)
       generalize w47.drew = w48 at BK152 BK160 HB hHeld ⊢
       refine pu (i := 0) (N := some 56) (v := ?_) (a' := ?_) (bs 1 26) rfl rfl HT_ ?_ ?_ ?_
       rotate_left
       ·intro w'
        go_simp
        with_reducible rfl
       rotate_left
       ·simp only[pA,pS,pZ,pK,pV]
        rfl
       refine tk (i := 1) (N := some 57) (v := ?_) (a' := ?_) (bs 3 26) rfl rfl HT_ HW_ ?_ hHeld ?_ ?_
       rotate_left
       ·rintro w' ⟨s0, s1⟩
        go_simp
        with_reducible rfl
       rotate_left
       ·simp only[pA,pS,pZ,pK,pV]
        rfl
       refine one_ (i := 2) (N := some 58) (bs 7 26) rfl rfl (one_of HT_.out (by kernel_rfl)) (by decide) (fun K hK => ?_)
       refine goes_ Tryz.func59 (by kernel_rfl) rfl #[.int .i64 ((rd_T50 l0_8 x5_2).f0), .int .i64 0, .int .i64 5] (by rfl) rfl rfl (by (try simp only [List.map_toArray, List.map_cons, List.map_nil]); first | done | rfl | (simp only [List.length_drop, List.length_take]; rfl)) ?_
       with_reducible refine (spec_l1In.calls ((rd_T50 l0_8 x5_2).f0) 0 5 true _ A37.out).mono ?_
       rintro e w' ⟨rfl, ⟨nd, rfl⟩⟩
       refine ⟨_, rfl, ?_⟩
       refine hK.out _ _ ⟨bc BK160.out 0, bc BK160.out 1⟩ (fun hHeld => ?_)
       clear hK K
       refine norm_ (a' := ?_) ?_ ?_
       rotate_left
       ·show Act.put _ (some 58) _ = _
        simp only[pA,pS,pZ,pK,pV]
        rfl
       refine pu (i := 3) (N := some 59) (v := ?_) (a' := ?_) (bs 15 26) rfl rfl HT_ ?_ ?_ ?_
       rotate_left
       ·intro w'
        go_simp
        with_reducible rfl
       rotate_left
       ·simp only[pA,pS,pZ,pK,pV]
        rfl
       refine pu (i := 4) (N := some 60) (v := ?_) (a' := ?_) (bs 31 26) rfl rfl HT_ ?_ ?_ ?_
       rotate_left
       ·intro w'
        go_simp
        with_reducible rfl
       rotate_left
       ·simp only[pA,pS,pZ,pK,pV]
        rfl
       refine pu (i := 5) (N := some 61) (v := ?_) (a' := ?_) (bs 63 26) rfl rfl HT_ ?_ ?_ ?_
       rotate_left
       ·intro w'
        go_simp
        with_reducible rfl
       rotate_left
       ·simp only[pA,pS,pZ,pK,pV]
        rfl
       refine tk (i := 6) (N := some 62) (v := ?_) (a' := ?_) (bs 127 26) rfl rfl HT_ HW_ ?_ hHeld ?_ ?_
       rotate_left
       ·rintro w' ⟨s0, s1⟩
        go_simp
        with_reducible rfl
       rotate_left
       ·simp only[pA,pS,pZ,pK,pV]
        rfl
       refine one_ (i := 7) (N := some 63) (bs 255 26) rfl rfl (one_of HT_.out (by kernel_rfl)) (by decide) (fun K hK => ?_)
       refine goes_ Tryz.func59 (by kernel_rfl) rfl #[.int .i64 ((rd_T50 l0_8 x5_2).f1), .int .i64 (-1), .int .i64 99] (by rfl) rfl rfl (by (try simp only [List.map_toArray, List.map_cons, List.map_nil]); first | done | rfl | (simp only [List.length_drop, List.length_take]; rfl)) ?_
       with_reducible refine (spec_l1In.calls ((rd_T50 l0_8 x5_2).f1) (-1) 99 true _ A39.out).mono ?_
       rintro e w' ⟨rfl, ⟨nd, rfl⟩⟩
       refine ⟨_, rfl, ?_⟩
       refine hK.out _ _ ⟨bc BK160.out 0, bc BK160.out 1⟩ (fun hHeld => ?_)
       clear hK K
       refine norm_ (a' := ?_) ?_ ?_
       rotate_left
       ·show Act.put _ (some 63) _ = _
        simp only[pA,pS,pZ,pK,pV]
        rfl
       refine pu (i := 8) (N := some 64) (v := ?_) (a' := ?_) (bs 511 26) rfl rfl HT_ ?_ ?_ ?_
       rotate_left
       ·intro w'
        go_simp
        with_reducible rfl
       rotate_left
       ·simp only[pA,pS,pZ,pK,pV]
        rfl
       refine pu (i := 9) (N := some 65) (v := ?_) (a' := ?_) (bs 1023 26) rfl rfl HT_ ?_ ?_ ?_
       rotate_left
       ·intro w'
        go_simp
        with_reducible rfl
       rotate_left
       ·simp only[pA,pS,pZ,pK,pV]
        rfl
       refine pu (i := 10) (N := some 66) (v := ?_) (a' := ?_) (bs 2047 26) rfl rfl HT_ ?_ ?_ ?_
       rotate_left
       ·intro w'
        go_simp
        with_reducible rfl
       rotate_left
       ·simp only[pA,pS,pZ,pK,pV]
        rfl
       refine pu (i := 11) (N := some 67) (v := ?_) (a' := ?_) (bs 4095 26) rfl rfl HT_ ?_ ?_ ?_
       rotate_left
       ·intro w'
        go_simp
        with_reducible rfl
       rotate_left
       ·simp only[pA,pS,pZ,pK,pV]
        rfl
       refine pu (i := 12) (N := some 68) (v := ?_) (a' := ?_) (bs 8191 26) rfl rfl HT_ ?_ ?_ ?_
       rotate_left
       ·intro w'
        go_simp
        with_reducible rfl
       rotate_left
       ·simp only[pA,pS,pZ,pK,pV]
        rfl
       refine pu (i := 13) (N := some 69) (v := ?_) (a' := ?_) (bs 16383 26) rfl rfl HT_ ?_ ?_ ?_
       rotate_left
       ·intro w'
        go_simp
        with_reducible rfl
       rotate_left
       ·simp only[pA,pS,pZ,pK,pV]
        rfl
       refine pn (i := 14) (N := some 70) (v := undef) (a' := ?_) (bs 32767 26) rfl rfl HT_ ?_ ?_
       rotate_left
       ·simp only[pA,pS,pZ,pK,pV]
        rfl
       refine pn (i := 15) (N := some 71) (v := undef) (a' := ?_) (bs 65535 26) rfl rfl HT_ ?_ ?_
       rotate_left
       ·simp only[pA,pS,pZ,pK,pV]
        rfl
       refine pn (i := 16) (N := some 72) (v := undef) (a' := ?_) (bs 131071 26) rfl rfl HT_ ?_ ?_
       rotate_left
       ·simp only[pA,pS,pZ,pK,pV]
        rfl
       refine pn (i := 17) (N := some 73) (v := undef) (a' := ?_) (bs 262143 26) rfl rfl HT_ ?_ ?_
       rotate_left
       ·simp only[pA,pS,pZ,pK,pV]
        rfl
       refine pn (i := 18) (N := some 74) (v := undef) (a' := ?_) (bs 524287 26) rfl rfl HT_ ?_ ?_
       rotate_left
       ·simp only[pA,pS,pZ,pK,pV]
        rfl
       refine pn (i := 19) (N := some 75) (v := undef) (a' := ?_) (bs 1048575 26) rfl rfl HT_ ?_ ?_
       rotate_left
       ·simp only[pA,pS,pZ,pK,pV]
        rfl
       refine pn (i := 20) (N := some 76) (v := undef) (a' := ?_) (bs 2097151 26) rfl rfl HT_ ?_ ?_
       rotate_left
       ·simp only[pA,pS,pZ,pK,pV]
        rfl
       refine pn (i := 21) (N := some 77) (v := undef) (a' := ?_) (bs 4194303 26) rfl rfl HT_ ?_ ?_
       rotate_left
       ·simp only[pA,pS,pZ,pK,pV]
        rfl
       refine pn (i := 22) (N := some 78) (v := undef) (a' := ?_) (bs 8388607 26) rfl rfl HT_ ?_ ?_
       rotate_left
       ·simp only[pA,pS,pZ,pK,pV]
        rfl
       refine pn (i := 23) (N := some 79) (v := undef) (a' := ?_) (bs 16777215 26) rfl rfl HT_ ?_ ?_
       rotate_left
       ·simp only[pA,pS,pZ,pK,pV]
        rfl
       refine pu (i := 24) (N := some 80) (v := ?_) (a' := ?_) (bs 33554431 26) rfl rfl HT_ ?_ ?_ ?_
       rotate_left
       ·intro w'
        go_simp
        with_reducible rfl
       rotate_left
       ·simp only[pA,pS,pZ,pK,pV]
        rfl
       refine pu (i := 25) (N := some 81) (v := ?_) (a' := ?_) (bs 67108863 26) rfl rfl HT_ ?_ ?_ ?_
       rotate_left
       ·intro w'
        go_simp
        with_reducible rfl
       rotate_left
       ·simp only[pA,pS,pZ,pK,pV]
        rfl
       refine done_ (done_of HT_.out (by kernel_rfl)) ?_
       try go_wp2
       go_meet
       case rel => exact ⟨_, (false), (by first | rfl | (simp; done) | (simp [*]; done)), H', ⟨by have := HK1.out; have := HK2.out; first | omega | exact Nat.le_refl _⟩, ⟨BH BK152.out⟩, ⟨BH BK160.out⟩, ⟨BT HB.out⟩⟩
      rw [if_pos c41] at H
      have c41b0 : decide (0 < x5_2) = true := decide_eq_true c41
      clear c41
      (first | rw [c41b0] | (simp only [i64_w, i32_w]; rw [c41b0]) | skip)
      obtain ⟨ji42, hji42⟩ : ∃ j_ : Int, (wrap64 (x5_2 - 1)) = j_ := ⟨_, rfl⟩
      replace H : (if 0 ≤ (ji42) then (if (ji42) < (l0_8.length : Int) then (spec_IsValidTransaction.j3 k2 x5_2 (decide (((rd_T50 l0_8 (ji42)).f0) ≥ ((rd_T50 l0_8 x5_2).f0))) a0_0 a0_1 a0_2 a0_3 a0_4 a0_5 a0_6 l0_7 l0_8) else (none)) else (none)) = some r := by first | (rw [hji42] at H; exact H) | (simp only [hji42] at H ⊢; exact H)
      (try rw [hji42] at A37)
      (try rw [hji42] at A39)
      have hji42w : (IntKind.i64.wrap (x5_2 - 1)) = ji42 := (i64_w _).trans hji42
      replace H := HI H
      obtain ⟨c43, H⟩ := H
      have c43b0 : decide (0 ≤ (ji42)) = true := decide_eq_true c43
      clear c43
      replace H := HI H
      obtain ⟨c44, H⟩ := H
      have c44b0 : decide ((ji42) < (l0_8.length : Int)) = true := decide_eq_true c44
      clear c44
      have H' := AM_ H
      clear H
      try go_wp2
      have n0_ : Aside0 (((w34.setCell ⟨gb160, 0, none⟩ (.int .i64 ((rd_T50 l0_8 x5_2).f0))).setCell ⟨gb160, 1, none⟩ (.int .i64 ((rd_T50 l0_8 x5_2).f1))).heap[gb152]? = some (.cells #[.int .i64 a0_0, .int .i64 a0_1, .int .i64 a0_2, .int .i64 a0_3, .int .i64 a0_4, .int .i64 a0_5, .int .i64 a0_6, .slice A0_7 l0_7.length c0_7, .slice (some ad159) l0_8.length c0_8] 65 (0, 0))) := ⟨BG BK152.out NB152_160.out⟩
      have n1_ : Aside0 (((w34.setCell ⟨gb160, 0, none⟩ (.int .i64 ((rd_T50 l0_8 x5_2).f0))).setCell ⟨gb160, 1, none⟩ (.int .i64 ((rd_T50 l0_8 x5_2).f1))).heap[gb160]? = some (.cells #[.int .i64 ((rd_T50 l0_8 x5_2).f0), .int .i64 ((rd_T50 l0_8 x5_2).f1)] 50 (0, 0))) := ⟨BQ BK160.out⟩
      have n2_ : Aside0 (Below w.heap.size w ((w34.setCell ⟨gb160, 0, none⟩ (.int .i64 ((rd_T50 l0_8 x5_2).f0))).setCell ⟨gb160, 1, none⟩ (.int .i64 ((rd_T50 l0_8 x5_2).f1)))) := ⟨BT HB.out⟩
      (try clear BK152)
      (try clear BK160)
      (try clear HB)
      generalize ((w34.setCell ⟨gb160, 0, none⟩ (.int .i64 ((rd_T50 l0_8 x5_2).f0))).setCell ⟨gb160, 1, none⟩ (.int .i64 ((rd_T50 l0_8 x5_2).f1))) = w45 at n0_ n1_ n2_ ⊢
      have BK152 := n0_
      have BK160 := n1_
      have HB := n2_
      clear n0_ n1_ n2_
      replace BK152 := AM_ (blk_drew BK152.out)
      replace BK160 := AM_ (blk_drew BK160.out)
      replace HB := AM_ (below_drew1 HB.out)
      have p163 : 0 ≤ ((ji42) : Int) := DT
      have q163 : (ji42) < (l0_8.length : Int) := DT
      obtain ⟨ad163, e163, hx163_0, hx163_1⟩ := at_T50 HR0_8.out (ji42) p163 q163
      have hw163_1 := hx163_1
      have hw163_0 := hx163_0
      obtain rfl : ad159 = ad163 := (by injection e163)
      replace hx163_0 := BC HB.out hx163_0
      replace hx163_1 := BC HB.out hx163_1
      replace p163 := eq_true p163
      replace q163 := eq_true q163
      refine start_ (n := 26) (S := fun w' => w'.cell? ⟨gb160, 0, none⟩ = some (.int .i64 ((rd_T50 l0_8 x5_2).f0)) ∧ w'.cell? ⟨gb160, 1, none⟩ = some (.int .i64 ((rd_T50 l0_8 x5_2).f1)) ∧ w'.cell? ⟨gb152, 0, none⟩ = some (.int .i64 a0_0) ∧ w'.cell? ⟨gb152, 1, none⟩ = some (.int .i64 a0_1) ∧ w'.cell? ⟨gb152, 2, none⟩ = some (.int .i64 a0_2) ∧ w'.cell? ⟨gb152, 3, none⟩ = some (.int .i64 a0_3) ∧ w'.cell? ⟨gb152, 4, none⟩ = some (.int .i64 a0_4) ∧ w'.cell? ⟨gb152, 5, none⟩ = some (.int .i64 a0_5) ∧ w'.cell? ⟨gb152, 6, none⟩ = some (.int .i64 a0_6) ∧ w'.cell? ⟨gb152, 7, none⟩ = some (.slice A0_7 l0_7.length c0_7) ∧ w'.cell? ⟨gb152, 8, none⟩ = some (.slice (some ad159) l0_8.length c0_8) ∧ w'.cell? (ad159.add (((ji42)).toNat * 2)) = some (.int .i64 ((rd_T50 l0_8 (ji42)).f0)) ∧ w'.cell? ⟨(ad159.add (((ji42)).toNat * 2)).block, (ad159.add (((ji42)).toNat * 2)).off + 1, none⟩ = some (.int .i64 ((rd_T50 l0_8 (ji42)).f1))) (ds := []) (bs 0 26) (by kernel_rfl) rfl rfl ⟨bc BK160.out 0, bc BK160.out 1, bc BK152.out 0, bc BK152.out 1, bc BK152.out 2, bc BK152.out 3, bc BK152.out 4, bc BK152.out 5, bc BK152.out 6, bc BK152.out 7, bc BK152.out 8, (BD HB.out hw163_0), (BD HB.out hw163_1)⟩ (fun hHeld => ?_); refine with_tabW spec_IsValidTransaction.tab11 spec_IsValidTransaction.bits11 (fun HT_ HW_ => ?_)
      generalize w45.drew = w46 at BK152 BK160 HB hx163_0 hx163_1 hHeld ⊢
      refine pu (i := 0) (N := some 56) (v := ?_) (a' := ?_) (bs 1 26) rfl rfl HT_ ?_ ?_ ?_
      rotate_left
      ·intro w'
       go_simp
       with_reducible rfl
      rotate_left
      ·simp only[pA,pS,pZ,pK,pV]
       rfl
      refine tk (i := 1) (N := some 57) (v := ?_) (a' := ?_) (bs 3 26) rfl rfl HT_ HW_ ?_ hHeld ?_ ?_
      rotate_left
      ·rintro w' ⟨s0, s1, s2, s3, s4, s5, s6, s7, s8, s9, s10, s11, s12⟩
       go_simp
       with_reducible rfl
      rotate_left
      ·simp only[pA,pS,pZ,pK,pV]
       rfl
      refine one_ (i := 2) (N := some 58) (bs 7 26) rfl rfl (one_of HT_.out (by kernel_rfl)) (by decide) (fun K hK => ?_)
      refine goes_ Tryz.func59 (by kernel_rfl) rfl #[.int .i64 ((rd_T50 l0_8 x5_2).f0), .int .i64 0, .int .i64 5] (by rfl) rfl rfl (by (try simp only [List.map_toArray, List.map_cons, List.map_nil]); first | done | rfl | (simp only [List.length_drop, List.length_take]; rfl)) ?_
      with_reducible refine (spec_l1In.calls ((rd_T50 l0_8 x5_2).f0) 0 5 true _ A37.out).mono ?_
      rintro e w' ⟨rfl, ⟨nd, rfl⟩⟩
      refine ⟨_, rfl, ?_⟩
      refine hK.out _ _ ⟨bc BK160.out 0, bc BK160.out 1, bc BK152.out 0, bc BK152.out 1, bc BK152.out 2, bc BK152.out 3, bc BK152.out 4, bc BK152.out 5, bc BK152.out 6, bc BK152.out 7, bc BK152.out 8, (BD HB.out hw163_0), (BD HB.out hw163_1)⟩ (fun hHeld => ?_)
      clear hK K
      refine norm_ (a' := ?_) ?_ ?_
      rotate_left
      ·show Act.put _ (some 58) _ = _
       simp only[pA,pS,pZ,pK,pV]
       rfl
      refine pu (i := 3) (N := some 59) (v := ?_) (a' := ?_) (bs 15 26) rfl rfl HT_ ?_ ?_ ?_
      rotate_left
      ·intro w'
       go_simp
       with_reducible rfl
      rotate_left
      ·simp only[pA,pS,pZ,pK,pV]
       rfl
      refine pu (i := 4) (N := some 60) (v := ?_) (a' := ?_) (bs 31 26) rfl rfl HT_ ?_ ?_ ?_
      rotate_left
      ·intro w'
       go_simp
       with_reducible rfl
      rotate_left
      ·simp only[pA,pS,pZ,pK,pV]
       rfl
      refine pu (i := 5) (N := some 61) (v := ?_) (a' := ?_) (bs 63 26) rfl rfl HT_ ?_ ?_ ?_
      rotate_left
      ·intro w'
       go_simp
       with_reducible rfl
      rotate_left
      ·simp only[pA,pS,pZ,pK,pV]
       rfl
      refine tk (i := 6) (N := some 62) (v := ?_) (a' := ?_) (bs 127 26) rfl rfl HT_ HW_ ?_ hHeld ?_ ?_
      rotate_left
      ·rintro w' ⟨s0, s1, s2, s3, s4, s5, s6, s7, s8, s9, s10, s11, s12⟩
       go_simp
       with_reducible rfl
      rotate_left
      ·simp only[pA,pS,pZ,pK,pV]
       rfl
      refine one_ (i := 7) (N := some 63) (bs 255 26) rfl rfl (one_of HT_.out (by kernel_rfl)) (by decide) (fun K hK => ?_)
      refine goes_ Tryz.func59 (by kernel_rfl) rfl #[.int .i64 ((rd_T50 l0_8 x5_2).f1), .int .i64 (-1), .int .i64 99] (by rfl) rfl rfl (by (try simp only [List.map_toArray, List.map_cons, List.map_nil]); first | done | rfl | (simp only [List.length_drop, List.length_take]; rfl)) ?_
      with_reducible refine (spec_l1In.calls ((rd_T50 l0_8 x5_2).f1) (-1) 99 true _ A39.out).mono ?_
      rintro e w' ⟨rfl, ⟨nd, rfl⟩⟩
      refine ⟨_, rfl, ?_⟩
      refine hK.out _ _ ⟨bc BK160.out 0, bc BK160.out 1, bc BK152.out 0, bc BK152.out 1, bc BK152.out 2, bc BK152.out 3, bc BK152.out 4, bc BK152.out 5, bc BK152.out 6, bc BK152.out 7, bc BK152.out 8, (BD HB.out hw163_0), (BD HB.out hw163_1)⟩ (fun hHeld => ?_)
      clear hK K
      refine norm_ (a' := ?_) ?_ ?_
      rotate_left
      ·show Act.put _ (some 63) _ = _
       simp only[pA,pS,pZ,pK,pV]
       rfl
      refine pu (i := 8) (N := some 64) (v := ?_) (a' := ?_) (bs 511 26) rfl rfl HT_ ?_ ?_ ?_
      rotate_left
      ·intro w'
       go_simp
       with_reducible rfl
      rotate_left
      ·simp only[pA,pS,pZ,pK,pV]
       rfl
      refine pu (i := 9) (N := some 65) (v := ?_) (a' := ?_) (bs 1023 26) rfl rfl HT_ ?_ ?_ ?_
      rotate_left
      ·intro w'
       go_simp
       with_reducible rfl
      rotate_left
      ·simp only[pA,pS,pZ,pK,pV]
       rfl
      refine pu (i := 10) (N := some 66) (v := ?_) (a' := ?_) (bs 2047 26) rfl rfl HT_ ?_ ?_ ?_
      rotate_left
      ·intro w'
       go_simp
       with_reducible rfl
      rotate_left
      ·simp only[pA,pS,pZ,pK,pV]
       rfl
      refine pu (i := 11) (N := some 67) (v := ?_) (a' := ?_) (bs 4095 26) rfl rfl HT_ ?_ ?_ ?_
      rotate_left
      ·intro w'
       go_simp
       with_reducible rfl
      rotate_left
      ·simp only[pA,pS,pZ,pK,pV]
       rfl
      refine pu (i := 12) (N := some 68) (v := ?_) (a' := ?_) (bs 8191 26) rfl rfl HT_ ?_ ?_ ?_
      rotate_left
      ·intro w'
       go_simp
       with_reducible rfl
      rotate_left
      ·simp only[pA,pS,pZ,pK,pV]
       rfl
      refine pu (i := 13) (N := some 69) (v := ?_) (a' := ?_) (bs 16383 26) rfl rfl HT_ ?_ ?_ ?_
      rotate_left
      ·intro w'
       go_simp
       with_reducible rfl
      rotate_left
      ·simp only[pA,pS,pZ,pK,pV]
       rfl
      refine pu (i := 14) (N := some 70) (v := ?_) (a' := ?_) (bs 32767 26) rfl rfl HT_ ?_ ?_ ?_
      rotate_left
      ·intro w'
       go_simp
       with_reducible rfl
      rotate_left
      ·simp only[pA,pS,pZ,pK,pV]
       rfl
      refine pu (i := 16) (N := some 72) (v := ?_) (a' := ?_) (bs 98303 26) rfl rfl HT_ ?_ ?_ ?_
      rotate_left
      ·intro w'
       go_simp
       with_reducible rfl
      rotate_left
      ·simp only[pA,pS,pZ,pK,pV]
       rfl
      refine pu (i := 17) (N := some 73) (v := ?_) (a' := ?_) (bs 229375 26) rfl rfl HT_ ?_ ?_ ?_
      rotate_left
      ·intro w'
       go_simp
       with_reducible rfl
      rotate_left
      ·simp only[pA,pS,pZ,pK,pV]
       rfl
      refine pu (i := 21) (N := some 77) (v := ?_) (a' := ?_) (bs 2326527 26) rfl rfl HT_ ?_ ?_ ?_
      rotate_left
      ·intro w'
       go_simp
       with_reducible rfl
      rotate_left
      ·simp only[pA,pS,pZ,pK,pV]
       rfl
      refine tk (i := 15) (N := some 71) (v := ?_) (a' := ?_) (bs 2359295 26) rfl rfl HT_ HW_ ?_ hHeld ?_ ?_
      rotate_left
      ·rintro w' ⟨s0, s1, s2, s3, s4, s5, s6, s7, s8, s9, s10, s11, s12⟩
       go_simp
       with_reducible rfl
      rotate_left
      ·simp only[pA,pS,pZ,pK,pV]
       rfl
      refine pu (i := 18) (N := some 74) (v := ?_) (a' := ?_) (bs 2621439 26) rfl rfl HT_ ?_ ?_ ?_
      rotate_left
      ·intro w'
       go_simp
       with_reducible rfl
      rotate_left
      ·simp only[pA,pS,pZ,pK,pV]
       rfl
      refine pu (i := 19) (N := some 75) (v := ?_) (a' := ?_) (bs 3145727 26) rfl rfl HT_ ?_ ?_ ?_
      rotate_left
      ·intro w'
       go_simp
       with_reducible rfl
      rotate_left
      ·simp only[pA,pS,pZ,pK,pV]
       rfl
      refine tk (i := 20) (N := some 76) (v := ?_) (a' := ?_) (bs 4194303 26) rfl rfl HT_ HW_ ?_ hHeld ?_ ?_
      rotate_left
      ·rintro w' ⟨s0, s1, s2, s3, s4, s5, s6, s7, s8, s9, s10, s11, s12⟩
       go_simp
       with_reducible rfl
      rotate_left
      ·simp only[pA,pS,pZ,pK,pV]
       rfl
      refine tk (i := 22) (N := some 78) (v := ?_) (a' := ?_) (bs 8388607 26) rfl rfl HT_ HW_ ?_ hHeld ?_ ?_
      rotate_left
      ·rintro w' ⟨s0, s1, s2, s3, s4, s5, s6, s7, s8, s9, s10, s11, s12⟩
       go_simp
       with_reducible rfl
      rotate_left
      ·simp only[pA,pS,pZ,pK,pV]
       rfl
      refine pu (i := 23) (N := some 79) (v := ?_) (a' := ?_) (bs 16777215 26) rfl rfl HT_ ?_ ?_ ?_
      rotate_left
      ·intro w'
       go_simp
       with_reducible rfl
      rotate_left
      ·simp only[pA,pS,pZ,pK,pV]
       rfl
      refine pu (i := 24) (N := some 80) (v := ?_) (a' := ?_) (bs 33554431 26) rfl rfl HT_ ?_ ?_ ?_
      rotate_left
      ·intro w'
       go_simp
       with_reducible rfl
      rotate_left
      ·simp only[pA,pS,pZ,pK,pV]
       rfl
      refine pu (i := 25) (N := some 81) (v := ?_) (a' := ?_) (bs 67108863 26) rfl rfl HT_ ?_ ?_ ?_
      rotate_left
      ·intro w'
       go_simp
       with_reducible rfl
      rotate_left
      ·simp only[pA,pS,pZ,pK,pV]
       rfl
      refine done_ (done_of HT_.out (by kernel_rfl)) ?_
      try go_wp2
      go_meet
      case rel => exact ⟨_, (decide (((rd_T50 l0_8 (ji42)).f0) ≥ ((rd_T50 l0_8 x5_2).f0))), (by first | rfl | (simp; done) | (simp only [← hji42] <;> (first | rfl | simp)) | (simp [*]; done)), H', ⟨by have := HK1.out; have := HK2.out; first | omega | exact Nat.le_refl _⟩, ⟨BH BK152.out⟩, ⟨BH BK160.out⟩, ⟨BT HB.out⟩⟩
     case rest =>
      clear HC32
      try clear p2
      try clear c3
      try clear c4
      try clear c5
      try clear c38
      try clear c40
      try clear c41
      try clear c41b0
      try clear c43
      try clear c44
      obtain ⟨kq, x81_31, rfl, HA, HJ31, BK152, BK160, HB⟩ := hcut
      cases kq with
      | zero => exact absurd HA.out (by simp [spec_IsValidTransaction.j3])
      | succ kj31 =>
       have H := HA.out
       clear HA
       simp only [spec_IsValidTransaction.j3] at H
       by_cases c53 : x81_31 = true
       ·subst c53
        have H1 : (some false) = some r := by rw [if_pos rfl] at H; exact H
        clear H
        have H := H1
        clear H1
        obtain rfl := Option.some.inj H
        go_wp2
        go_ret
        exact QT (BT HB.out)
       replace c53 := Bool.eq_false_iff.mpr c53
       subst c53
       have H1 : (spec_IsValidTransaction.l1 kj31 (wrap64 (x5_2 + 1)) a0_0 a0_1 a0_2 a0_3 a0_4 a0_5 a0_6 l0_7 l0_8) = some r := by rw [if_neg (show ¬ (false = true) by decide)] at H; exact H
       clear H
       have H := H1
       clear H1
       have H' := AM_ H
       clear H
       go_wp2
       go_roundg kj31
       case measure => have := HK1.out; have := HK2.out; have := HJ31.out; omega
       case rel => exact ⟨(wrap64 (x5_2 + 1)), (by first | rfl | (simp; done) | (simp [*]; done)), H', ⟨by have := HK1.out; have := HK2.out; have := HJ31.out; omega⟩, ⟨BH BK152.out⟩, ⟨BT HB.out⟩⟩

end Go.Proofs.YtdfbmaiboadodaaGreatDoor.PFnExactParseHistory
