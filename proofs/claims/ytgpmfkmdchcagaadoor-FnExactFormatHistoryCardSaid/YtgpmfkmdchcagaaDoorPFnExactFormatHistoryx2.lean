-- Printed by a program of mine (wip/myprint.py), which runs the printer of the kit with contracts of mine beside it.
import Derived.Test.YtgpmfkmdchcagaaDoorPFnExactFormatHistoryx0
import Derived.Test.YtgpmfkmdchcagaaDoorPFnExactFormatHistoryx1
namespace Go.Proofs.YtgpmfkmdchcagaaDoor.PFnExactFormatHistory
open Go.RowKit Go.Proofs.YtgpmfkmdchcagaaDoorW.PrintWords Go.Proofs.YtgpmfkmdchcagaaDoorW.PrintLast Go.Proofs.YtgpmfkmdchcagaaDoorW.PrintMore
attribute [local go_sem] max2_int min2_int max_two min_two max_three min_three max_four min_four   -- for this text's walks alone
set_option linter.unusedVariables false
set_option linter.unusedSimpArgs false

/-! ### spec_IsValidTransaction: function 42 -/
mutual
def spec_IsValidTransaction.l0 : Nat → Int → Int → Int → Int → Int → Int → Int → Int → List (S55) → List (S57) → Option (Bool)
 | 0, _, _, _, _, _, _, _, _, _, _ => none
 | k + 1, x3, x109000, x109001, x109002, x109003, x109004, x109005, x109006, x109007, x109008 => if x3 < (x109007.length : Int) then (if 0 ≤ x3 then ((spec_l1In.f ((rd_T55 x109007 x3).f0) 0 5).bind fun t111 => (if t111 = true then ((spec_l1In.f ((rd_T55 x109007 x3).f1) 0 999).bind fun t112 => (if t112 = true then (if x3 > 0 then (if 0 ≤ (wrap64 (x3 - 1)) then (if (wrap64 (x3 - 1)) < (x109007.length : Int) then ((spec_l5Before.f ((rd_T55 x109007 (wrap64 (x3 - 1))).f0) ((rd_T55 x109007 (wrap64 (x3 - 1))).f1) ((rd_T55 x109007 x3).f0) ((rd_T55 x109007 x3).f1)).bind fun t114 => (spec_IsValidTransaction.j1 k x3 (!t114) x109000 x109001 x109002 x109003 x109004 x109005 x109006 x109007 x109008)) else (none)) else (none)) else (spec_IsValidTransaction.j1 k x3 false x109000 x109001 x109002 x109003 x109004 x109005 x109006 x109007 x109008)) else (spec_IsValidTransaction.j1 k x3 true x109000 x109001 x109002 x109003 x109004 x109005 x109006 x109007 x109008))) else (spec_IsValidTransaction.j1 k x3 true x109000 x109001 x109002 x109003 x109004 x109005 x109006 x109007 x109008))) else (none)) else (spec_IsValidTransaction.l1 k 0 x109000 x109001 x109002 x109003 x109004 x109005 x109006 x109007 x109008)
def spec_IsValidTransaction.j1 : Nat → Int → Bool → Int → Int → Int → Int → Int → Int → Int → List (S55) → List (S57) → Option (Bool)
 | 0, _, _, _, _, _, _, _, _, _, _, _ => none
 | k + 1, x3, x43, x109000, x109001, x109002, x109003, x109004, x109005, x109006, x109007, x109008 => if x43 = true then (some false) else (spec_IsValidTransaction.l0 k (wrap64 (x3 + 1)) x109000 x109001 x109002 x109003 x109004 x109005 x109006 x109007 x109008)
def spec_IsValidTransaction.l1 : Nat → Int → Int → Int → Int → Int → Int → Int → Int → List (S55) → List (S57) → Option (Bool)
 | 0, _, _, _, _, _, _, _, _, _, _ => none
 | k + 1, x5, x109000, x109001, x109002, x109003, x109004, x109005, x109006, x109007, x109008 => if x5 < (x109008.length : Int) then (if 0 ≤ x5 then ((spec_l1In.f ((rd_T57 x109008 x5).f0) 0 5).bind fun t117 => (if t117 = true then ((spec_l1In.f ((rd_T57 x109008 x5).f1) (-1) 99).bind fun t118 => (if t118 = true then (if x5 > 0 then (if 0 ≤ (wrap64 (x5 - 1)) then (if (wrap64 (x5 - 1)) < (x109008.length : Int) then (spec_IsValidTransaction.j3 k x5 (decide (((rd_T57 x109008 (wrap64 (x5 - 1))).f0) ≥ ((rd_T57 x109008 x5).f0))) x109000 x109001 x109002 x109003 x109004 x109005 x109006 x109007 x109008) else (none)) else (none)) else (spec_IsValidTransaction.j3 k x5 false x109000 x109001 x109002 x109003 x109004 x109005 x109006 x109007 x109008)) else (spec_IsValidTransaction.j3 k x5 true x109000 x109001 x109002 x109003 x109004 x109005 x109006 x109007 x109008))) else (spec_IsValidTransaction.j3 k x5 true x109000 x109001 x109002 x109003 x109004 x109005 x109006 x109007 x109008))) else (none)) else ((spec_l1In.f x109000 1 9).bind fun t120 => (if t120 = true then ((spec_l1In.f x109001 1 4).bind fun t121 => (if t121 = true then ((spec_l1In.f x109003 0 999).bind fun t122 => (spec_IsValidTransaction.j4 k (!t122) x109000 x109001 x109002 x109003 x109004 x109005 x109006 x109007 x109008)) else (spec_IsValidTransaction.j4 k true x109000 x109001 x109002 x109003 x109004 x109005 x109006 x109007 x109008))) else (spec_IsValidTransaction.j4 k true x109000 x109001 x109002 x109003 x109004 x109005 x109006 x109007 x109008)))
def spec_IsValidTransaction.j3 : Nat → Int → Bool → Int → Int → Int → Int → Int → Int → Int → List (S55) → List (S57) → Option (Bool)
 | 0, _, _, _, _, _, _, _, _, _, _, _ => none
 | k + 1, x5, x81, x109000, x109001, x109002, x109003, x109004, x109005, x109006, x109007, x109008 => if x81 = true then (some false) else (spec_IsValidTransaction.l1 k (wrap64 (x5 + 1)) x109000 x109001 x109002 x109003 x109004 x109005 x109006 x109007 x109008)
def spec_IsValidTransaction.j4 : Nat → Bool → Int → Int → Int → Int → Int → Int → Int → List (S55) → List (S57) → Option (Bool)
 | 0, _, _, _, _, _, _, _, _, _, _ => none
 | k + 1, x97, x109000, x109001, x109002, x109003, x109004, x109005, x109006, x109007, x109008 => if x97 = true then (some false) else ((spec_l1In.f x109002 1 3).bind fun t123 => (if t123 = true then ((spec_l1In.f x109004 0 999).bind fun t124 => (if t124 = true then ((spec_l1In.f x109005 1 1000).bind fun t125 => (if t125 = true then (if ((x109002 == 2) == (decide (x109006 > 0))) = true then ((spec_l1In.f x109006 0 999).bind fun t126 => (if t126 = true then (some (decide ((x109007.length : Int) ≤ 60))) else (some false))) else (some false)) else (some false))) else (some false))) else (some false)))
end
def spec_IsValidTransaction.f (k : Nat) (a0_0 : Int) (a0_1 : Int) (a0_2 : Int) (a0_3 : Int) (a0_4 : Int) (a0_5 : Int) (a0_6 : Int) (l0_7 : List (S55)) (l0_8 : List (S57)) : Option (Bool) := spec_IsValidTransaction.l0 k 0 a0_0 a0_1 a0_2 a0_3 a0_4 a0_5 a0_6 l0_7 l0_8
theorem spec_IsValidTransaction.mono_l : ∀ k, (∀ y0 y1 y2 y3 y4 y5 y6 y7 y8 y9, LeO (spec_IsValidTransaction.l0 k y0 y1 y2 y3 y4 y5 y6 y7 y8 y9) (spec_IsValidTransaction.l0 (k + 1) y0 y1 y2 y3 y4 y5 y6 y7 y8 y9)) ∧ (∀ y0 y1 y2 y3 y4 y5 y6 y7 y8 y9 y10, LeO (spec_IsValidTransaction.j1 k y0 y1 y2 y3 y4 y5 y6 y7 y8 y9 y10) (spec_IsValidTransaction.j1 (k + 1) y0 y1 y2 y3 y4 y5 y6 y7 y8 y9 y10)) ∧ (∀ y0 y1 y2 y3 y4 y5 y6 y7 y8 y9, LeO (spec_IsValidTransaction.l1 k y0 y1 y2 y3 y4 y5 y6 y7 y8 y9) (spec_IsValidTransaction.l1 (k + 1) y0 y1 y2 y3 y4 y5 y6 y7 y8 y9)) ∧ (∀ y0 y1 y2 y3 y4 y5 y6 y7 y8 y9 y10, LeO (spec_IsValidTransaction.j3 k y0 y1 y2 y3 y4 y5 y6 y7 y8 y9 y10) (spec_IsValidTransaction.j3 (k + 1) y0 y1 y2 y3 y4 y5 y6 y7 y8 y9 y10)) ∧ (∀ y0 y1 y2 y3 y4 y5 y6 y7 y8 y9, LeO (spec_IsValidTransaction.j4 k y0 y1 y2 y3 y4 y5 y6 y7 y8 y9) (spec_IsValidTransaction.j4 (k + 1) y0 y1 y2 y3 y4 y5 y6 y7 y8 y9))
 | 0 => ⟨fun _ _ _ _ _ _ _ _ _ _ r h => by simp [spec_IsValidTransaction.l0] at h, fun _ _ _ _ _ _ _ _ _ _ _ r h => by simp [spec_IsValidTransaction.j1] at h, fun _ _ _ _ _ _ _ _ _ _ r h => by simp [spec_IsValidTransaction.l1] at h, fun _ _ _ _ _ _ _ _ _ _ _ r h => by simp [spec_IsValidTransaction.j3] at h, fun _ _ _ _ _ _ _ _ _ _ r h => by simp [spec_IsValidTransaction.j4] at h⟩
 | k + 1 => by
  obtain ⟨ih0, ih1, ih2, ih3, ih4⟩ := spec_IsValidTransaction.mono_l k
  refine ⟨?_, ?_, ?_, ?_, ?_⟩
  ·intro y0 y1 y2 y3 y4 y5 y6 y7 y8 y9
   unfold spec_IsValidTransaction.l0
   repeat' first
   | (with_reducible exact ih0 _ _ _ _ _ _ _ _ _ _)
   | (with_reducible exact ih1 _ _ _ _ _ _ _ _ _ _ _)
   | (with_reducible exact ih2 _ _ _ _ _ _ _ _ _ _)
   | (with_reducible exact ih3 _ _ _ _ _ _ _ _ _ _ _)
   | (with_reducible exact ih4 _ _ _ _ _ _ _ _ _ _)
   | (with_reducible exact LeO.refl _)
   | (with_reducible exact LeO.none _)
   | (with_reducible refine LeO.ite ?_ ?_)
   | (with_reducible refine LeO.bind ?_ (fun _ => ?_))
   | exact ih0 _ _ _ _ _ _ _ _ _ _
   | exact ih1 _ _ _ _ _ _ _ _ _ _ _
   | exact ih2 _ _ _ _ _ _ _ _ _ _
   | exact ih3 _ _ _ _ _ _ _ _ _ _ _
   | exact ih4 _ _ _ _ _ _ _ _ _ _
   | exact LeO.none _
   | refine LeO.ite ?_ ?_
   | refine LeO.bind ?_ (fun _ => ?_)
  ·intro y0 y1 y2 y3 y4 y5 y6 y7 y8 y9 y10
   unfold spec_IsValidTransaction.j1
   repeat' first
   | (with_reducible exact ih0 _ _ _ _ _ _ _ _ _ _)
   | (with_reducible exact ih1 _ _ _ _ _ _ _ _ _ _ _)
   | (with_reducible exact ih2 _ _ _ _ _ _ _ _ _ _)
   | (with_reducible exact ih3 _ _ _ _ _ _ _ _ _ _ _)
   | (with_reducible exact ih4 _ _ _ _ _ _ _ _ _ _)
   | (with_reducible exact LeO.refl _)
   | (with_reducible exact LeO.none _)
   | (with_reducible refine LeO.ite ?_ ?_)
   | (with_reducible refine LeO.bind ?_ (fun _ => ?_))
   | exact ih0 _ _ _ _ _ _ _ _ _ _
   | exact ih1 _ _ _ _ _ _ _ _ _ _ _
   | exact ih2 _ _ _ _ _ _ _ _ _ _
   | exact ih3 _ _ _ _ _ _ _ _ _ _ _
   | exact ih4 _ _ _ _ _ _ _ _ _ _
   | exact LeO.none _
   | refine LeO.ite ?_ ?_
   | refine LeO.bind ?_ (fun _ => ?_)
  ·intro y0 y1 y2 y3 y4 y5 y6 y7 y8 y9
   unfold spec_IsValidTransaction.l1
   repeat' first
   | (with_reducible exact ih0 _ _ _ _ _ _ _ _ _ _)
   | (with_reducible exact ih1 _ _ _ _ _ _ _ _ _ _ _)
   | (with_reducible exact ih2 _ _ _ _ _ _ _ _ _ _)
   | (with_reducible exact ih3 _ _ _ _ _ _ _ _ _ _ _)
   | (with_reducible exact ih4 _ _ _ _ _ _ _ _ _ _)
   | (with_reducible exact LeO.refl _)
   | (with_reducible exact LeO.none _)
   | (with_reducible refine LeO.ite ?_ ?_)
   | (with_reducible refine LeO.bind ?_ (fun _ => ?_))
   | exact ih0 _ _ _ _ _ _ _ _ _ _
   | exact ih1 _ _ _ _ _ _ _ _ _ _ _
   | exact ih2 _ _ _ _ _ _ _ _ _ _
   | exact ih3 _ _ _ _ _ _ _ _ _ _ _
   | exact ih4 _ _ _ _ _ _ _ _ _ _
   | exact LeO.none _
   | refine LeO.ite ?_ ?_
   | refine LeO.bind ?_ (fun _ => ?_)
  ·intro y0 y1 y2 y3 y4 y5 y6 y7 y8 y9 y10
   unfold spec_IsValidTransaction.j3
   repeat' first
   | (with_reducible exact ih0 _ _ _ _ _ _ _ _ _ _)
   | (with_reducible exact ih1 _ _ _ _ _ _ _ _ _ _ _)
   | (with_reducible exact ih2 _ _ _ _ _ _ _ _ _ _)
   | (with_reducible exact ih3 _ _ _ _ _ _ _ _ _ _ _)
   | (with_reducible exact ih4 _ _ _ _ _ _ _ _ _ _)
   | (with_reducible exact LeO.refl _)
   | (with_reducible exact LeO.none _)
   | (with_reducible refine LeO.ite ?_ ?_)
   | (with_reducible refine LeO.bind ?_ (fun _ => ?_))
   | exact ih0 _ _ _ _ _ _ _ _ _ _
   | exact ih1 _ _ _ _ _ _ _ _ _ _ _
   | exact ih2 _ _ _ _ _ _ _ _ _ _
   | exact ih3 _ _ _ _ _ _ _ _ _ _ _
   | exact ih4 _ _ _ _ _ _ _ _ _ _
   | exact LeO.none _
   | refine LeO.ite ?_ ?_
   | refine LeO.bind ?_ (fun _ => ?_)
  ·intro y0 y1 y2 y3 y4 y5 y6 y7 y8 y9
   unfold spec_IsValidTransaction.j4
   repeat' first
   | (with_reducible exact ih0 _ _ _ _ _ _ _ _ _ _)
   | (with_reducible exact ih1 _ _ _ _ _ _ _ _ _ _ _)
   | (with_reducible exact ih2 _ _ _ _ _ _ _ _ _ _)
   | (with_reducible exact ih3 _ _ _ _ _ _ _ _ _ _ _)
   | (with_reducible exact ih4 _ _ _ _ _ _ _ _ _ _)
   | (with_reducible exact LeO.refl _)
   | (with_reducible exact LeO.none _)
   | (with_reducible refine LeO.ite ?_ ?_)
   | (with_reducible refine LeO.bind ?_ (fun _ => ?_))
   | exact ih0 _ _ _ _ _ _ _ _ _ _
   | exact ih1 _ _ _ _ _ _ _ _ _ _ _
   | exact ih2 _ _ _ _ _ _ _ _ _ _
   | exact ih3 _ _ _ _ _ _ _ _ _ _ _
   | exact ih4 _ _ _ _ _ _ _ _ _ _
   | exact LeO.none _
   | refine LeO.ite ?_ ?_
   | refine LeO.bind ?_ (fun _ => ?_)
theorem spec_IsValidTransaction.mono : ∀ a0 a1 a2 a3 a4 a5 a6 a7 a8 k, LeO (spec_IsValidTransaction.f k a0 a1 a2 a3 a4 a5 a6 a7 a8) (spec_IsValidTransaction.f (k + 1) a0 a1 a2 a3 a4 a5 a6 a7 a8) := by
 intro a0 a1 a2 a3 a4 a5 a6 a7 a8 k
 obtain ⟨ih0, ih1, ih2, ih3, ih4⟩ := spec_IsValidTransaction.mono_l k
 unfold spec_IsValidTransaction.f
 repeat' first
   | (with_reducible exact ih0 _ _ _ _ _ _ _ _ _ _)
   | (with_reducible exact ih1 _ _ _ _ _ _ _ _ _ _ _)
   | (with_reducible exact ih2 _ _ _ _ _ _ _ _ _ _)
   | (with_reducible exact ih3 _ _ _ _ _ _ _ _ _ _ _)
   | (with_reducible exact ih4 _ _ _ _ _ _ _ _ _ _)
   | (with_reducible exact LeO.refl _)
   | (with_reducible exact LeO.none _)
   | (with_reducible refine LeO.ite ?_ ?_)
   | (with_reducible refine LeO.bind ?_ (fun _ => ?_))
   | exact ih0 _ _ _ _ _ _ _ _ _ _
   | exact ih1 _ _ _ _ _ _ _ _ _ _ _
   | exact ih2 _ _ _ _ _ _ _ _ _ _
   | exact ih3 _ _ _ _ _ _ _ _ _ _ _
   | exact ih4 _ _ _ _ _ _ _ _ _ _
   | exact LeO.none _
   | refine LeO.ite ?_ ?_
   | refine LeO.bind ?_ (fun _ => ?_)
def spec_IsValidTransaction.T5 : Bool × List (List Nat × List Nat) := (true, [([], []), ([0], [0]), ([1], [1]), ([2], [2]), ([3, 2], [3]), ([4], [4]), ([5, 4], [4, 5]), ([6, 4, 4], [4, 6]), ([7, 4], [4, 7]), ([4, 8], [4, 8]), ([9, 7], [9]), ([10], [10]), ([11, 10], [10, 11]), ([12, 10, 10], [10, 12]), ([13], [13]), ([14, 13], [13, 14]), ([13], [13]), ([16, 13], [13, 16]), ([15, 17, 13], [13, 15, 17]), ([18, 13], [13, 18]), ([13], [13]), ([19, 20, 13, 13], [13, 19, 20]), ([21, 13], [13, 21]), ([13, 22, 10], [10, 13, 22]), ([10, 23], [10, 23])])
def spec_IsValidTransaction.B5 : List Nat := [0, 1, 3, 7, 15, 31, 63, 127, 255, 511, 1023, 2047, 4095, 8191, 16383, 32767, 16383, 81919, 262143, 524287, 16383, 2097151, 4194303, 8388607, 16777215]
theorem spec_IsValidTransaction.tab5 : rtab .any (opsOf Tryd.f42 5) = spec_IsValidTransaction.T5 := by kernel_rfl
theorem spec_IsValidTransaction.bits5 : waitsOk spec_IsValidTransaction.T5.2 spec_IsValidTransaction.B5 = true := by kernel_rfl
def spec_IsValidTransaction.T11 : Bool × List (List Nat × List Nat) := (true, [([], []), ([0], [0]), ([1], [1]), ([2], [2]), ([3, 2], [3]), ([4], [4]), ([5, 4], [4, 5]), ([6, 4, 4], [4, 6]), ([7, 4], [4, 7]), ([4, 8], [4, 8]), ([9, 7], [9]), ([10], [10]), ([11, 10], [10, 11]), ([12, 10, 10], [10, 12]), ([13], [13]), ([14, 13], [13, 14]), ([13], [13]), ([16, 13], [13, 16]), ([15, 17, 13], [13, 15, 17]), ([18, 13], [13, 18]), ([19, 13], [13, 19]), ([13], [13]), ([21, 13], [13, 21]), ([20, 22, 13], [13, 20, 22]), ([13, 23, 10], [10, 13, 23]), ([10, 24], [10, 24])])
def spec_IsValidTransaction.B11 : List Nat := [0, 1, 3, 7, 15, 31, 63, 127, 255, 511, 1023, 2047, 4095, 8191, 16383, 32767, 16383, 81919, 262143, 524287, 1048575, 16383, 2113535, 8388607, 16777215, 33554431]
theorem spec_IsValidTransaction.tab11 : rtab .any (opsOf Tryd.f42 11) = spec_IsValidTransaction.T11 := by kernel_rfl
theorem spec_IsValidTransaction.bits11 : waitsOk spec_IsValidTransaction.T11.2 spec_IsValidTransaction.B11 = true := by kernel_rfl
set_option maxHeartbeats 8000000 in
set_option maxRecDepth 100000 in
theorem spec_IsValidTransaction.calls (k : Nat) (a0_0 : Int) (a0_1 : Int) (a0_2 : Int) (a0_3 : Int) (a0_4 : Int) (a0_5 : Int) (a0_6 : Int) (A0_7 : Option Addr) (c0_7 : Nat) (l0_7 : List (S55)) (A0_8 : Option Addr) (c0_8 : Nat) (l0_8 : List (S57)) (r : Bool) (w : World) (hr0_7 : Kd.C k55 w A0_7 l0_7.length l0_7) (hc0_7 : l0_7.length ≤ c0_7) (hr0_8 : Kd.C k57 w A0_8 l0_8.length l0_8) (hc0_8 : l0_8.length ≤ c0_8) (h : spec_IsValidTransaction.f k a0_0 a0_1 a0_2 a0_3 a0_4 a0_5 a0_6 l0_7 l0_8 = some r) :
  Calls Tryd.prog 42 #[.agg #[.int .i64 a0_0, .int .i64 a0_1, .int .i64 a0_2, .int .i64 a0_3, .int .i64 a0_4, .int .i64 a0_5, .int .i64 a0_6, .slice A0_7 l0_7.length c0_7, .slice A0_8 l0_8.length c0_8]] w fun e w' => e = .returned (.bool r) ∧ Below w.heap.size w w' := by
 have hu73 := Tryd.underlying73
 have hu55 := Tryd.underlying55
 have hu57 := Tryd.underlying57
 have HR0_7 := AM_ hr0_7
 have HC0_7 := AM_ hc0_7
 clear hr0_7 hc0_7
 have HR0_8 := AM_ hr0_8
 have HC0_8 := AM_ hc0_8
 clear hr0_8 hc0_8
 have HB := AM_ (Below.refl w.heap.size w)
 have H : (spec_IsValidTransaction.l0 k 0 a0_0 a0_1 a0_2 a0_3 a0_4 a0_5 a0_6 l0_7 l0_8) = some r := h
 clear h
 have H' := AM_ H
 clear H
 go_enter Tryd.func42, Tryd.ntmps42
 go_wp2_with (first | ((with_reducible refine gate_dst (N := 1) rfl ?_); (try (refine gate_guard (by rfl) ?_; dsimp only)); refine box_event ?hg (N := 1) ?hd (cs := #[.int .i64 a0_0, .int .i64 a0_1, .int .i64 a0_2, .int .i64 a0_3, .int .i64 a0_4, .int .i64 a0_5, .int .i64 a0_6, .slice A0_7 l0_7.length c0_7, .slice A0_8 l0_8.length c0_8]) (t := 73) ?hr ?_; (case hd => rfl); (case hg => rfl); (case hr => first | (go_simp; done) | (go_simp; rfl)); intro gb108 hg w2 hbox hb; have BK108 := AM_ (hbox); have GW108 := AM_ ((GS HB.out hg)); have GE108 := AM_ ((GS HB.out hg)); replace HB := AM_ (below_step (BT HB.out) hb); clear hb hbox hg))
 go_loopg [3] k (fun kq v3 w' => ∃ (x3_1 : Int), v3 = .int .i64 x3_1 ∧ Aside0 (spec_IsValidTransaction.l0 kq x3_1 a0_0 a0_1 a0_2 a0_3 a0_4 a0_5 a0_6 l0_7 l0_8 = some r) ∧ Aside0 (kq ≤ k) ∧ Aside0 (w'.heap[gb108]? = some (.cells #[.int .i64 a0_0, .int .i64 a0_1, .int .i64 a0_2, .int .i64 a0_3, .int .i64 a0_4, .int .i64 a0_5, .int .i64 a0_6, (.slice A0_7 l0_7.length c0_7), (.slice A0_8 l0_8.length c0_8)] 73 (0, 0))) ∧ Aside0 (Below w.heap.size w w'))
 case atStart => exact ⟨(0), (by first | rfl | (simp; done) | (simp [*]; done)), H', ⟨Nat.le_refl _⟩, ⟨BH BK108.out⟩, ⟨BT HB.out⟩⟩
 case round =>
  clear H'
  try clear p2
  obtain ⟨x3_1, rfl, HA, HK1, BK108, HB⟩ := hrel
  cases gk with
  | zero => exact absurd HA.out (by simp [spec_IsValidTransaction.l0])
  | succ k1 =>
   have H := HA.out
   clear HA
   simp only [spec_IsValidTransaction.l0] at H
   by_cases c3 : x3_1 < (l0_7.length : Int)
   ·rw [if_pos c3] at H
    have c3b0 : decide (x3_1 < (l0_7.length : Int)) = true := decide_eq_true c3
    clear c3
    by_cases c4 : 0 ≤ x3_1
    rotate_left
    ·rw [if_neg c4] at H
     exact absurd H (by simp)
    rw [if_pos c4] at H
    have c4b0 : decide (0 ≤ x3_1) = true := decide_eq_true c4
    clear c4
    have HC5 := AM_ H
    clear H
    obtain ⟨hcz6_0, hcz6_1, hcz6_2, hcz6_3, hcz6_4, hcz6_5, hcz6_6, hcz6_7, hcz6_8, hfz6_0, hfz6_1, hfz6_2, hfz6_3, hfz6_4, hfz6_5, hfz6_6, hfz6_7, hfz6_8⟩ := bk9 BK108.out
    have p109 : 0 ≤ (x3_1 : Int) := DT
    have q109 : x3_1 < (l0_7.length : Int) := DT
    obtain ⟨ad109, e109, hx109_0, hx109_1⟩ := at_T55 HR0_7.out x3_1 p109 q109
    cases e109
    replace hx109_0 := BC HB.out hx109_0
    replace hx109_1 := BC HB.out hx109_1
    replace p109 := eq_true p109
    replace q109 := eq_true q109
    go_upto_region 5 with (first | ((with_reducible refine gate_dst (N := 4) rfl ?_); (try (refine gate_guard (by rfl) ?_; dsimp only)); refine box_event ?hg (N := 4) ?hd (cs := #[.int .i64 0, .int .i64 0]) (t := 55) ?hr ?_; (case hd => rfl); (case hg => rfl); (case hr => first | (go_simp; done) | (go_simp; rfl)); intro gb110 hg w7 hbox hb; have BK110 := AM_ (hbox); have GW110 := AM_ ((GS HB.out hg)); have GE110 := AM_ ((GS HB.out hg)); replace HB := AM_ (below_step (BT HB.out) hb); have NB108_110 := AM_ ((NL BK108.out hg)); have NB110_108 := AM_ ((NG BK108.out hg)); replace BK108 := AM_ (BB BK108.out hb); clear hb hbox hg; have hnb8 := NB110_108.out; have hnc8 := NB108_110.out; obtain ⟨hcz9_0, hcz9_1, hfz9_0, hfz9_1⟩ := bk2 BK110.out))
    (try simp only [pA, pS, pZ, pK])
    go_cut [43] (fun v43 wc => ∃ (kq : Nat) (x43_4 : Bool), v43 = .bool x43_4 ∧ Aside0 (spec_IsValidTransaction.j1 kq x3_1 x43_4 a0_0 a0_1 a0_2 a0_3 a0_4 a0_5 a0_6 l0_7 l0_8 = some r) ∧ Aside0 (kq ≤ k1) ∧ Aside0 (wc.heap[gb108]? = some (.cells #[.int .i64 a0_0, .int .i64 a0_1, .int .i64 a0_2, .int .i64 a0_3, .int .i64 a0_4, .int .i64 a0_5, .int .i64 a0_6, (.slice (some ad109) l0_7.length c0_7), (.slice A0_8 l0_8.length c0_8)] 73 (0, 0))) ∧ Aside0 (wc.heap[gb110]? = some (.cells #[.int .i64 ((rd_T55 l0_7 x3_1).f0), .int .i64 ((rd_T55 l0_7 x3_1).f1)] 55 (0, 0))) ∧ Aside0 (Below w.heap.size w wc))
    case first =>
     have H := HC5.out
     clear HC5
     replace H := Option.bind_eq_some_iff.mp H
     obtain ⟨t111, A100, H⟩ := H
     replace H : (if t111 = true then ((spec_l1In.f ((rd_T55 l0_7 x3_1).f1) 0 999).bind fun t112 => (if t112 = true then (if x3_1 > 0 then (if 0 ≤ (wrap64 (x3_1 - 1)) then (if (wrap64 (x3_1 - 1)) < (l0_7.length : Int) then ((spec_l5Before.f ((rd_T55 l0_7 (wrap64 (x3_1 - 1))).f0) ((rd_T55 l0_7 (wrap64 (x3_1 - 1))).f1) ((rd_T55 l0_7 x3_1).f0) ((rd_T55 l0_7 x3_1).f1)).bind fun t114 => (spec_IsValidTransaction.j1 k1 x3_1 (!t114) a0_0 a0_1 a0_2 a0_3 a0_4 a0_5 a0_6 l0_7 l0_8)) else (none)) else (none)) else (spec_IsValidTransaction.j1 k1 x3_1 false a0_0 a0_1 a0_2 a0_3 a0_4 a0_5 a0_6 l0_7 l0_8)) else (spec_IsValidTransaction.j1 k1 x3_1 true a0_0 a0_1 a0_2 a0_3 a0_4 a0_5 a0_6 l0_7 l0_8))) else (spec_IsValidTransaction.j1 k1 x3_1 true a0_0 a0_1 a0_2 a0_3 a0_4 a0_5 a0_6 l0_7 l0_8)) = some r := H
     have A10 := AM_ A100
     clear A100
     by_cases c11 : t111 = true
     rotate_left
     ·replace c11 := Bool.eq_false_iff.mpr c11
      subst c11
      have H1 : (spec_IsValidTransaction.j1 k1 x3_1 true a0_0 a0_1 a0_2 a0_3 a0_4 a0_5 a0_6 l0_7 l0_8) = some r := by rw [if_neg (show ¬ (false = true) by decide)] at H; exact H
      clear H
      have H := H1
      clear H1
      have H' := AM_ H
      clear H
      try go_wp2
      have n0_ : Aside0 (((w7.setCell ⟨gb110, 0, none⟩ (.int .i64 ((rd_T55 l0_7 x3_1).f0))).setCell ⟨gb110, 1, none⟩ (.int .i64 ((rd_T55 l0_7 x3_1).f1))).heap[gb108]? = some (.cells #[.int .i64 a0_0, .int .i64 a0_1, .int .i64 a0_2, .int .i64 a0_3, .int .i64 a0_4, .int .i64 a0_5, .int .i64 a0_6, .slice (some ad109) l0_7.length c0_7, .slice A0_8 l0_8.length c0_8] 73 (0, 0))) := ⟨BG BK108.out NB108_110.out⟩
      have n1_ : Aside0 (((w7.setCell ⟨gb110, 0, none⟩ (.int .i64 ((rd_T55 l0_7 x3_1).f0))).setCell ⟨gb110, 1, none⟩ (.int .i64 ((rd_T55 l0_7 x3_1).f1))).heap[gb110]? = some (.cells #[.int .i64 ((rd_T55 l0_7 x3_1).f0), .int .i64 ((rd_T55 l0_7 x3_1).f1)] 55 (0, 0))) := ⟨BQ BK110.out⟩
      have n2_ : Aside0 (Below w.heap.size w ((w7.setCell ⟨gb110, 0, none⟩ (.int .i64 ((rd_T55 l0_7 x3_1).f0))).setCell ⟨gb110, 1, none⟩ (.int .i64 ((rd_T55 l0_7 x3_1).f1)))) := ⟨BT HB.out⟩
      (try clear BK108)
      (try clear BK110)
      (try clear HB)
      generalize ((w7.setCell ⟨gb110, 0, none⟩ (.int .i64 ((rd_T55 l0_7 x3_1).f0))).setCell ⟨gb110, 1, none⟩ (.int .i64 ((rd_T55 l0_7 x3_1).f1))) = w26 at n0_ n1_ n2_ ⊢
      have BK108 := n0_
      have BK110 := n1_
      have HB := n2_
      clear n0_ n1_ n2_
      replace BK108 := AM_ (blk_drew BK108.out)
      replace BK110 := AM_ (blk_drew BK110.out)
      replace HB := AM_ (below_drew1 HB.out)
      refine start_ (n := 25) (S := fun w' => w'.cell? ⟨gb110, 0, none⟩ = some (.int .i64 ((rd_T55 l0_7 x3_1).f0)) ∧ w'.cell? ⟨gb110, 1, none⟩ = some (.int .i64 ((rd_T55 l0_7 x3_1).f1))) (ds := []) (bs 0 25) (by kernel_rfl) rfl rfl ⟨bc BK110.out 0, bc BK110.out 1⟩ (fun hHeld => ?_); refine with_tabW spec_IsValidTransaction.tab5 spec_IsValidTransaction.bits5 (fun HT_ HW_ => ?_)
      generalize w26.drew = w27 at BK108 BK110 HB hHeld ⊢
      refine pu (i := 0) (N := some 19) (v := ?_) (a' := ?_) (bs 1 25) rfl rfl HT_ ?_ ?_ ?_
      rotate_left
      ·intro w'
       go_simp
       with_reducible rfl
      rotate_left
      ·simp only [pA, pS, pZ, pK, i64_w, i32_w]
       rfl
      refine tk (i := 1) (N := some 20) (v := ?_) (a' := ?_) (bs 3 25) rfl rfl HT_ HW_ ?_ hHeld ?_ ?_
      rotate_left
      ·rintro w' ⟨s0, s1⟩
       go_simp
       with_reducible rfl
      rotate_left
      ·simp only [pA, pS, pZ, pK, i64_w, i32_w]
       rfl
      refine one_ (i := 2) (N := some 21) (bs 7 25) rfl rfl (one_of HT_.out (by kernel_rfl)) (by decide) (fun K hK => ?_)
      refine goes_ Tryd.func70 (by kernel_rfl) rfl #[.int .i64 ((rd_T55 l0_7 x3_1).f0), .int .i64 0, .int .i64 5] (by rfl) rfl rfl (by (try simp only [List.map_toArray, List.map_cons, List.map_nil]); first | done | rfl | (simp only [List.length_drop, List.length_take]; rfl)) ?_
      with_reducible refine (spec_l1In.calls ((rd_T55 l0_7 x3_1).f0) 0 5 false _ A10.out).mono ?_
      rintro e w' ⟨rfl, ⟨nd, rfl⟩⟩
      refine ⟨_, rfl, ?_⟩
      refine hK.out _ _ ⟨bc BK110.out 0, bc BK110.out 1⟩ (fun hHeld => ?_)
      clear hK K
      refine norm_ (a' := ?_) ?_ ?_
      rotate_left
      ·show Act.put _ (some 21) _ = _
       simp only [pA, pS, pZ, pK, i64_w, i32_w]
       rfl
      refine pu (i := 3) (N := some 22) (v := ?_) (a' := ?_) (bs 15 25) rfl rfl HT_ ?_ ?_ ?_
      rotate_left
      ·intro w'
       go_simp
       with_reducible rfl
      rotate_left
      ·simp only [pA, pS, pZ, pK, i64_w, i32_w]
       rfl
      refine pu (i := 4) (N := some 23) (v := ?_) (a' := ?_) (bs 31 25) rfl rfl HT_ ?_ ?_ ?_
      rotate_left
      ·intro w'
       go_simp
       with_reducible rfl
      rotate_left
      ·simp only [pA, pS, pZ, pK, i64_w, i32_w]
       rfl
      refine pn (i := 5) (N := some 24) (v := undef) (a' := ?_) (bs 63 25) rfl rfl HT_ ?_ ?_
      rotate_left
      ·simp only [pA, pS, pZ, pK, i64_w, i32_w]
       rfl
      refine pn (i := 6) (N := some 25) (v := undef) (a' := ?_) (bs 127 25) rfl rfl HT_ ?_ ?_
      rotate_left
      ·simp only [pA, pS, pZ, pK, i64_w, i32_w]
       rfl
      refine pn (i := 7) (N := some 26) (v := undef) (a' := ?_) (bs 255 25) rfl rfl HT_ ?_ ?_
      rotate_left
      ·simp only [pA, pS, pZ, pK, i64_w, i32_w]
       rfl
      refine pn (i := 8) (N := some 27) (v := undef) (a' := ?_) (bs 511 25) rfl rfl HT_ ?_ ?_
      rotate_left
      ·simp only [pA, pS, pZ, pK, i64_w, i32_w]
       rfl
      refine pu (i := 9) (N := some 28) (v := ?_) (a' := ?_) (bs 1023 25) rfl rfl HT_ ?_ ?_ ?_
      rotate_left
      ·intro w'
       go_simp
       with_reducible rfl
      rotate_left
      ·simp only [pA, pS, pZ, pK, i64_w, i32_w]
       rfl
      refine pu (i := 10) (N := some 29) (v := ?_) (a' := ?_) (bs 2047 25) rfl rfl HT_ ?_ ?_ ?_
      rotate_left
      ·intro w'
       go_simp
       with_reducible rfl
      rotate_left
      ·simp only [pA, pS, pZ, pK, i64_w, i32_w]
       rfl
      refine pn (i := 11) (N := some 30) (v := undef) (a' := ?_) (bs 4095 25) rfl rfl HT_ ?_ ?_
      rotate_left
      ·simp only [pA, pS, pZ, pK, i64_w, i32_w]
       rfl
      refine pn (i := 12) (N := some 31) (v := undef) (a' := ?_) (bs 8191 25) rfl rfl HT_ ?_ ?_
      rotate_left
      ·simp only [pA, pS, pZ, pK, i64_w, i32_w]
       rfl
      refine pn (i := 13) (N := some 32) (v := undef) (a' := ?_) (bs 16383 25) rfl rfl HT_ ?_ ?_
      rotate_left
      ·simp only [pA, pS, pZ, pK, i64_w, i32_w]
       rfl
      refine pn (i := 14) (N := some 33) (v := undef) (a' := ?_) (bs 32767 25) rfl rfl HT_ ?_ ?_
      rotate_left
      ·simp only [pA, pS, pZ, pK, i64_w, i32_w]
       rfl
      refine pn (i := 15) (N := some 34) (v := undef) (a' := ?_) (bs 65535 25) rfl rfl HT_ ?_ ?_
      rotate_left
      ·simp only [pA, pS, pZ, pK, i64_w, i32_w]
       rfl
      refine pn (i := 16) (N := some 35) (v := undef) (a' := ?_) (bs 131071 25) rfl rfl HT_ ?_ ?_
      rotate_left
      ·simp only [pA, pS, pZ, pK, i64_w, i32_w]
       rfl
      refine pn (i := 17) (N := some 36) (v := undef) (a' := ?_) (bs 262143 25) rfl rfl HT_ ?_ ?_
      rotate_left
      ·simp only [pA, pS, pZ, pK, i64_w, i32_w]
       rfl
      refine pn (i := 18) (N := some 37) (v := undef) (a' := ?_) (bs 524287 25) rfl rfl HT_ ?_ ?_
      rotate_left
      ·simp only [pA, pS, pZ, pK, i64_w, i32_w]
       rfl
      refine pn (i := 19) (N := some 38) (v := undef) (a' := ?_) (bs 1048575 25) rfl rfl HT_ ?_ ?_
      rotate_left
      ·simp only [pA, pS, pZ, pK, i64_w, i32_w]
       rfl
      refine pn (i := 20) (N := some 39) (v := undef) (a' := ?_) (bs 2097151 25) rfl rfl HT_ ?_ ?_
      rotate_left
      ·simp only [pA, pS, pZ, pK, i64_w, i32_w]
       rfl
      refine pn (i := 21) (N := some 40) (v := undef) (a' := ?_) (bs 4194303 25) rfl rfl HT_ ?_ ?_
      rotate_left
      ·simp only [pA, pS, pZ, pK, i64_w, i32_w]
       rfl
      refine pn (i := 22) (N := some 41) (v := undef) (a' := ?_) (bs 8388607 25) rfl rfl HT_ ?_ ?_
      rotate_left
      ·simp only [pA, pS, pZ, pK, i64_w, i32_w]
       rfl
      refine pn (i := 23) (N := some 42) (v := undef) (a' := ?_) (bs 16777215 25) rfl rfl HT_ ?_ ?_
      rotate_left
      ·simp only [pA, pS, pZ, pK, i64_w, i32_w]
       rfl
      refine pu (i := 24) (N := some 43) (v := ?_) (a' := ?_) (bs 33554431 25) rfl rfl HT_ ?_ ?_ ?_
      rotate_left
      ·intro w'
       go_simp
       with_reducible rfl
      rotate_left
      ·simp only [pA, pS, pZ, pK, i64_w, i32_w]
       rfl
      refine done_ (done_of HT_.out (by kernel_rfl)) ?_
      try go_wp2
      go_meet
      case rel => exact ⟨_, (true), (by first | rfl | (simp; done) | (simp [*]; done)), H', ⟨by have := HK1.out; first | omega | exact Nat.le_refl _⟩, ⟨BH BK108.out⟩, ⟨BH BK110.out⟩, ⟨BT HB.out⟩⟩
     subst c11
     have H1 : ((spec_l1In.f ((rd_T55 l0_7 x3_1).f1) 0 999).bind fun t112 => (if t112 = true then (if x3_1 > 0 then (if 0 ≤ (wrap64 (x3_1 - 1)) then (if (wrap64 (x3_1 - 1)) < (l0_7.length : Int) then ((spec_l5Before.f ((rd_T55 l0_7 (wrap64 (x3_1 - 1))).f0) ((rd_T55 l0_7 (wrap64 (x3_1 - 1))).f1) ((rd_T55 l0_7 x3_1).f0) ((rd_T55 l0_7 x3_1).f1)).bind fun t114 => (spec_IsValidTransaction.j1 k1 x3_1 (!t114) a0_0 a0_1 a0_2 a0_3 a0_4 a0_5 a0_6 l0_7 l0_8)) else (none)) else (none)) else (spec_IsValidTransaction.j1 k1 x3_1 false a0_0 a0_1 a0_2 a0_3 a0_4 a0_5 a0_6 l0_7 l0_8)) else (spec_IsValidTransaction.j1 k1 x3_1 true a0_0 a0_1 a0_2 a0_3 a0_4 a0_5 a0_6 l0_7 l0_8))) = some r := by rw [if_pos rfl] at H; exact H
     clear H
     have H := H1
     clear H1
     replace H := Option.bind_eq_some_iff.mp H
     obtain ⟨t112, A120, H⟩ := H
     replace H : (if t112 = true then (if x3_1 > 0 then (if 0 ≤ (wrap64 (x3_1 - 1)) then (if (wrap64 (x3_1 - 1)) < (l0_7.length : Int) then ((spec_l5Before.f ((rd_T55 l0_7 (wrap64 (x3_1 - 1))).f0) ((rd_T55 l0_7 (wrap64 (x3_1 - 1))).f1) ((rd_T55 l0_7 x3_1).f0) ((rd_T55 l0_7 x3_1).f1)).bind fun t114 => (spec_IsValidTransaction.j1 k1 x3_1 (!t114) a0_0 a0_1 a0_2 a0_3 a0_4 a0_5 a0_6 l0_7 l0_8)) else (none)) else (none)) else (spec_IsValidTransaction.j1 k1 x3_1 false a0_0 a0_1 a0_2 a0_3 a0_4 a0_5 a0_6 l0_7 l0_8)) else (spec_IsValidTransaction.j1 k1 x3_1 true a0_0 a0_1 a0_2 a0_3 a0_4 a0_5 a0_6 l0_7 l0_8)) = some r := H
     have A12 := AM_ A120
     clear A120
     by_cases c13 : t112 = true
     rotate_left
     ·replace c13 := Bool.eq_false_iff.mpr c13
      subst c13
      have H1 : (spec_IsValidTransaction.j1 k1 x3_1 true a0_0 a0_1 a0_2 a0_3 a0_4 a0_5 a0_6 l0_7 l0_8) = some r := by rw [if_neg (show ¬ (false = true) by decide)] at H; exact H
      clear H
      have H := H1
      clear H1
      have H' := AM_ H
      clear H
      try go_wp2
      have n0_ : Aside0 (((w7.setCell ⟨gb110, 0, none⟩ (.int .i64 ((rd_T55 l0_7 x3_1).f0))).setCell ⟨gb110, 1, none⟩ (.int .i64 ((rd_T55 l0_7 x3_1).f1))).heap[gb108]? = some (.cells #[.int .i64 a0_0, .int .i64 a0_1, .int .i64 a0_2, .int .i64 a0_3, .int .i64 a0_4, .int .i64 a0_5, .int .i64 a0_6, .slice (some ad109) l0_7.length c0_7, .slice A0_8 l0_8.length c0_8] 73 (0, 0))) := ⟨BG BK108.out NB108_110.out⟩
      have n1_ : Aside0 (((w7.setCell ⟨gb110, 0, none⟩ (.int .i64 ((rd_T55 l0_7 x3_1).f0))).setCell ⟨gb110, 1, none⟩ (.int .i64 ((rd_T55 l0_7 x3_1).f1))).heap[gb110]? = some (.cells #[.int .i64 ((rd_T55 l0_7 x3_1).f0), .int .i64 ((rd_T55 l0_7 x3_1).f1)] 55 (0, 0))) := ⟨BQ BK110.out⟩
      have n2_ : Aside0 (Below w.heap.size w ((w7.setCell ⟨gb110, 0, none⟩ (.int .i64 ((rd_T55 l0_7 x3_1).f0))).setCell ⟨gb110, 1, none⟩ (.int .i64 ((rd_T55 l0_7 x3_1).f1)))) := ⟨BT HB.out⟩
      (try clear BK108)
      (try clear BK110)
      (try clear HB)
      generalize ((w7.setCell ⟨gb110, 0, none⟩ (.int .i64 ((rd_T55 l0_7 x3_1).f0))).setCell ⟨gb110, 1, none⟩ (.int .i64 ((rd_T55 l0_7 x3_1).f1))) = w24 at n0_ n1_ n2_ ⊢
      have BK108 := n0_
      have BK110 := n1_
      have HB := n2_
      clear n0_ n1_ n2_
      replace BK108 := AM_ (blk_drew BK108.out)
      replace BK110 := AM_ (blk_drew BK110.out)
      replace HB := AM_ (below_drew1 HB.out)
      refine start_ (n := 25) (S := fun w' => w'.cell? ⟨gb110, 0, none⟩ = some (.int .i64 ((rd_T55 l0_7 x3_1).f0)) ∧ w'.cell? ⟨gb110, 1, none⟩ = some (.int .i64 ((rd_T55 l0_7 x3_1).f1))) (ds := []) (bs 0 25) (by kernel_rfl) rfl rfl ⟨bc BK110.out 0, bc BK110.out 1⟩ (fun hHeld => ?_); refine with_tabW spec_IsValidTransaction.tab5 spec_IsValidTransaction.bits5 (fun HT_ HW_ => ?_)
      generalize w24.drew = w25 at BK108 BK110 HB hHeld ⊢
      refine pu (i := 0) (N := some 19) (v := ?_) (a' := ?_) (bs 1 25) rfl rfl HT_ ?_ ?_ ?_
      rotate_left
      ·intro w'
       go_simp
       with_reducible rfl
      rotate_left
      ·simp only [pA, pS, pZ, pK, i64_w, i32_w]
       rfl
      refine tk (i := 1) (N := some 20) (v := ?_) (a' := ?_) (bs 3 25) rfl rfl HT_ HW_ ?_ hHeld ?_ ?_
      rotate_left
      ·rintro w' ⟨s0, s1⟩
       go_simp
       with_reducible rfl
      rotate_left
      ·simp only [pA, pS, pZ, pK, i64_w, i32_w]
       rfl
      refine one_ (i := 2) (N := some 21) (bs 7 25) rfl rfl (one_of HT_.out (by kernel_rfl)) (by decide) (fun K hK => ?_)
      refine goes_ Tryd.func70 (by kernel_rfl) rfl #[.int .i64 ((rd_T55 l0_7 x3_1).f0), .int .i64 0, .int .i64 5] (by rfl) rfl rfl (by (try simp only [List.map_toArray, List.map_cons, List.map_nil]); first | done | rfl | (simp only [List.length_drop, List.length_take]; rfl)) ?_
      with_reducible refine (spec_l1In.calls ((rd_T55 l0_7 x3_1).f0) 0 5 true _ A10.out).mono ?_
      rintro e w' ⟨rfl, ⟨nd, rfl⟩⟩
      refine ⟨_, rfl, ?_⟩
      refine hK.out _ _ ⟨bc BK110.out 0, bc BK110.out 1⟩ (fun hHeld => ?_)
      clear hK K
      refine norm_ (a' := ?_) ?_ ?_
      rotate_left
      ·show Act.put _ (some 21) _ = _
       simp only [pA, pS, pZ, pK, i64_w, i32_w]
       rfl
      refine pu (i := 3) (N := some 22) (v := ?_) (a' := ?_) (bs 15 25) rfl rfl HT_ ?_ ?_ ?_
      rotate_left
      ·intro w'
       go_simp
       with_reducible rfl
      rotate_left
      ·simp only [pA, pS, pZ, pK, i64_w, i32_w]
       rfl
      refine pu (i := 4) (N := some 23) (v := ?_) (a' := ?_) (bs 31 25) rfl rfl HT_ ?_ ?_ ?_
      rotate_left
      ·intro w'
       go_simp
       with_reducible rfl
      rotate_left
      ·simp only [pA, pS, pZ, pK, i64_w, i32_w]
       rfl
      refine pu (i := 5) (N := some 24) (v := ?_) (a' := ?_) (bs 63 25) rfl rfl HT_ ?_ ?_ ?_
      rotate_left
      ·intro w'
       go_simp
       with_reducible rfl
      rotate_left
      ·simp only [pA, pS, pZ, pK, i64_w, i32_w]
       rfl
      refine tk (i := 6) (N := some 25) (v := ?_) (a' := ?_) (bs 127 25) rfl rfl HT_ HW_ ?_ hHeld ?_ ?_
      rotate_left
      ·rintro w' ⟨s0, s1⟩
       go_simp
       with_reducible rfl
      rotate_left
      ·simp only [pA, pS, pZ, pK, i64_w, i32_w]
       rfl
      refine one_ (i := 7) (N := some 26) (bs 255 25) rfl rfl (one_of HT_.out (by kernel_rfl)) (by decide) (fun K hK => ?_)
      refine goes_ Tryd.func70 (by kernel_rfl) rfl #[.int .i64 ((rd_T55 l0_7 x3_1).f1), .int .i64 0, .int .i64 999] (by rfl) rfl rfl (by (try simp only [List.map_toArray, List.map_cons, List.map_nil]); first | done | rfl | (simp only [List.length_drop, List.length_take]; rfl)) ?_
      with_reducible refine (spec_l1In.calls ((rd_T55 l0_7 x3_1).f1) 0 999 false _ A12.out).mono ?_
      rintro e w' ⟨rfl, ⟨nd, rfl⟩⟩
      refine ⟨_, rfl, ?_⟩
      refine hK.out _ _ ⟨bc BK110.out 0, bc BK110.out 1⟩ (fun hHeld => ?_)
      clear hK K
      refine norm_ (a' := ?_) ?_ ?_
      rotate_left
      ·show Act.put _ (some 26) _ = _
       simp only [pA, pS, pZ, pK, i64_w, i32_w]
       rfl
      refine pu (i := 8) (N := some 27) (v := ?_) (a' := ?_) (bs 511 25) rfl rfl HT_ ?_ ?_ ?_
      rotate_left
      ·intro w'
       go_simp
       with_reducible rfl
      rotate_left
      ·simp only [pA, pS, pZ, pK, i64_w, i32_w]
       rfl
      refine pu (i := 9) (N := some 28) (v := ?_) (a' := ?_) (bs 1023 25) rfl rfl HT_ ?_ ?_ ?_
      rotate_left
      ·intro w'
       go_simp
       with_reducible rfl
      rotate_left
      ·simp only [pA, pS, pZ, pK, i64_w, i32_w]
       rfl
      refine pu (i := 10) (N := some 29) (v := ?_) (a' := ?_) (bs 2047 25) rfl rfl HT_ ?_ ?_ ?_
      rotate_left
      ·intro w'
       go_simp
       with_reducible rfl
      rotate_left
      ·simp only [pA, pS, pZ, pK, i64_w, i32_w]
       rfl
      refine pn (i := 11) (N := some 30) (v := undef) (a' := ?_) (bs 4095 25) rfl rfl HT_ ?_ ?_
      rotate_left
      ·simp only [pA, pS, pZ, pK, i64_w, i32_w]
       rfl
      refine pn (i := 12) (N := some 31) (v := undef) (a' := ?_) (bs 8191 25) rfl rfl HT_ ?_ ?_
      rotate_left
      ·simp only [pA, pS, pZ, pK, i64_w, i32_w]
       rfl
      refine pn (i := 13) (N := some 32) (v := undef) (a' := ?_) (bs 16383 25) rfl rfl HT_ ?_ ?_
      rotate_left
      ·simp only [pA, pS, pZ, pK, i64_w, i32_w]
       rfl
      refine pn (i := 14) (N := some 33) (v := undef) (a' := ?_) (bs 32767 25) rfl rfl HT_ ?_ ?_
      rotate_left
      ·simp only [pA, pS, pZ, pK, i64_w, i32_w]
       rfl
      refine pn (i := 15) (N := some 34) (v := undef) (a' := ?_) (bs 65535 25) rfl rfl HT_ ?_ ?_
      rotate_left
      ·simp only [pA, pS, pZ, pK, i64_w, i32_w]
       rfl
      refine pn (i := 16) (N := some 35) (v := undef) (a' := ?_) (bs 131071 25) rfl rfl HT_ ?_ ?_
      rotate_left
      ·simp only [pA, pS, pZ, pK, i64_w, i32_w]
       rfl
      refine pn (i := 17) (N := some 36) (v := undef) (a' := ?_) (bs 262143 25) rfl rfl HT_ ?_ ?_
      rotate_left
      ·simp only [pA, pS, pZ, pK, i64_w, i32_w]
       rfl
      refine pn (i := 18) (N := some 37) (v := undef) (a' := ?_) (bs 524287 25) rfl rfl HT_ ?_ ?_
      rotate_left
      ·simp only [pA, pS, pZ, pK, i64_w, i32_w]
       rfl
      refine pn (i := 19) (N := some 38) (v := undef) (a' := ?_) (bs 1048575 25) rfl rfl HT_ ?_ ?_
      rotate_left
      ·simp only [pA, pS, pZ, pK, i64_w, i32_w]
       rfl
      refine pn (i := 20) (N := some 39) (v := undef) (a' := ?_) (bs 2097151 25) rfl rfl HT_ ?_ ?_
      rotate_left
      ·simp only [pA, pS, pZ, pK, i64_w, i32_w]
       rfl
      refine pn (i := 21) (N := some 40) (v := undef) (a' := ?_) (bs 4194303 25) rfl rfl HT_ ?_ ?_
      rotate_left
      ·simp only [pA, pS, pZ, pK, i64_w, i32_w]
       rfl
      refine pn (i := 22) (N := some 41) (v := undef) (a' := ?_) (bs 8388607 25) rfl rfl HT_ ?_ ?_
      rotate_left
      ·simp only [pA, pS, pZ, pK, i64_w, i32_w]
       rfl
      refine pn (i := 23) (N := some 42) (v := undef) (a' := ?_) (bs 16777215 25) rfl rfl HT_ ?_ ?_
      rotate_left
      ·simp only [pA, pS, pZ, pK, i64_w, i32_w]
       rfl
      refine pu (i := 24) (N := some 43) (v := ?_) (a' := ?_) (bs 33554431 25) rfl rfl HT_ ?_ ?_ ?_
      rotate_left
      ·intro w'
       go_simp
       with_reducible rfl
      rotate_left
      ·simp only [pA, pS, pZ, pK, i64_w, i32_w]
       rfl
      refine done_ (done_of HT_.out (by kernel_rfl)) ?_
      try go_wp2
      go_meet
      case rel => exact ⟨_, (true), (by first | rfl | (simp; done) | (simp [*]; done)), H', ⟨by have := HK1.out; first | omega | exact Nat.le_refl _⟩, ⟨BH BK108.out⟩, ⟨BH BK110.out⟩, ⟨BT HB.out⟩⟩
     subst c13
     have H1 : (if x3_1 > 0 then (if 0 ≤ (wrap64 (x3_1 - 1)) then (if (wrap64 (x3_1 - 1)) < (l0_7.length : Int) then ((spec_l5Before.f ((rd_T55 l0_7 (wrap64 (x3_1 - 1))).f0) ((rd_T55 l0_7 (wrap64 (x3_1 - 1))).f1) ((rd_T55 l0_7 x3_1).f0) ((rd_T55 l0_7 x3_1).f1)).bind fun t114 => (spec_IsValidTransaction.j1 k1 x3_1 (!t114) a0_0 a0_1 a0_2 a0_3 a0_4 a0_5 a0_6 l0_7 l0_8)) else (none)) else (none)) else (spec_IsValidTransaction.j1 k1 x3_1 false a0_0 a0_1 a0_2 a0_3 a0_4 a0_5 a0_6 l0_7 l0_8)) = some r := by rw [if_pos rfl] at H; exact H
     clear H
     have H := H1
     clear H1
     by_cases c14 : x3_1 > 0
     rotate_left
     ·rw [if_neg c14] at H
      have c14b0 : decide (0 < x3_1) = false := decide_eq_false c14
      clear c14
      (first | rw [c14b0] | (simp only [i64_w, i32_w]; rw [c14b0]) | skip)
      have H' := AM_ H
      clear H
      try go_wp2
      have n0_ : Aside0 (((w7.setCell ⟨gb110, 0, none⟩ (.int .i64 ((rd_T55 l0_7 x3_1).f0))).setCell ⟨gb110, 1, none⟩ (.int .i64 ((rd_T55 l0_7 x3_1).f1))).heap[gb108]? = some (.cells #[.int .i64 a0_0, .int .i64 a0_1, .int .i64 a0_2, .int .i64 a0_3, .int .i64 a0_4, .int .i64 a0_5, .int .i64 a0_6, .slice (some ad109) l0_7.length c0_7, .slice A0_8 l0_8.length c0_8] 73 (0, 0))) := ⟨BG BK108.out NB108_110.out⟩
      have n1_ : Aside0 (((w7.setCell ⟨gb110, 0, none⟩ (.int .i64 ((rd_T55 l0_7 x3_1).f0))).setCell ⟨gb110, 1, none⟩ (.int .i64 ((rd_T55 l0_7 x3_1).f1))).heap[gb110]? = some (.cells #[.int .i64 ((rd_T55 l0_7 x3_1).f0), .int .i64 ((rd_T55 l0_7 x3_1).f1)] 55 (0, 0))) := ⟨BQ BK110.out⟩
      have n2_ : Aside0 (Below w.heap.size w ((w7.setCell ⟨gb110, 0, none⟩ (.int .i64 ((rd_T55 l0_7 x3_1).f0))).setCell ⟨gb110, 1, none⟩ (.int .i64 ((rd_T55 l0_7 x3_1).f1)))) := ⟨BT HB.out⟩
      (try clear BK108)
      (try clear BK110)
      (try clear HB)
      generalize ((w7.setCell ⟨gb110, 0, none⟩ (.int .i64 ((rd_T55 l0_7 x3_1).f0))).setCell ⟨gb110, 1, none⟩ (.int .i64 ((rd_T55 l0_7 x3_1).f1))) = w22 at n0_ n1_ n2_ ⊢
      have BK108 := n0_
      have BK110 := n1_
      have HB := n2_
      clear n0_ n1_ n2_
      replace BK108 := AM_ (blk_drew BK108.out)
      replace BK110 := AM_ (blk_drew BK110.out)
      replace HB := AM_ (below_drew1 HB.out)
      refine start_ (n := 25) (S := fun w' => w'.cell? ⟨gb110, 0, none⟩ = some (.int .i64 ((rd_T55 l0_7 x3_1).f0)) ∧ w'.cell? ⟨gb110, 1, none⟩ = some (.int .i64 ((rd_T55 l0_7 x3_1).f1))) (ds := []) (bs 0 25) (by kernel_rfl) rfl rfl ⟨bc BK110.out 0, bc BK110.out 1⟩ (fun hHeld => ?_); refine with_tabW spec_IsValidTransaction.tab5 spec_IsValidTransaction.bits5 (fun HT_ HW_ => ?_)
      generalize w22.drew = w23 at BK108 BK110 HB hHeld ⊢
      refine pu (i := 0) (N := some 19) (v := ?_) (a' := ?_) (bs 1 25) rfl rfl HT_ ?_ ?_ ?_
      rotate_left
      ·intro w'
       go_simp
       with_reducible rfl
      rotate_left
      ·simp only [pA, pS, pZ, pK, i64_w, i32_w]
       rfl
      refine tk (i := 1) (N := some 20) (v := ?_) (a' := ?_) (bs 3 25) rfl rfl HT_ HW_ ?_ hHeld ?_ ?_
      rotate_left
      ·rintro w' ⟨s0, s1⟩
       go_simp
       with_reducible rfl
      rotate_left
      ·simp only [pA, pS, pZ, pK, i64_w, i32_w]
       rfl
      refine one_ (i := 2) (N := some 21) (bs 7 25) rfl rfl (one_of HT_.out (by kernel_rfl)) (by decide) (fun K hK => ?_)
      refine goes_ Tryd.func70 (by kernel_rfl) rfl #[.int .i64 ((rd_T55 l0_7 x3_1).f0), .int .i64 0, .int .i64 5] (by rfl) rfl rfl (by (try simp only [List.map_toArray, List.map_cons, List.map_nil]); first | done | rfl | (simp only [List.length_drop, List.length_take]; rfl)) ?_
      with_reducible refine (spec_l1In.calls ((rd_T55 l0_7 x3_1).f0) 0 5 true _ A10.out).mono ?_
      rintro e w' ⟨rfl, ⟨nd, rfl⟩⟩
      refine ⟨_, rfl, ?_⟩
      refine hK.out _ _ ⟨bc BK110.out 0, bc BK110.out 1⟩ (fun hHeld => ?_)
      clear hK K
      refine norm_ (a' := ?_) ?_ ?_
      rotate_left
      ·show Act.put _ (some 21) _ = _
       simp only [pA, pS, pZ, pK, i64_w, i32_w]
       rfl
      refine pu (i := 3) (N := some 22) (v := ?_) (a' := ?_) (bs 15 25) rfl rfl HT_ ?_ ?_ ?_
      rotate_left
      ·intro w'
       go_simp
       with_reducible rfl
      rotate_left
      ·simp only [pA, pS, pZ, pK, i64_w, i32_w]
       rfl
      refine pu (i := 4) (N := some 23) (v := ?_) (a' := ?_) (bs 31 25) rfl rfl HT_ ?_ ?_ ?_
      rotate_left
      ·intro w'
       go_simp
       with_reducible rfl
      rotate_left
      ·simp only [pA, pS, pZ, pK, i64_w, i32_w]
       rfl
      refine pu (i := 5) (N := some 24) (v := ?_) (a' := ?_) (bs 63 25) rfl rfl HT_ ?_ ?_ ?_
      rotate_left
      ·intro w'
       go_simp
       with_reducible rfl
      rotate_left
      ·simp only [pA, pS, pZ, pK, i64_w, i32_w]
       rfl
      refine tk (i := 6) (N := some 25) (v := ?_) (a' := ?_) (bs 127 25) rfl rfl HT_ HW_ ?_ hHeld ?_ ?_
      rotate_left
      ·rintro w' ⟨s0, s1⟩
       go_simp
       with_reducible rfl
      rotate_left
      ·simp only [pA, pS, pZ, pK, i64_w, i32_w]
       rfl
      refine one_ (i := 7) (N := some 26) (bs 255 25) rfl rfl (one_of HT_.out (by kernel_rfl)) (by decide) (fun K hK => ?_)
      refine goes_ Tryd.func70 (by kernel_rfl) rfl #[.int .i64 ((rd_T55 l0_7 x3_1).f1), .int .i64 0, .int .i64 999] (by rfl) rfl rfl (by (try simp only [List.map_toArray, List.map_cons, List.map_nil]); first | done | rfl | (simp only [List.length_drop, List.length_take]; rfl)) ?_
      with_reducible refine (spec_l1In.calls ((rd_T55 l0_7 x3_1).f1) 0 999 true _ A12.out).mono ?_
      rintro e w' ⟨rfl, ⟨nd, rfl⟩⟩
      refine ⟨_, rfl, ?_⟩
      refine hK.out _ _ ⟨bc BK110.out 0, bc BK110.out 1⟩ (fun hHeld => ?_)
      clear hK K
      refine norm_ (a' := ?_) ?_ ?_
      rotate_left
      ·show Act.put _ (some 26) _ = _
       simp only [pA, pS, pZ, pK, i64_w, i32_w]
       rfl
      refine pu (i := 8) (N := some 27) (v := ?_) (a' := ?_) (bs 511 25) rfl rfl HT_ ?_ ?_ ?_
      rotate_left
      ·intro w'
       go_simp
       with_reducible rfl
      rotate_left
      ·simp only [pA, pS, pZ, pK, i64_w, i32_w]
       rfl
      refine pu (i := 9) (N := some 28) (v := ?_) (a' := ?_) (bs 1023 25) rfl rfl HT_ ?_ ?_ ?_
      rotate_left
      ·intro w'
       go_simp
       with_reducible rfl
      rotate_left
      ·simp only [pA, pS, pZ, pK, i64_w, i32_w]
       rfl
      refine pu (i := 10) (N := some 29) (v := ?_) (a' := ?_) (bs 2047 25) rfl rfl HT_ ?_ ?_ ?_
      rotate_left
      ·intro w'
       go_simp
       with_reducible rfl
      rotate_left
      ·simp only [pA, pS, pZ, pK, i64_w, i32_w]
       rfl
      refine pu (i := 11) (N := some 30) (v := ?_) (a' := ?_) (bs 4095 25) rfl rfl HT_ ?_ ?_ ?_
      rotate_left
      ·intro w'
       go_simp
       with_reducible rfl
      rotate_left
      ·simp only [pA, pS, pZ, pK, i64_w, i32_w]
       rfl
      refine pu (i := 12) (N := some 31) (v := ?_) (a' := ?_) (bs 8191 25) rfl rfl HT_ ?_ ?_ ?_
      rotate_left
      ·intro w'
       go_simp
       with_reducible rfl
      rotate_left
      ·simp only [pA, pS, pZ, pK, i64_w, i32_w]
       rfl
      refine pu (i := 13) (N := some 32) (v := ?_) (a' := ?_) (bs 16383 25) rfl rfl HT_ ?_ ?_ ?_
      rotate_left
      ·intro w'
       go_simp
       with_reducible rfl
      rotate_left
      ·simp only [pA, pS, pZ, pK, i64_w, i32_w]
       rfl
      refine pn (i := 14) (N := some 33) (v := undef) (a' := ?_) (bs 32767 25) rfl rfl HT_ ?_ ?_
      rotate_left
      ·simp only [pA, pS, pZ, pK, i64_w, i32_w]
       rfl
      refine pn (i := 15) (N := some 34) (v := undef) (a' := ?_) (bs 65535 25) rfl rfl HT_ ?_ ?_
      rotate_left
      ·simp only [pA, pS, pZ, pK, i64_w, i32_w]
       rfl
      refine pn (i := 16) (N := some 35) (v := undef) (a' := ?_) (bs 131071 25) rfl rfl HT_ ?_ ?_
      rotate_left
      ·simp only [pA, pS, pZ, pK, i64_w, i32_w]
       rfl
      refine pn (i := 17) (N := some 36) (v := undef) (a' := ?_) (bs 262143 25) rfl rfl HT_ ?_ ?_
      rotate_left
      ·simp only [pA, pS, pZ, pK, i64_w, i32_w]
       rfl
      refine pn (i := 18) (N := some 37) (v := undef) (a' := ?_) (bs 524287 25) rfl rfl HT_ ?_ ?_
      rotate_left
      ·simp only [pA, pS, pZ, pK, i64_w, i32_w]
       rfl
      refine pn (i := 19) (N := some 38) (v := undef) (a' := ?_) (bs 1048575 25) rfl rfl HT_ ?_ ?_
      rotate_left
      ·simp only [pA, pS, pZ, pK, i64_w, i32_w]
       rfl
      refine pn (i := 20) (N := some 39) (v := undef) (a' := ?_) (bs 2097151 25) rfl rfl HT_ ?_ ?_
      rotate_left
      ·simp only [pA, pS, pZ, pK, i64_w, i32_w]
       rfl
      refine pn (i := 21) (N := some 40) (v := undef) (a' := ?_) (bs 4194303 25) rfl rfl HT_ ?_ ?_
      rotate_left
      ·simp only [pA, pS, pZ, pK, i64_w, i32_w]
       rfl
      refine pn (i := 22) (N := some 41) (v := undef) (a' := ?_) (bs 8388607 25) rfl rfl HT_ ?_ ?_
      rotate_left
      ·simp only [pA, pS, pZ, pK, i64_w, i32_w]
       rfl
      refine pu (i := 23) (N := some 42) (v := ?_) (a' := ?_) (bs 16777215 25) rfl rfl HT_ ?_ ?_ ?_
      rotate_left
      ·intro w'
       go_simp
       with_reducible rfl
      rotate_left
      ·simp only [pA, pS, pZ, pK, i64_w, i32_w]
       rfl
      refine pu (i := 24) (N := some 43) (v := ?_) (a' := ?_) (bs 33554431 25) rfl rfl HT_ ?_ ?_ ?_
      rotate_left
      ·intro w'
       go_simp
       with_reducible rfl
      rotate_left
      ·simp only [pA, pS, pZ, pK, i64_w, i32_w]
       rfl
      refine done_ (done_of HT_.out (by kernel_rfl)) ?_
      try go_wp2
      go_meet
      case rel => exact ⟨_, (false), (by first | rfl | (simp; done) | (simp [*]; done)), H', ⟨by have := HK1.out; first | omega | exact Nat.le_refl _⟩, ⟨BH BK108.out⟩, ⟨BH BK110.out⟩, ⟨BT HB.out⟩⟩
     rw [if_pos c14] at H
     have c14b0 : decide (0 < x3_1) = true := decide_eq_true c14
     clear c14
     (first | rw [c14b0] | (simp only [i64_w, i32_w]; rw [c14b0]) | skip)
     obtain ⟨ji15, hji15⟩ : ∃ j_ : Int, (wrap64 (x3_1 - 1)) = j_ := ⟨_, rfl⟩
     replace H : (if 0 ≤ (ji15) then (if (ji15) < (l0_7.length : Int) then ((spec_l5Before.f ((rd_T55 l0_7 (ji15)).f0) ((rd_T55 l0_7 (ji15)).f1) ((rd_T55 l0_7 x3_1).f0) ((rd_T55 l0_7 x3_1).f1)).bind fun t114 => (spec_IsValidTransaction.j1 k1 x3_1 (!t114) a0_0 a0_1 a0_2 a0_3 a0_4 a0_5 a0_6 l0_7 l0_8)) else (none)) else (none)) = some r := by first | (rw [hji15] at H; exact H) | (simp only [hji15] at H ⊢; exact H)
     (try rw [hji15] at A10)
     (try rw [hji15] at A12)
     have hji15w : (IntKind.i64.wrap (x3_1 - 1)) = ji15 := (i64_w _).trans hji15
     by_cases c16 : 0 ≤ (ji15)
     rotate_left
     ·rw [if_neg c16] at H
      exact absurd H (by simp)
     rw [if_pos c16] at H
     have c16b0 : decide (0 ≤ (ji15)) = true := decide_eq_true c16
     clear c16
     by_cases c17 : (ji15) < (l0_7.length : Int)
     rotate_left
     ·rw [if_neg c17] at H
      exact absurd H (by simp)
     rw [if_pos c17] at H
     have c17b0 : decide ((ji15) < (l0_7.length : Int)) = true := decide_eq_true c17
     clear c17
     replace H := Option.bind_eq_some_iff.mp H
     obtain ⟨t114, A180, H⟩ := H
     replace H : (spec_IsValidTransaction.j1 k1 x3_1 (!t114) a0_0 a0_1 a0_2 a0_3 a0_4 a0_5 a0_6 l0_7 l0_8) = some r := H
     have A18 := AM_ A180
     clear A180
     have H' := AM_ H
     clear H
     try go_wp2
     have n0_ : Aside0 (((w7.setCell ⟨gb110, 0, none⟩ (.int .i64 ((rd_T55 l0_7 x3_1).f0))).setCell ⟨gb110, 1, none⟩ (.int .i64 ((rd_T55 l0_7 x3_1).f1))).heap[gb108]? = some (.cells #[.int .i64 a0_0, .int .i64 a0_1, .int .i64 a0_2, .int .i64 a0_3, .int .i64 a0_4, .int .i64 a0_5, .int .i64 a0_6, .slice (some ad109) l0_7.length c0_7, .slice A0_8 l0_8.length c0_8] 73 (0, 0))) := ⟨BG BK108.out NB108_110.out⟩
     have n1_ : Aside0 (((w7.setCell ⟨gb110, 0, none⟩ (.int .i64 ((rd_T55 l0_7 x3_1).f0))).setCell ⟨gb110, 1, none⟩ (.int .i64 ((rd_T55 l0_7 x3_1).f1))).heap[gb110]? = some (.cells #[.int .i64 ((rd_T55 l0_7 x3_1).f0), .int .i64 ((rd_T55 l0_7 x3_1).f1)] 55 (0, 0))) := ⟨BQ BK110.out⟩
     have n2_ : Aside0 (Below w.heap.size w ((w7.setCell ⟨gb110, 0, none⟩ (.int .i64 ((rd_T55 l0_7 x3_1).f0))).setCell ⟨gb110, 1, none⟩ (.int .i64 ((rd_T55 l0_7 x3_1).f1)))) := ⟨BT HB.out⟩
     (try clear BK108)
     (try clear BK110)
     (try clear HB)
     generalize ((w7.setCell ⟨gb110, 0, none⟩ (.int .i64 ((rd_T55 l0_7 x3_1).f0))).setCell ⟨gb110, 1, none⟩ (.int .i64 ((rd_T55 l0_7 x3_1).f1))) = w19 at n0_ n1_ n2_ ⊢
     have BK108 := n0_
     have BK110 := n1_
     have HB := n2_
     clear n0_ n1_ n2_
     replace BK108 := AM_ (blk_drew BK108.out)
     replace BK110 := AM_ (blk_drew BK110.out)
     replace HB := AM_ (below_drew1 HB.out)
     have p113 : 0 ≤ ((ji15) : Int) := DT
     have q113 : (ji15) < (l0_7.length : Int) := DT
     obtain ⟨ad113, e113, hx113_0, hx113_1⟩ := at_T55 HR0_7.out (ji15) p113 q113
     have hw113_1 := hx113_1
     have hw113_0 := hx113_0
     obtain rfl : ad109 = ad113 := (by injection e113)
     replace hx113_0 := BC HB.out hx113_0
     replace hx113_1 := BC HB.out hx113_1
     replace p113 := eq_true p113
     replace q113 := eq_true q113
     refine start_ (n := 25) (S := fun w' => w'.cell? ⟨gb110, 0, none⟩ = some (.int .i64 ((rd_T55 l0_7 x3_1).f0)) ∧ w'.cell? ⟨gb110, 1, none⟩ = some (.int .i64 ((rd_T55 l0_7 x3_1).f1)) ∧ w'.cell? ⟨gb108, 0, none⟩ = some (.int .i64 a0_0) ∧ w'.cell? ⟨gb108, 1, none⟩ = some (.int .i64 a0_1) ∧ w'.cell? ⟨gb108, 2, none⟩ = some (.int .i64 a0_2) ∧ w'.cell? ⟨gb108, 3, none⟩ = some (.int .i64 a0_3) ∧ w'.cell? ⟨gb108, 4, none⟩ = some (.int .i64 a0_4) ∧ w'.cell? ⟨gb108, 5, none⟩ = some (.int .i64 a0_5) ∧ w'.cell? ⟨gb108, 6, none⟩ = some (.int .i64 a0_6) ∧ w'.cell? ⟨gb108, 7, none⟩ = some (.slice (some ad109) l0_7.length c0_7) ∧ w'.cell? ⟨gb108, 8, none⟩ = some (.slice A0_8 l0_8.length c0_8) ∧ w'.cell? (ad109.add (((ji15)).toNat * 2)) = some (.int .i64 ((rd_T55 l0_7 (ji15)).f0)) ∧ w'.cell? ⟨(ad109.add (((ji15)).toNat * 2)).block, (ad109.add (((ji15)).toNat * 2)).off + 1, none⟩ = some (.int .i64 ((rd_T55 l0_7 (ji15)).f1))) (ds := []) (bs 0 25) (by kernel_rfl) rfl rfl ⟨bc BK110.out 0, bc BK110.out 1, bc BK108.out 0, bc BK108.out 1, bc BK108.out 2, bc BK108.out 3, bc BK108.out 4, bc BK108.out 5, bc BK108.out 6, bc BK108.out 7, bc BK108.out 8, (BD HB.out hw113_0), (BD HB.out hw113_1)⟩ (fun hHeld => ?_); refine with_tabW spec_IsValidTransaction.tab5 spec_IsValidTransaction.bits5 (fun HT_ HW_ => ?_)
     generalize w19.drew = w20 at BK108 BK110 HB hx113_0 hx113_1 hHeld ⊢
     refine pu (i := 0) (N := some 19) (v := ?_) (a' := ?_) (bs 1 25) rfl rfl HT_ ?_ ?_ ?_
     rotate_left
     ·intro w'
      go_simp
      with_reducible rfl
     rotate_left
     ·simp only [pA, pS, pZ, pK, i64_w, i32_w]
      rfl
     refine tk (i := 1) (N := some 20) (v := ?_) (a' := ?_) (bs 3 25) rfl rfl HT_ HW_ ?_ hHeld ?_ ?_
     rotate_left
     ·rintro w' ⟨s0, s1, s2, s3, s4, s5, s6, s7, s8, s9, s10, s11, s12⟩
      go_simp
      with_reducible rfl
     rotate_left
     ·simp only [pA, pS, pZ, pK, i64_w, i32_w]
      rfl
     refine one_ (i := 2) (N := some 21) (bs 7 25) rfl rfl (one_of HT_.out (by kernel_rfl)) (by decide) (fun K hK => ?_)
     refine goes_ Tryd.func70 (by kernel_rfl) rfl #[.int .i64 ((rd_T55 l0_7 x3_1).f0), .int .i64 0, .int .i64 5] (by rfl) rfl rfl (by (try simp only [List.map_toArray, List.map_cons, List.map_nil]); first | done | rfl | (simp only [List.length_drop, List.length_take]; rfl)) ?_
     with_reducible refine (spec_l1In.calls ((rd_T55 l0_7 x3_1).f0) 0 5 true _ A10.out).mono ?_
     rintro e w' ⟨rfl, ⟨nd, rfl⟩⟩
     refine ⟨_, rfl, ?_⟩
     refine hK.out _ _ ⟨bc BK110.out 0, bc BK110.out 1, bc BK108.out 0, bc BK108.out 1, bc BK108.out 2, bc BK108.out 3, bc BK108.out 4, bc BK108.out 5, bc BK108.out 6, bc BK108.out 7, bc BK108.out 8, (BD HB.out hw113_0), (BD HB.out hw113_1)⟩ (fun hHeld => ?_)
     clear hK K
     refine norm_ (a' := ?_) ?_ ?_
     rotate_left
     ·show Act.put _ (some 21) _ = _
      simp only [pA, pS, pZ, pK, i64_w, i32_w]
      rfl
     refine pu (i := 3) (N := some 22) (v := ?_) (a' := ?_) (bs 15 25) rfl rfl HT_ ?_ ?_ ?_
     rotate_left
     ·intro w'
      go_simp
      with_reducible rfl
     rotate_left
     ·simp only [pA, pS, pZ, pK, i64_w, i32_w]
      rfl
     refine pu (i := 4) (N := some 23) (v := ?_) (a' := ?_) (bs 31 25) rfl rfl HT_ ?_ ?_ ?_
     rotate_left
     ·intro w'
      go_simp
      with_reducible rfl
     rotate_left
     ·simp only [pA, pS, pZ, pK, i64_w, i32_w]
      rfl
     refine pu (i := 5) (N := some 24) (v := ?_) (a' := ?_) (bs 63 25) rfl rfl HT_ ?_ ?_ ?_
     rotate_left
     ·intro w'
      go_simp
      with_reducible rfl
     rotate_left
     ·simp only [pA, pS, pZ, pK, i64_w, i32_w]
      rfl
     refine tk (i := 6) (N := some 25) (v := ?_) (a' := ?_) (bs 127 25) rfl rfl HT_ HW_ ?_ hHeld ?_ ?_
     rotate_left
     ·rintro w' ⟨s0, s1, s2, s3, s4, s5, s6, s7, s8, s9, s10, s11, s12⟩
      go_simp
      with_reducible rfl
     rotate_left
     ·simp only [pA, pS, pZ, pK, i64_w, i32_w]
      rfl
     refine one_ (i := 7) (N := some 26) (bs 255 25) rfl rfl (one_of HT_.out (by kernel_rfl)) (by decide) (fun K hK => ?_)
     refine goes_ Tryd.func70 (by kernel_rfl) rfl #[.int .i64 ((rd_T55 l0_7 x3_1).f1), .int .i64 0, .int .i64 999] (by rfl) rfl rfl (by (try simp only [List.map_toArray, List.map_cons, List.map_nil]); first | done | rfl | (simp only [List.length_drop, List.length_take]; rfl)) ?_
     with_reducible refine (spec_l1In.calls ((rd_T55 l0_7 x3_1).f1) 0 999 true _ A12.out).mono ?_
     rintro e w' ⟨rfl, ⟨nd, rfl⟩⟩
     refine ⟨_, rfl, ?_⟩
     refine hK.out _ _ ⟨bc BK110.out 0, bc BK110.out 1, bc BK108.out 0, bc BK108.out 1, bc BK108.out 2, bc BK108.out 3, bc BK108.out 4, bc BK108.out 5, bc BK108.out 6, bc BK108.out 7, bc BK108.out 8, (BD HB.out hw113_0), (BD HB.out hw113_1)⟩ (fun hHeld => ?_)
     clear hK K
     refine norm_ (a' := ?_) ?_ ?_
     rotate_left
     ·show Act.put _ (some 26) _ = _
      simp only [pA, pS, pZ, pK, i64_w, i32_w]
      rfl
     refine pu (i := 8) (N := some 27) (v := ?_) (a' := ?_) (bs 511 25) rfl rfl HT_ ?_ ?_ ?_
     rotate_left
     ·intro w'
      go_simp
      with_reducible rfl
     rotate_left
     ·simp only [pA, pS, pZ, pK, i64_w, i32_w]
      rfl
     refine pu (i := 9) (N := some 28) (v := ?_) (a' := ?_) (bs 1023 25) rfl rfl HT_ ?_ ?_ ?_
     rotate_left
     ·intro w'
      go_simp
      with_reducible rfl
     rotate_left
     ·simp only [pA, pS, pZ, pK, i64_w, i32_w]
      rfl
     refine pu (i := 10) (N := some 29) (v := ?_) (a' := ?_) (bs 2047 25) rfl rfl HT_ ?_ ?_ ?_
     rotate_left
     ·intro w'
      go_simp
      with_reducible rfl
     rotate_left
     ·simp only [pA, pS, pZ, pK, i64_w, i32_w]
      rfl
     refine pu (i := 11) (N := some 30) (v := ?_) (a' := ?_) (bs 4095 25) rfl rfl HT_ ?_ ?_ ?_
     rotate_left
     ·intro w'
      go_simp
      with_reducible rfl
     rotate_left
     ·simp only [pA, pS, pZ, pK, i64_w, i32_w]
      rfl
     refine pu (i := 12) (N := some 31) (v := ?_) (a' := ?_) (bs 8191 25) rfl rfl HT_ ?_ ?_ ?_
     rotate_left
     ·intro w'
      go_simp
      with_reducible rfl
     rotate_left
     ·simp only [pA, pS, pZ, pK, i64_w, i32_w]
      rfl
     refine pu (i := 13) (N := some 32) (v := ?_) (a' := ?_) (bs 16383 25) rfl rfl HT_ ?_ ?_ ?_
     rotate_left
     ·intro w'
      go_simp
      with_reducible rfl
     rotate_left
     ·simp only [pA, pS, pZ, pK, i64_w, i32_w]
      rfl
     refine pu (i := 14) (N := some 33) (v := ?_) (a' := ?_) (bs 32767 25) rfl rfl HT_ ?_ ?_ ?_
     rotate_left
     ·intro w'
      go_simp
      with_reducible rfl
     rotate_left
     ·simp only [pA, pS, pZ, pK, i64_w, i32_w]
      rfl
     refine pu (i := 16) (N := some 35) (v := ?_) (a' := ?_) (bs 98303 25) rfl rfl HT_ ?_ ?_ ?_
     rotate_left
     ·intro w'
      go_simp
      with_reducible rfl
     rotate_left
     ·simp only [pA, pS, pZ, pK, i64_w, i32_w]
      rfl
     refine pu (i := 17) (N := some 36) (v := ?_) (a' := ?_) (bs 229375 25) rfl rfl HT_ ?_ ?_ ?_
     rotate_left
     ·intro w'
      go_simp
      with_reducible rfl
     rotate_left
     ·simp only [pA, pS, pZ, pK, i64_w, i32_w]
      rfl
     refine tk (i := 15) (N := some 34) (v := ?_) (a' := ?_) (bs 262143 25) rfl rfl HT_ HW_ ?_ hHeld ?_ ?_
     rotate_left
     ·rintro w' ⟨s0, s1, s2, s3, s4, s5, s6, s7, s8, s9, s10, s11, s12⟩
      go_simp
      with_reducible rfl
     rotate_left
     ·simp only [pA, pS, pZ, pK, i64_w, i32_w]
      rfl
     refine pu (i := 18) (N := some 37) (v := ?_) (a' := ?_) (bs 524287 25) rfl rfl HT_ ?_ ?_ ?_
     rotate_left
     ·intro w'
      go_simp
      with_reducible rfl
     rotate_left
     ·simp only [pA, pS, pZ, pK, i64_w, i32_w]
      rfl
     refine tk (i := 19) (N := some 38) (v := ?_) (a' := ?_) (bs 1048575 25) rfl rfl HT_ HW_ ?_ hHeld ?_ ?_
     rotate_left
     ·rintro w' ⟨s0, s1, s2, s3, s4, s5, s6, s7, s8, s9, s10, s11, s12⟩
      go_simp
      with_reducible rfl
     rotate_left
     ·simp only [pA, pS, pZ, pK, i64_w, i32_w]
      rfl
     refine tk (i := 20) (N := some 39) (v := ?_) (a' := ?_) (bs 2097151 25) rfl rfl HT_ HW_ ?_ hHeld ?_ ?_
     rotate_left
     ·rintro w' ⟨s0, s1, s2, s3, s4, s5, s6, s7, s8, s9, s10, s11, s12⟩
      go_simp
      with_reducible rfl
     rotate_left
     ·simp only [pA, pS, pZ, pK, i64_w, i32_w]
      rfl
     refine one_ (i := 21) (N := some 40) (bs 4194303 25) rfl rfl (one_of HT_.out (by kernel_rfl)) (by decide) (fun K hK => ?_)
     refine goes_ Tryd.func71 (by kernel_rfl) rfl #[.agg #[.int .i64 ((rd_T55 l0_7 (ji15)).f0), .int .i64 ((rd_T55 l0_7 (ji15)).f1)], .agg #[.int .i64 ((rd_T55 l0_7 x3_1).f0), .int .i64 ((rd_T55 l0_7 x3_1).f1)]] (by rfl) rfl rfl (by (try simp only [List.map_toArray, List.map_cons, List.map_nil]); first | done | (simp only [hji15]; rfl) | rfl | (simp only [List.length_drop, List.length_take]; rfl)) ?_
     with_reducible refine (spec_l5Before.calls ((rd_T55 l0_7 (ji15)).f0) ((rd_T55 l0_7 (ji15)).f1) ((rd_T55 l0_7 x3_1).f0) ((rd_T55 l0_7 x3_1).f1) t114 _ A18.out).mono ?_
     rintro e w21 ⟨rfl, hb⟩
     refine ⟨_, rfl, ?_⟩
     replace BK108 := AM_ (BB BK108.out hb)
     replace BK110 := AM_ (BB BK110.out hb)
     replace HB := AM_ (below_step (BT HB.out) hb)
     (try clear hb)
     (try clear hb2)
     (try clear hk)
     (try clear hi)
     refine hK.out _ _ ⟨bc BK110.out 0, bc BK110.out 1, bc BK108.out 0, bc BK108.out 1, bc BK108.out 2, bc BK108.out 3, bc BK108.out 4, bc BK108.out 5, bc BK108.out 6, bc BK108.out 7, bc BK108.out 8, (BD HB.out hw113_0), (BD HB.out hw113_1)⟩ (fun hHeld => ?_)
     clear hK K
     refine norm_ (a' := ?_) ?_ ?_
     rotate_left
     ·show Act.put _ (some 40) _ = _
      simp only [pA, pS, pZ, pK, i64_w, i32_w]
      rfl
     refine pu (i := 22) (N := some 41) (v := ?_) (a' := ?_) (bs 8388607 25) rfl rfl HT_ ?_ ?_ ?_
     rotate_left
     ·intro w'
      go_simp
      with_reducible rfl
     rotate_left
     ·simp only [pA, pS, pZ, pK, i64_w, i32_w]
      rfl
     refine pu (i := 23) (N := some 42) (v := ?_) (a' := ?_) (bs 16777215 25) rfl rfl HT_ ?_ ?_ ?_
     rotate_left
     ·intro w'
      go_simp
      with_reducible rfl
     rotate_left
     ·simp only [pA, pS, pZ, pK, i64_w, i32_w]
      rfl
     refine pu (i := 24) (N := some 43) (v := ?_) (a' := ?_) (bs 33554431 25) rfl rfl HT_ ?_ ?_ ?_
     rotate_left
     ·intro w'
      go_simp
      with_reducible rfl
     rotate_left
     ·simp only [pA, pS, pZ, pK, i64_w, i32_w]
      rfl
     refine done_ (done_of HT_.out (by kernel_rfl)) ?_
     try go_wp2
     go_meet
     case rel => exact ⟨_, (!t114), (by first | rfl | (simp; done) | (simp [*]; done)), H', ⟨by have := HK1.out; first | omega | exact Nat.le_refl _⟩, ⟨BH BK108.out⟩, ⟨BH BK110.out⟩, ⟨BT HB.out⟩⟩
    case rest =>
     clear HC5
     try clear c1
     try clear p2
     try clear c7
     try clear c11
     try clear c13
     try clear c14
     try clear c14b0
     try clear c16
     try clear c17
     obtain ⟨kq, x43_4, rfl, HA, HJ4, BK108, BK110, HB⟩ := hcut
     cases kq with
     | zero => exact absurd HA.out (by simp [spec_IsValidTransaction.j1])
     | succ kj4 =>
      have H := HA.out
      clear HA
      simp only [spec_IsValidTransaction.j1] at H
      by_cases c28 : x43_4 = true
      ·subst c28
       have H1 : (some false) = some r := by rw [if_pos rfl] at H; exact H
       clear H
       have H := H1
       clear H1
       obtain rfl := Option.some.inj H
       go_wp2
       go_ret
       exact QT (BT HB.out)
      replace c28 := Bool.eq_false_iff.mpr c28
      subst c28
      have H1 : (spec_IsValidTransaction.l0 kj4 (wrap64 (x3_1 + 1)) a0_0 a0_1 a0_2 a0_3 a0_4 a0_5 a0_6 l0_7 l0_8) = some r := by rw [if_neg (show ¬ (false = true) by decide)] at H; exact H
      clear H
      have H := H1
      clear H1
      have H' := AM_ H
      clear H
      go_wp2
      go_roundg kj4
      case measure => have := HK1.out; have := HJ4.out; omega
      case rel => exact ⟨(wrap64 (x3_1 + 1)), (by first | rfl | (simp; done) | (simp [*]; done)), H', ⟨by have := HK1.out; have := HJ4.out; omega⟩, ⟨BH BK108.out⟩, ⟨BT HB.out⟩⟩
   rw [if_neg c3] at H
   have c3b0 : decide (x3_1 < (l0_7.length : Int)) = false := decide_eq_false c3
   clear c3
   have H' := AM_ H
   clear H
   obtain ⟨hcz29_0, hcz29_1, hcz29_2, hcz29_3, hcz29_4, hcz29_5, hcz29_6, hcz29_7, hcz29_8, hfz29_0, hfz29_1, hfz29_2, hfz29_3, hfz29_4, hfz29_5, hfz29_6, hfz29_7, hfz29_8⟩ := bk9 BK108.out
   go_wp2
   go_loopg [5] k1 (fun kq v5 w' => ∃ (x5_2 : Int), v5 = .int .i64 x5_2 ∧ Aside0 (spec_IsValidTransaction.l1 kq x5_2 a0_0 a0_1 a0_2 a0_3 a0_4 a0_5 a0_6 l0_7 l0_8 = some r) ∧ Aside0 (kq ≤ k1) ∧ Aside0 (w'.heap[gb108]? = some (.cells #[.int .i64 a0_0, .int .i64 a0_1, .int .i64 a0_2, .int .i64 a0_3, .int .i64 a0_4, .int .i64 a0_5, .int .i64 a0_6, (.slice A0_7 l0_7.length c0_7), (.slice A0_8 l0_8.length c0_8)] 73 (0, 0))) ∧ Aside0 (Below w.heap.size w w'))
   case atStart => exact ⟨(0), (by first | rfl | (simp; done) | (simp [*]; done)), H', ⟨Nat.le_refl _⟩, ⟨BH BK108.out⟩, ⟨BT HB.out⟩⟩
   case round =>
    clear H'
    try clear c1
    try clear c2
    try clear p2
    try clear c3
    try clear c3b0
    try clear c4
    try clear p6
    try clear c7
    try clear c11
    try clear c13
    try clear c14
    try clear c14b0
    try clear c16
    try clear c17
    try clear c28
    try clear hcz29_0
    try clear hcz29_1
    try clear hcz29_2
    try clear hcz29_3
    try clear hcz29_4
    try clear hcz29_5
    try clear hcz29_6
    try clear hcz29_7
    try clear hcz29_8
    try clear hfz29_0
    try clear hfz29_1
    try clear hfz29_2
    try clear hfz29_3
    try clear hfz29_4
    try clear hfz29_5
    try clear hfz29_6
    try clear hfz29_7
    try clear hfz29_8
    try clear p2
    obtain ⟨x5_2, rfl, HA, HK2, BK108, HB⟩ := hrel
    cases gk with
    | zero => exact absurd HA.out (by simp [spec_IsValidTransaction.l1])
    | succ k2 =>
     have H := HA.out
     clear HA
     simp only [spec_IsValidTransaction.l1] at H
     by_cases c30 : x5_2 < (l0_8.length : Int)
     rotate_left
     ·rw [if_neg c30] at H
      have c30b0 : decide (x5_2 < (l0_8.length : Int)) = false := decide_eq_false c30
      clear c30
      have HC54 := AM_ H
      clear H
      obtain ⟨hcz55_0, hcz55_1, hcz55_2, hcz55_3, hcz55_4, hcz55_5, hcz55_6, hcz55_7, hcz55_8, hfz55_0, hfz55_1, hfz55_2, hfz55_3, hfz55_4, hfz55_5, hfz55_6, hfz55_7, hfz55_8⟩ := bk9 BK108.out
      go_upto_region 13 with (fail)
      go_cut [97] (fun v97 wc => ∃ (kq : Nat) (x97_53 : Bool), v97 = .bool x97_53 ∧ Aside0 (spec_IsValidTransaction.j4 kq x97_53 a0_0 a0_1 a0_2 a0_3 a0_4 a0_5 a0_6 l0_7 l0_8 = some r) ∧ Aside0 (kq ≤ k2) ∧ Aside0 (wc.heap[gb108]? = some (.cells #[.int .i64 a0_0, .int .i64 a0_1, .int .i64 a0_2, .int .i64 a0_3, .int .i64 a0_4, .int .i64 a0_5, .int .i64 a0_6, (.slice A0_7 l0_7.length c0_7), (.slice A0_8 l0_8.length c0_8)] 73 (0, 0))) ∧ Aside0 (Below w.heap.size w wc))
      case first =>
       have H := HC54.out
       clear HC54
       replace H := Option.bind_eq_some_iff.mp H
       obtain ⟨t120, A560, H⟩ := H
       replace H : (if t120 = true then ((spec_l1In.f a0_1 1 4).bind fun t121 => (if t121 = true then ((spec_l1In.f a0_3 0 999).bind fun t122 => (spec_IsValidTransaction.j4 k2 (!t122) a0_0 a0_1 a0_2 a0_3 a0_4 a0_5 a0_6 l0_7 l0_8)) else (spec_IsValidTransaction.j4 k2 true a0_0 a0_1 a0_2 a0_3 a0_4 a0_5 a0_6 l0_7 l0_8))) else (spec_IsValidTransaction.j4 k2 true a0_0 a0_1 a0_2 a0_3 a0_4 a0_5 a0_6 l0_7 l0_8)) = some r := H
       have A56 := AM_ A560
       clear A560
       by_cases c57 : t120 = true
       rotate_left
       ·replace c57 := Bool.eq_false_iff.mpr c57
        subst c57
        have H1 : (spec_IsValidTransaction.j4 k2 true a0_0 a0_1 a0_2 a0_3 a0_4 a0_5 a0_6 l0_7 l0_8) = some r := by rw [if_neg (show ¬ (false = true) by decide)] at H; exact H
        clear H
        have H := H1
        clear H1
        have H' := AM_ H
        clear H
        obtain ⟨hcz63_0, hcz63_1, hcz63_2, hcz63_3, hcz63_4, hcz63_5, hcz63_6, hcz63_7, hcz63_8, hfz63_0, hfz63_1, hfz63_2, hfz63_3, hfz63_4, hfz63_5, hfz63_6, hfz63_7, hfz63_8⟩ := bk9 BK108.out
        go_wp2_with (first | ((with_reducible refine gate_callee (f := 70) rfl ?_); refine goesL_ (some 84) rfl rfl Tryd.func70 (by kernel_rfl) rfl #[.int .i64 a0_0, .int .i64 1, .int .i64 9] rfl (by (try simp only [List.map_toArray, List.map_cons, List.map_nil]); first | done | rfl | (simp only [List.length_drop, List.length_take]; rfl)) ?_; (with_reducible refine (spec_l1In.calls a0_0 1 9 false _ A56.out).mono ?_); rintro e w' ⟨rfl, ⟨nd, rfl⟩⟩; refine ⟨_, rfl, ?_⟩))
        go_meet
        case rel => exact ⟨_, (true), (by first | rfl | (simp; done) | (simp [*]; done)), H', ⟨by have := HK1.out; have := HK2.out; first | omega | exact Nat.le_refl _⟩, ⟨BH BK108.out⟩, ⟨BT HB.out⟩⟩
       subst c57
       have H1 : ((spec_l1In.f a0_1 1 4).bind fun t121 => (if t121 = true then ((spec_l1In.f a0_3 0 999).bind fun t122 => (spec_IsValidTransaction.j4 k2 (!t122) a0_0 a0_1 a0_2 a0_3 a0_4 a0_5 a0_6 l0_7 l0_8)) else (spec_IsValidTransaction.j4 k2 true a0_0 a0_1 a0_2 a0_3 a0_4 a0_5 a0_6 l0_7 l0_8))) = some r := by rw [if_pos rfl] at H; exact H
       clear H
       have H := H1
       clear H1
       replace H := Option.bind_eq_some_iff.mp H
       obtain ⟨t121, A580, H⟩ := H
       replace H : (if t121 = true then ((spec_l1In.f a0_3 0 999).bind fun t122 => (spec_IsValidTransaction.j4 k2 (!t122) a0_0 a0_1 a0_2 a0_3 a0_4 a0_5 a0_6 l0_7 l0_8)) else (spec_IsValidTransaction.j4 k2 true a0_0 a0_1 a0_2 a0_3 a0_4 a0_5 a0_6 l0_7 l0_8)) = some r := H
       have A58 := AM_ A580
       clear A580
       by_cases c59 : t121 = true
       rotate_left
       ·replace c59 := Bool.eq_false_iff.mpr c59
        subst c59
        have H1 : (spec_IsValidTransaction.j4 k2 true a0_0 a0_1 a0_2 a0_3 a0_4 a0_5 a0_6 l0_7 l0_8) = some r := by rw [if_neg (show ¬ (false = true) by decide)] at H; exact H
        clear H
        have H := H1
        clear H1
        have H' := AM_ H
        clear H
        obtain ⟨hcz62_0, hcz62_1, hcz62_2, hcz62_3, hcz62_4, hcz62_5, hcz62_6, hcz62_7, hcz62_8, hfz62_0, hfz62_1, hfz62_2, hfz62_3, hfz62_4, hfz62_5, hfz62_6, hfz62_7, hfz62_8⟩ := bk9 BK108.out
        go_wp2_with (first | ((with_reducible refine gate_callee (f := 70) rfl ?_); refine goesL_ (some 84) rfl rfl Tryd.func70 (by kernel_rfl) rfl #[.int .i64 a0_0, .int .i64 1, .int .i64 9] rfl (by (try simp only [List.map_toArray, List.map_cons, List.map_nil]); first | done | rfl | (simp only [List.length_drop, List.length_take]; rfl)) ?_; (with_reducible refine (spec_l1In.calls a0_0 1 9 true _ A56.out).mono ?_); rintro e w' ⟨rfl, ⟨nd, rfl⟩⟩; refine ⟨_, rfl, ?_⟩) | (go_at_call 70; (with_reducible refine (spec_l1In.calls a0_1 1 4 false _ A58.out).mono ?_); rintro e w' ⟨rfl, ⟨nd, rfl⟩⟩))
        go_meet
        case rel => exact ⟨_, (true), (by first | rfl | (simp; done) | (simp [*]; done)), H', ⟨by have := HK1.out; have := HK2.out; first | omega | exact Nat.le_refl _⟩, ⟨BH BK108.out⟩, ⟨BT HB.out⟩⟩
       subst c59
       have H1 : ((spec_l1In.f a0_3 0 999).bind fun t122 => (spec_IsValidTransaction.j4 k2 (!t122) a0_0 a0_1 a0_2 a0_3 a0_4 a0_5 a0_6 l0_7 l0_8)) = some r := by rw [if_pos rfl] at H; exact H
       clear H
       have H := H1
       clear H1
       replace H := Option.bind_eq_some_iff.mp H
       obtain ⟨t122, A600, H⟩ := H
       replace H : (spec_IsValidTransaction.j4 k2 (!t122) a0_0 a0_1 a0_2 a0_3 a0_4 a0_5 a0_6 l0_7 l0_8) = some r := H
       have A60 := AM_ A600
       clear A600
       have H' := AM_ H
       clear H
       obtain ⟨hcz61_0, hcz61_1, hcz61_2, hcz61_3, hcz61_4, hcz61_5, hcz61_6, hcz61_7, hcz61_8, hfz61_0, hfz61_1, hfz61_2, hfz61_3, hfz61_4, hfz61_5, hfz61_6, hfz61_7, hfz61_8⟩ := bk9 BK108.out
       go_wp2_with (first | ((with_reducible refine gate_callee (f := 70) rfl ?_); refine goesL_ (some 84) rfl rfl Tryd.func70 (by kernel_rfl) rfl #[.int .i64 a0_0, .int .i64 1, .int .i64 9] rfl (by (try simp only [List.map_toArray, List.map_cons, List.map_nil]); first | done | rfl | (simp only [List.length_drop, List.length_take]; rfl)) ?_; (with_reducible refine (spec_l1In.calls a0_0 1 9 true _ A56.out).mono ?_); rintro e w' ⟨rfl, ⟨nd, rfl⟩⟩; refine ⟨_, rfl, ?_⟩) | (go_at_call 70; (with_reducible refine (spec_l1In.calls a0_1 1 4 true _ A58.out).mono ?_); rintro e w' ⟨rfl, ⟨nd, rfl⟩⟩) | (go_at_call 70; (with_reducible refine (spec_l1In.calls a0_3 0 999 t122 _ A60.out).mono ?_); rintro e w' ⟨rfl, ⟨nd, rfl⟩⟩))
       go_meet
       case rel => exact ⟨_, (!t122), (by first | rfl | (simp; done) | (simp [*]; done)), H', ⟨by have := HK1.out; have := HK2.out; first | omega | exact Nat.le_refl _⟩, ⟨BH BK108.out⟩, ⟨BT HB.out⟩⟩
      case rest =>
       clear HC54
       try clear p2
       try clear c3
       try clear c4
       try clear c5
       try clear p6
       try clear c7
       try clear c30
       try clear c30b0
       try clear c31
       try clear c38
       try clear c40
       try clear c41
       try clear c41b0
       try clear c43
       try clear c44
       try clear c53
       try clear c57
       try clear c59
       try clear hcz55_0
       try clear hcz55_1
       try clear hcz55_2
       try clear hcz55_3
       try clear hcz55_4
       try clear hcz55_5
       try clear hcz55_6
       try clear hcz55_7
       try clear hcz55_8
       try clear hcz61_0
       try clear hcz61_1
       try clear hcz61_2
       try clear hcz61_3
       try clear hcz61_4
       try clear hcz61_5
       try clear hcz61_6
       try clear hcz61_7
       try clear hcz61_8
       try clear hcz62_0
       try clear hcz62_1
       try clear hcz62_2
       try clear hcz62_3
       try clear hcz62_4
       try clear hcz62_5
       try clear hcz62_6
       try clear hcz62_7
       try clear hcz62_8
       try clear hcz63_0
       try clear hcz63_1
       try clear hcz63_2
       try clear hcz63_3
       try clear hcz63_4
       try clear hcz63_5
       try clear hcz63_6
       try clear hcz63_7
       try clear hcz63_8
       try clear hfz55_0
       try clear hfz55_1
       try clear hfz55_2
       try clear hfz55_3
       try clear hfz55_4
       try clear hfz55_5
       try clear hfz55_6
       try clear hfz55_7
       try clear hfz55_8
       try clear hfz61_0
       try clear hfz61_1
       try clear hfz61_2
       try clear hfz61_3
       try clear hfz61_4
       try clear hfz61_5
       try clear hfz61_6
       try clear hfz61_7
       try clear hfz61_8
       try clear hfz62_0
       try clear hfz62_1
       try clear hfz62_2
       try clear hfz62_3
       try clear hfz62_4
       try clear hfz62_5
       try clear hfz62_6
       try clear hfz62_7
       try clear hfz62_8
       try clear hfz63_0
       try clear hfz63_1
       try clear hfz63_2
       try clear hfz63_3
       try clear hfz63_4
       try clear hfz63_5
       try clear hfz63_6
       try clear hfz63_7
       try clear hfz63_8
       try clear p2
       obtain ⟨kq, x97_53, rfl, HA, HJ53, BK108, HB⟩ := hcut
       cases kq with
       | zero => exact absurd HA.out (by simp [spec_IsValidTransaction.j4])
       | succ kj53 =>
        have H := HA.out
        clear HA
        simp only [spec_IsValidTransaction.j4] at H
        by_cases c64 : x97_53 = true
        ·subst c64
         have H1 : (some false) = some r := by rw [if_pos rfl] at H; exact H
         clear H
         have H := H1
         clear H1
         obtain rfl := Option.some.inj H
         go_wp2
         go_ret
         exact QT (BT HB.out)
        replace c64 := Bool.eq_false_iff.mpr c64
        subst c64
        have H1 : ((spec_l1In.f a0_2 1 3).bind fun t123 => (if t123 = true then ((spec_l1In.f a0_4 0 999).bind fun t124 => (if t124 = true then ((spec_l1In.f a0_5 1 1000).bind fun t125 => (if t125 = true then (if ((a0_2 == 2) == (decide (a0_6 > 0))) = true then ((spec_l1In.f a0_6 0 999).bind fun t126 => (if t126 = true then (some (decide ((l0_7.length : Int) ≤ 60))) else (some false))) else (some false)) else (some false))) else (some false))) else (some false))) = some r := by rw [if_neg (show ¬ (false = true) by decide)] at H; exact H
        clear H
        have H := H1
        clear H1
        replace H := Option.bind_eq_some_iff.mp H
        obtain ⟨t123, A650, H⟩ := H
        replace H : (if t123 = true then ((spec_l1In.f a0_4 0 999).bind fun t124 => (if t124 = true then ((spec_l1In.f a0_5 1 1000).bind fun t125 => (if t125 = true then (if ((a0_2 == 2) == (decide (a0_6 > 0))) = true then ((spec_l1In.f a0_6 0 999).bind fun t126 => (if t126 = true then (some (decide ((l0_7.length : Int) ≤ 60))) else (some false))) else (some false)) else (some false))) else (some false))) else (some false)) = some r := H
        have A65 := AM_ A650
        clear A650
        by_cases c66 : t123 = true
        rotate_left
        ·replace c66 := Bool.eq_false_iff.mpr c66
         subst c66
         have H1 : (some false) = some r := by rw [if_neg (show ¬ (false = true) by decide)] at H; exact H
         clear H
         have H := H1
         clear H1
         obtain rfl := Option.some.inj H
         obtain ⟨hcz79_0, hcz79_1, hcz79_2, hcz79_3, hcz79_4, hcz79_5, hcz79_6, hcz79_7, hcz79_8, hfz79_0, hfz79_1, hfz79_2, hfz79_3, hfz79_4, hfz79_5, hfz79_6, hfz79_7, hfz79_8⟩ := bk9 BK108.out
         go_wp2_with (first | ((with_reducible refine gate_callee (f := 70) rfl ?_); refine goesL_ (some 100) rfl rfl Tryd.func70 (by kernel_rfl) rfl #[.int .i64 a0_2, .int .i64 1, .int .i64 3] rfl (by (try simp only [List.map_toArray, List.map_cons, List.map_nil]); first | done | rfl | (simp only [List.length_drop, List.length_take]; rfl)) ?_; (with_reducible refine (spec_l1In.calls a0_2 1 3 false _ A65.out).mono ?_); rintro e w' ⟨rfl, ⟨nd, rfl⟩⟩; refine ⟨_, rfl, ?_⟩))
         go_ret
         exact QT (BT HB.out)
        subst c66
        have H1 : ((spec_l1In.f a0_4 0 999).bind fun t124 => (if t124 = true then ((spec_l1In.f a0_5 1 1000).bind fun t125 => (if t125 = true then (if ((a0_2 == 2) == (decide (a0_6 > 0))) = true then ((spec_l1In.f a0_6 0 999).bind fun t126 => (if t126 = true then (some (decide ((l0_7.length : Int) ≤ 60))) else (some false))) else (some false)) else (some false))) else (some false))) = some r := by rw [if_pos rfl] at H; exact H
        clear H
        have H := H1
        clear H1
        replace H := Option.bind_eq_some_iff.mp H
        obtain ⟨t124, A670, H⟩ := H
        replace H : (if t124 = true then ((spec_l1In.f a0_5 1 1000).bind fun t125 => (if t125 = true then (if ((a0_2 == 2) == (decide (a0_6 > 0))) = true then ((spec_l1In.f a0_6 0 999).bind fun t126 => (if t126 = true then (some (decide ((l0_7.length : Int) ≤ 60))) else (some false))) else (some false)) else (some false))) else (some false)) = some r := H
        have A67 := AM_ A670
        clear A670
        by_cases c68 : t124 = true
        rotate_left
        ·replace c68 := Bool.eq_false_iff.mpr c68
         subst c68
         have H1 : (some false) = some r := by rw [if_neg (show ¬ (false = true) by decide)] at H; exact H
         clear H
         have H := H1
         clear H1
         obtain rfl := Option.some.inj H
         obtain ⟨hcz78_0, hcz78_1, hcz78_2, hcz78_3, hcz78_4, hcz78_5, hcz78_6, hcz78_7, hcz78_8, hfz78_0, hfz78_1, hfz78_2, hfz78_3, hfz78_4, hfz78_5, hfz78_6, hfz78_7, hfz78_8⟩ := bk9 BK108.out
         go_wp2_with (first | ((with_reducible refine gate_callee (f := 70) rfl ?_); refine goesL_ (some 100) rfl rfl Tryd.func70 (by kernel_rfl) rfl #[.int .i64 a0_2, .int .i64 1, .int .i64 3] rfl (by (try simp only [List.map_toArray, List.map_cons, List.map_nil]); first | done | rfl | (simp only [List.length_drop, List.length_take]; rfl)) ?_; (with_reducible refine (spec_l1In.calls a0_2 1 3 true _ A65.out).mono ?_); rintro e w' ⟨rfl, ⟨nd, rfl⟩⟩; refine ⟨_, rfl, ?_⟩) | (go_at_call 70; (with_reducible refine (spec_l1In.calls a0_4 0 999 false _ A67.out).mono ?_); rintro e w' ⟨rfl, ⟨nd, rfl⟩⟩))
         go_ret
         exact QT (BT HB.out)
        subst c68
        have H1 : ((spec_l1In.f a0_5 1 1000).bind fun t125 => (if t125 = true then (if ((a0_2 == 2) == (decide (a0_6 > 0))) = true then ((spec_l1In.f a0_6 0 999).bind fun t126 => (if t126 = true then (some (decide ((l0_7.length : Int) ≤ 60))) else (some false))) else (some false)) else (some false))) = some r := by rw [if_pos rfl] at H; exact H
        clear H
        have H := H1
        clear H1
        replace H := Option.bind_eq_some_iff.mp H
        obtain ⟨t125, A690, H⟩ := H
        replace H : (if t125 = true then (if ((a0_2 == 2) == (decide (a0_6 > 0))) = true then ((spec_l1In.f a0_6 0 999).bind fun t126 => (if t126 = true then (some (decide ((l0_7.length : Int) ≤ 60))) else (some false))) else (some false)) else (some false)) = some r := H
        have A69 := AM_ A690
        clear A690
        by_cases c70 : t125 = true
        rotate_left
        ·replace c70 := Bool.eq_false_iff.mpr c70
         subst c70
         have H1 : (some false) = some r := by rw [if_neg (show ¬ (false = true) by decide)] at H; exact H
         clear H
         have H := H1
         clear H1
         obtain rfl := Option.some.inj H
         obtain ⟨hcz77_0, hcz77_1, hcz77_2, hcz77_3, hcz77_4, hcz77_5, hcz77_6, hcz77_7, hcz77_8, hfz77_0, hfz77_1, hfz77_2, hfz77_3, hfz77_4, hfz77_5, hfz77_6, hfz77_7, hfz77_8⟩ := bk9 BK108.out
         go_wp2_with (first | ((with_reducible refine gate_callee (f := 70) rfl ?_); refine goesL_ (some 100) rfl rfl Tryd.func70 (by kernel_rfl) rfl #[.int .i64 a0_2, .int .i64 1, .int .i64 3] rfl (by (try simp only [List.map_toArray, List.map_cons, List.map_nil]); first | done | rfl | (simp only [List.length_drop, List.length_take]; rfl)) ?_; (with_reducible refine (spec_l1In.calls a0_2 1 3 true _ A65.out).mono ?_); rintro e w' ⟨rfl, ⟨nd, rfl⟩⟩; refine ⟨_, rfl, ?_⟩) | (go_at_call 70; (with_reducible refine (spec_l1In.calls a0_4 0 999 true _ A67.out).mono ?_); rintro e w' ⟨rfl, ⟨nd, rfl⟩⟩) | (go_at_call 70; (with_reducible refine (spec_l1In.calls a0_5 1 1000 false _ A69.out).mono ?_); rintro e w' ⟨rfl, ⟨nd, rfl⟩⟩))
         go_ret
         exact QT (BT HB.out)
        subst c70
        have H1 : (if ((a0_2 == 2) == (decide (a0_6 > 0))) = true then ((spec_l1In.f a0_6 0 999).bind fun t126 => (if t126 = true then (some (decide ((l0_7.length : Int) ≤ 60))) else (some false))) else (some false)) = some r := by rw [if_pos rfl] at H; exact H
        clear H
        have H := H1
        clear H1
        by_cases c71 : ((a0_2 == 2) == (decide (a0_6 > 0))) = true
        rotate_left
        ·rw [if_neg c71] at H
         have c71b0 : ((a0_2 == 2) == (decide (a0_6 > 0))) = false := by simpa using c71
         (try (have c71b1 : decide ((a0_2 == 2) = (decide (a0_6 > 0))) = false := by simpa using c71))
         (try (have c71b2 : ((a0_2 == 2) == (decide (a0_6 > 0))) = false := by simpa using c71))
         (try (have c71b3 : ¬ ((a0_2 == 2) = (decide (a0_6 > 0))) := by simpa using c71))
         clear c71
         obtain rfl := Option.some.inj H
         obtain ⟨hcz76_0, hcz76_1, hcz76_2, hcz76_3, hcz76_4, hcz76_5, hcz76_6, hcz76_7, hcz76_8, hfz76_0, hfz76_1, hfz76_2, hfz76_3, hfz76_4, hfz76_5, hfz76_6, hfz76_7, hfz76_8⟩ := bk9 BK108.out
         go_wp2_with (first | ((with_reducible refine gate_callee (f := 70) rfl ?_); refine goesL_ (some 100) rfl rfl Tryd.func70 (by kernel_rfl) rfl #[.int .i64 a0_2, .int .i64 1, .int .i64 3] rfl (by (try simp only [List.map_toArray, List.map_cons, List.map_nil]); first | done | rfl | (simp only [List.length_drop, List.length_take]; rfl)) ?_; (with_reducible refine (spec_l1In.calls a0_2 1 3 true _ A65.out).mono ?_); rintro e w' ⟨rfl, ⟨nd, rfl⟩⟩; refine ⟨_, rfl, ?_⟩) | (go_at_call 70; (with_reducible refine (spec_l1In.calls a0_4 0 999 true _ A67.out).mono ?_); rintro e w' ⟨rfl, ⟨nd, rfl⟩⟩) | (go_at_call 70; (with_reducible refine (spec_l1In.calls a0_5 1 1000 true _ A69.out).mono ?_); rintro e w' ⟨rfl, ⟨nd, rfl⟩⟩))
         go_ret
         exact QT (BT HB.out)
        rw [if_pos c71] at H
        have c71b0 : ((a0_2 == 2) == (decide (a0_6 > 0))) = true := c71
        (try (have c71b1 : decide ((a0_2 == 2) = (decide (a0_6 > 0))) = true := by simpa using c71))
        (try (have c71b2 : ((a0_2 == 2) == (decide (a0_6 > 0))) = true := by simpa using c71))
        clear c71
        replace H := Option.bind_eq_some_iff.mp H
        obtain ⟨t126, A720, H⟩ := H
        replace H : (if t126 = true then (some (decide ((l0_7.length : Int) ≤ 60))) else (some false)) = some r := H
        have A72 := AM_ A720
        clear A720
        by_cases c73 : t126 = true
        ·subst c73
         have H1 : (some (decide ((l0_7.length : Int) ≤ 60))) = some r := by rw [if_pos rfl] at H; exact H
         clear H
         have H := H1
         clear H1
         obtain rfl := Option.some.inj H
         obtain ⟨hcz74_0, hcz74_1, hcz74_2, hcz74_3, hcz74_4, hcz74_5, hcz74_6, hcz74_7, hcz74_8, hfz74_0, hfz74_1, hfz74_2, hfz74_3, hfz74_4, hfz74_5, hfz74_6, hfz74_7, hfz74_8⟩ := bk9 BK108.out
         go_wp2_with (first | ((with_reducible refine gate_callee (f := 70) rfl ?_); refine goesL_ (some 100) rfl rfl Tryd.func70 (by kernel_rfl) rfl #[.int .i64 a0_2, .int .i64 1, .int .i64 3] rfl (by (try simp only [List.map_toArray, List.map_cons, List.map_nil]); first | done | rfl | (simp only [List.length_drop, List.length_take]; rfl)) ?_; (with_reducible refine (spec_l1In.calls a0_2 1 3 true _ A65.out).mono ?_); rintro e w' ⟨rfl, ⟨nd, rfl⟩⟩; refine ⟨_, rfl, ?_⟩) | (go_at_call 70; (with_reducible refine (spec_l1In.calls a0_4 0 999 true _ A67.out).mono ?_); rintro e w' ⟨rfl, ⟨nd, rfl⟩⟩) | (go_at_call 70; (with_reducible refine (spec_l1In.calls a0_5 1 1000 true _ A69.out).mono ?_); rintro e w' ⟨rfl, ⟨nd, rfl⟩⟩) | (go_at_call 70; (with_reducible refine (spec_l1In.calls a0_6 0 999 true _ A72.out).mono ?_); rintro e w' ⟨rfl, ⟨nd, rfl⟩⟩))
         go_ret
         exact QT (BT HB.out)
        replace c73 := Bool.eq_false_iff.mpr c73
        subst c73
        have H1 : (some false) = some r := by rw [if_neg (show ¬ (false = true) by decide)] at H; exact H
        clear H
        have H := H1
        clear H1
        obtain rfl := Option.some.inj H
        obtain ⟨hcz75_0, hcz75_1, hcz75_2, hcz75_3, hcz75_4, hcz75_5, hcz75_6, hcz75_7, hcz75_8, hfz75_0, hfz75_1, hfz75_2, hfz75_3, hfz75_4, hfz75_5, hfz75_6, hfz75_7, hfz75_8⟩ := bk9 BK108.out
        go_wp2_with (first | ((with_reducible refine gate_callee (f := 70) rfl ?_); refine goesL_ (some 100) rfl rfl Tryd.func70 (by kernel_rfl) rfl #[.int .i64 a0_2, .int .i64 1, .int .i64 3] rfl (by (try simp only [List.map_toArray, List.map_cons, List.map_nil]); first | done | rfl | (simp only [List.length_drop, List.length_take]; rfl)) ?_; (with_reducible refine (spec_l1In.calls a0_2 1 3 true _ A65.out).mono ?_); rintro e w' ⟨rfl, ⟨nd, rfl⟩⟩; refine ⟨_, rfl, ?_⟩) | (go_at_call 70; (with_reducible refine (spec_l1In.calls a0_4 0 999 true _ A67.out).mono ?_); rintro e w' ⟨rfl, ⟨nd, rfl⟩⟩) | (go_at_call 70; (with_reducible refine (spec_l1In.calls a0_5 1 1000 true _ A69.out).mono ?_); rintro e w' ⟨rfl, ⟨nd, rfl⟩⟩) | (go_at_call 70; (with_reducible refine (spec_l1In.calls a0_6 0 999 false _ A72.out).mono ?_); rintro e w' ⟨rfl, ⟨nd, rfl⟩⟩))
        go_ret
        exact QT (BT HB.out)
     rw [if_pos c30] at H
     have c30b0 : decide (x5_2 < (l0_8.length : Int)) = true := decide_eq_true c30
     clear c30
     by_cases c31 : 0 ≤ x5_2
     rotate_left
     ·rw [if_neg c31] at H
      exact absurd H (by simp)
     rw [if_pos c31] at H
     have c31b0 : decide (0 ≤ x5_2) = true := decide_eq_true c31
     clear c31
     have HC32 := AM_ H
     clear H
     obtain ⟨hcz33_0, hcz33_1, hcz33_2, hcz33_3, hcz33_4, hcz33_5, hcz33_6, hcz33_7, hcz33_8, hfz33_0, hfz33_1, hfz33_2, hfz33_3, hfz33_4, hfz33_5, hfz33_6, hfz33_7, hfz33_8⟩ := bk9 BK108.out
     have p115 : 0 ≤ (x5_2 : Int) := DT
     have q115 : x5_2 < (l0_8.length : Int) := DT
     obtain ⟨ad115, e115, hx115_0, hx115_1⟩ := at_T57 HR0_8.out x5_2 p115 q115
     cases e115
     replace hx115_0 := BC HB.out hx115_0
     replace hx115_1 := BC HB.out hx115_1
     replace p115 := eq_true p115
     replace q115 := eq_true q115
     go_upto_region 11 with (first | ((with_reducible refine gate_dst (N := 6) rfl ?_); (try (refine gate_guard (by rfl) ?_; dsimp only)); refine box_event ?hg (N := 6) ?hd (cs := #[.int .i64 0, .int .i64 0]) (t := 57) ?hr ?_; (case hd => rfl); (case hg => rfl); (case hr => first | (go_simp; done) | (go_simp; rfl)); intro gb116 hg w34 hbox hb; have BK116 := AM_ (hbox); have GW116 := AM_ ((GS HB.out hg)); have GE116 := AM_ ((GS HB.out hg)); replace HB := AM_ (below_step (BT HB.out) hb); have NB108_116 := AM_ ((NL BK108.out hg)); have NB116_108 := AM_ ((NG BK108.out hg)); replace BK108 := AM_ (BB BK108.out hb); clear hb hbox hg; have hnb35 := NB116_108.out; have hnc35 := NB108_116.out; obtain ⟨hcz36_0, hcz36_1, hfz36_0, hfz36_1⟩ := bk2 BK116.out))
     (try simp only [pA, pS, pZ, pK])
     go_cut [81] (fun v81 wc => ∃ (kq : Nat) (x81_31 : Bool), v81 = .bool x81_31 ∧ Aside0 (spec_IsValidTransaction.j3 kq x5_2 x81_31 a0_0 a0_1 a0_2 a0_3 a0_4 a0_5 a0_6 l0_7 l0_8 = some r) ∧ Aside0 (kq ≤ k2) ∧ Aside0 (wc.heap[gb108]? = some (.cells #[.int .i64 a0_0, .int .i64 a0_1, .int .i64 a0_2, .int .i64 a0_3, .int .i64 a0_4, .int .i64 a0_5, .int .i64 a0_6, (.slice A0_7 l0_7.length c0_7), (.slice (some ad115) l0_8.length c0_8)] 73 (0, 0))) ∧ Aside0 (wc.heap[gb116]? = some (.cells #[.int .i64 ((rd_T57 l0_8 x5_2).f0), .int .i64 ((rd_T57 l0_8 x5_2).f1)] 57 (0, 0))) ∧ Aside0 (Below w.heap.size w wc))
     case first =>
      have H := HC32.out
      clear HC32
      replace H := Option.bind_eq_some_iff.mp H
      obtain ⟨t117, A370, H⟩ := H
      replace H : (if t117 = true then ((spec_l1In.f ((rd_T57 l0_8 x5_2).f1) (-1) 99).bind fun t118 => (if t118 = true then (if x5_2 > 0 then (if 0 ≤ (wrap64 (x5_2 - 1)) then (if (wrap64 (x5_2 - 1)) < (l0_8.length : Int) then (spec_IsValidTransaction.j3 k2 x5_2 (decide (((rd_T57 l0_8 (wrap64 (x5_2 - 1))).f0) ≥ ((rd_T57 l0_8 x5_2).f0))) a0_0 a0_1 a0_2 a0_3 a0_4 a0_5 a0_6 l0_7 l0_8) else (none)) else (none)) else (spec_IsValidTransaction.j3 k2 x5_2 false a0_0 a0_1 a0_2 a0_3 a0_4 a0_5 a0_6 l0_7 l0_8)) else (spec_IsValidTransaction.j3 k2 x5_2 true a0_0 a0_1 a0_2 a0_3 a0_4 a0_5 a0_6 l0_7 l0_8))) else (spec_IsValidTransaction.j3 k2 x5_2 true a0_0 a0_1 a0_2 a0_3 a0_4 a0_5 a0_6 l0_7 l0_8)) = some r := H
      have A37 := AM_ A370
      clear A370
      by_cases c38 : t117 = true
      rotate_left
      ·replace c38 := Bool.eq_false_iff.mpr c38
       subst c38
       have H1 : (spec_IsValidTransaction.j3 k2 x5_2 true a0_0 a0_1 a0_2 a0_3 a0_4 a0_5 a0_6 l0_7 l0_8) = some r := by rw [if_neg (show ¬ (false = true) by decide)] at H; exact H
       clear H
       have H := H1
       clear H1
       have H' := AM_ H
       clear H
       try go_wp2
       have n0_ : Aside0 (((w34.setCell ⟨gb116, 0, none⟩ (.int .i64 ((rd_T57 l0_8 x5_2).f0))).setCell ⟨gb116, 1, none⟩ (.int .i64 ((rd_T57 l0_8 x5_2).f1))).heap[gb108]? = some (.cells #[.int .i64 a0_0, .int .i64 a0_1, .int .i64 a0_2, .int .i64 a0_3, .int .i64 a0_4, .int .i64 a0_5, .int .i64 a0_6, .slice A0_7 l0_7.length c0_7, .slice (some ad115) l0_8.length c0_8] 73 (0, 0))) := ⟨BG BK108.out NB108_116.out⟩
       have n1_ : Aside0 (((w34.setCell ⟨gb116, 0, none⟩ (.int .i64 ((rd_T57 l0_8 x5_2).f0))).setCell ⟨gb116, 1, none⟩ (.int .i64 ((rd_T57 l0_8 x5_2).f1))).heap[gb116]? = some (.cells #[.int .i64 ((rd_T57 l0_8 x5_2).f0), .int .i64 ((rd_T57 l0_8 x5_2).f1)] 57 (0, 0))) := ⟨BQ BK116.out⟩
       have n2_ : Aside0 (Below w.heap.size w ((w34.setCell ⟨gb116, 0, none⟩ (.int .i64 ((rd_T57 l0_8 x5_2).f0))).setCell ⟨gb116, 1, none⟩ (.int .i64 ((rd_T57 l0_8 x5_2).f1)))) := ⟨BT HB.out⟩
       (try clear BK108)
       (try clear BK116)
       (try clear HB)
       generalize ((w34.setCell ⟨gb116, 0, none⟩ (.int .i64 ((rd_T57 l0_8 x5_2).f0))).setCell ⟨gb116, 1, none⟩ (.int .i64 ((rd_T57 l0_8 x5_2).f1))) = w51 at n0_ n1_ n2_ ⊢
       have BK108 := n0_
       have BK116 := n1_
       have HB := n2_
       clear n0_ n1_ n2_
       replace BK108 := AM_ (blk_drew BK108.out)
       replace BK116 := AM_ (blk_drew BK116.out)
       replace HB := AM_ (below_drew1 HB.out)
       refine start_ (n := 26) (S := fun w' => w'.cell? ⟨gb116, 0, none⟩ = some (.int .i64 ((rd_T57 l0_8 x5_2).f0)) ∧ w'.cell? ⟨gb116, 1, none⟩ = some (.int .i64 ((rd_T57 l0_8 x5_2).f1))) (ds := []) (bs 0 26) (by kernel_rfl) rfl rfl ⟨bc BK116.out 0, bc BK116.out 1⟩ (fun hHeld => ?_); refine with_tabW spec_IsValidTransaction.tab11 spec_IsValidTransaction.bits11 (fun HT_ HW_ => ?_)
       generalize w51.drew = w52 at BK108 BK116 HB hHeld ⊢
       refine pu (i := 0) (N := some 56) (v := ?_) (a' := ?_) (bs 1 26) rfl rfl HT_ ?_ ?_ ?_
       rotate_left
       ·intro w'
        go_simp
        with_reducible rfl
       rotate_left
       ·simp only [pA, pS, pZ, pK, i64_w, i32_w]
        rfl
       refine tk (i := 1) (N := some 57) (v := ?_) (a' := ?_) (bs 3 26) rfl rfl HT_ HW_ ?_ hHeld ?_ ?_
       rotate_left
       ·rintro w' ⟨s0, s1⟩
        go_simp
        with_reducible rfl
       rotate_left
       ·simp only [pA, pS, pZ, pK, i64_w, i32_w]
        rfl
       refine one_ (i := 2) (N := some 58) (bs 7 26) rfl rfl (one_of HT_.out (by kernel_rfl)) (by decide) (fun K hK => ?_)
       refine goes_ Tryd.func70 (by kernel_rfl) rfl #[.int .i64 ((rd_T57 l0_8 x5_2).f0), .int .i64 0, .int .i64 5] (by rfl) rfl rfl (by (try simp only [List.map_toArray, List.map_cons, List.map_nil]); first | done | rfl | (simp only [List.length_drop, List.length_take]; rfl)) ?_
       with_reducible refine (spec_l1In.calls ((rd_T57 l0_8 x5_2).f0) 0 5 false _ A37.out).mono ?_
       rintro e w' ⟨rfl, ⟨nd, rfl⟩⟩
       refine ⟨_, rfl, ?_⟩
       refine hK.out _ _ ⟨bc BK116.out 0, bc BK116.out 1⟩ (fun hHeld => ?_)
       clear hK K
       refine norm_ (a' := ?_) ?_ ?_
       rotate_left
       ·show Act.put _ (some 58) _ = _
        simp only [pA, pS, pZ, pK, i64_w, i32_w]
        rfl
       refine pu (i := 3) (N := some 59) (v := ?_) (a' := ?_) (bs 15 26) rfl rfl HT_ ?_ ?_ ?_
       rotate_left
       ·intro w'
        go_simp
        with_reducible rfl
       rotate_left
       ·simp only [pA, pS, pZ, pK, i64_w, i32_w]
        rfl
       refine pu (i := 4) (N := some 60) (v := ?_) (a' := ?_) (bs 31 26) rfl rfl HT_ ?_ ?_ ?_
       rotate_left
       ·intro w'
        go_simp
        with_reducible rfl
       rotate_left
       ·simp only [pA, pS, pZ, pK, i64_w, i32_w]
        rfl
       refine pn (i := 5) (N := some 61) (v := undef) (a' := ?_) (bs 63 26) rfl rfl HT_ ?_ ?_
       rotate_left
       ·simp only [pA, pS, pZ, pK, i64_w, i32_w]
        rfl
       refine pn (i := 6) (N := some 62) (v := undef) (a' := ?_) (bs 127 26) rfl rfl HT_ ?_ ?_
       rotate_left
       ·simp only [pA, pS, pZ, pK, i64_w, i32_w]
        rfl
       refine pn (i := 7) (N := some 63) (v := undef) (a' := ?_) (bs 255 26) rfl rfl HT_ ?_ ?_
       rotate_left
       ·simp only [pA, pS, pZ, pK, i64_w, i32_w]
        rfl
       refine pn (i := 8) (N := some 64) (v := undef) (a' := ?_) (bs 511 26) rfl rfl HT_ ?_ ?_
       rotate_left
       ·simp only [pA, pS, pZ, pK, i64_w, i32_w]
        rfl
       refine pu (i := 9) (N := some 65) (v := ?_) (a' := ?_) (bs 1023 26) rfl rfl HT_ ?_ ?_ ?_
       rotate_left
       ·intro w'
        go_simp
        with_reducible rfl
       rotate_left
       ·simp only [pA, pS, pZ, pK, i64_w, i32_w]
        rfl
       refine pu (i := 10) (N := some 66) (v := ?_) (a' := ?_) (bs 2047 26) rfl rfl HT_ ?_ ?_ ?_
       rotate_left
       ·intro w'
        go_simp
        with_reducible rfl
       rotate_left
       ·simp only [pA, pS, pZ, pK, i64_w, i32_w]
        rfl
       refine pn (i := 11) (N := some 67) (v := undef) (a' := ?_) (bs 4095 26) rfl rfl HT_ ?_ ?_
       rotate_left
       ·simp only [pA, pS, pZ, pK, i64_w, i32_w]
        rfl
       refine pn (i := 12) (N := some 68) (v := undef) (a' := ?_) (bs 8191 26) rfl rfl HT_ ?_ ?_
       rotate_left
       ·simp only [pA, pS, pZ, pK, i64_w, i32_w]
        rfl
       refine pn (i := 13) (N := some 69) (v := undef) (a' := ?_) (bs 16383 26) rfl rfl HT_ ?_ ?_
       rotate_left
       ·simp only [pA, pS, pZ, pK, i64_w, i32_w]
        rfl
       refine pn (i := 14) (N := some 70) (v := undef) (a' := ?_) (bs 32767 26) rfl rfl HT_ ?_ ?_
       rotate_left
       ·simp only [pA, pS, pZ, pK, i64_w, i32_w]
        rfl
       refine pn (i := 15) (N := some 71) (v := undef) (a' := ?_) (bs 65535 26) rfl rfl HT_ ?_ ?_
       rotate_left
       ·simp only [pA, pS, pZ, pK, i64_w, i32_w]
        rfl
       refine pn (i := 16) (N := some 72) (v := undef) (a' := ?_) (bs 131071 26) rfl rfl HT_ ?_ ?_
       rotate_left
       ·simp only [pA, pS, pZ, pK, i64_w, i32_w]
        rfl
       refine pn (i := 17) (N := some 73) (v := undef) (a' := ?_) (bs 262143 26) rfl rfl HT_ ?_ ?_
       rotate_left
       ·simp only [pA, pS, pZ, pK, i64_w, i32_w]
        rfl
       refine pn (i := 18) (N := some 74) (v := undef) (a' := ?_) (bs 524287 26) rfl rfl HT_ ?_ ?_
       rotate_left
       ·simp only [pA, pS, pZ, pK, i64_w, i32_w]
        rfl
       refine pn (i := 19) (N := some 75) (v := undef) (a' := ?_) (bs 1048575 26) rfl rfl HT_ ?_ ?_
       rotate_left
       ·simp only [pA, pS, pZ, pK, i64_w, i32_w]
        rfl
       refine pn (i := 20) (N := some 76) (v := undef) (a' := ?_) (bs 2097151 26) rfl rfl HT_ ?_ ?_
       rotate_left
       ·simp only [pA, pS, pZ, pK, i64_w, i32_w]
        rfl
       refine pn (i := 21) (N := some 77) (v := undef) (a' := ?_) (bs 4194303 26) rfl rfl HT_ ?_ ?_
       rotate_left
       ·simp only [pA, pS, pZ, pK, i64_w, i32_w]
        rfl
       refine pn (i := 22) (N := some 78) (v := undef) (a' := ?_) (bs 8388607 26) rfl rfl HT_ ?_ ?_
       rotate_left
       ·simp only [pA, pS, pZ, pK, i64_w, i32_w]
        rfl
       refine pn (i := 23) (N := some 79) (v := undef) (a' := ?_) (bs 16777215 26) rfl rfl HT_ ?_ ?_
       rotate_left
       ·simp only [pA, pS, pZ, pK, i64_w, i32_w]
        rfl
       refine pn (i := 24) (N := some 80) (v := undef) (a' := ?_) (bs 33554431 26) rfl rfl HT_ ?_ ?_
       rotate_left
       ·simp only [pA, pS, pZ, pK, i64_w, i32_w]
        rfl
       refine pu (i := 25) (N := some 81) (v := ?_) (a' := ?_) (bs 67108863 26) rfl rfl HT_ ?_ ?_ ?_
       rotate_left
       ·intro w'
        go_simp
        with_reducible rfl
       rotate_left
       ·simp only [pA, pS, pZ, pK, i64_w, i32_w]
        rfl
       refine done_ (done_of HT_.out (by kernel_rfl)) ?_
       try go_wp2
       go_meet
       case rel => exact ⟨_, (true), (by first | rfl | (simp; done) | (simp [*]; done)), H', ⟨by have := HK1.out; have := HK2.out; first | omega | exact Nat.le_refl _⟩, ⟨BH BK108.out⟩, ⟨BH BK116.out⟩, ⟨BT HB.out⟩⟩
      subst c38
      have H1 : ((spec_l1In.f ((rd_T57 l0_8 x5_2).f1) (-1) 99).bind fun t118 => (if t118 = true then (if x5_2 > 0 then (if 0 ≤ (wrap64 (x5_2 - 1)) then (if (wrap64 (x5_2 - 1)) < (l0_8.length : Int) then (spec_IsValidTransaction.j3 k2 x5_2 (decide (((rd_T57 l0_8 (wrap64 (x5_2 - 1))).f0) ≥ ((rd_T57 l0_8 x5_2).f0))) a0_0 a0_1 a0_2 a0_3 a0_4 a0_5 a0_6 l0_7 l0_8) else (none)) else (none)) else (spec_IsValidTransaction.j3 k2 x5_2 false a0_0 a0_1 a0_2 a0_3 a0_4 a0_5 a0_6 l0_7 l0_8)) else (spec_IsValidTransaction.j3 k2 x5_2 true a0_0 a0_1 a0_2 a0_3 a0_4 a0_5 a0_6 l0_7 l0_8))) = some r := by rw [if_pos rfl] at H; exact H
      clear H
      have H := H1
      clear H1
      replace H := Option.bind_eq_some_iff.mp H
      obtain ⟨t118, A390, H⟩ := H
      replace H : (if t118 = true then (if x5_2 > 0 then (if 0 ≤ (wrap64 (x5_2 - 1)) then (if (wrap64 (x5_2 - 1)) < (l0_8.length : Int) then (spec_IsValidTransaction.j3 k2 x5_2 (decide (((rd_T57 l0_8 (wrap64 (x5_2 - 1))).f0) ≥ ((rd_T57 l0_8 x5_2).f0))) a0_0 a0_1 a0_2 a0_3 a0_4 a0_5 a0_6 l0_7 l0_8) else (none)) else (none)) else (spec_IsValidTransaction.j3 k2 x5_2 false a0_0 a0_1 a0_2 a0_3 a0_4 a0_5 a0_6 l0_7 l0_8)) else (spec_IsValidTransaction.j3 k2 x5_2 true a0_0 a0_1 a0_2 a0_3 a0_4 a0_5 a0_6 l0_7 l0_8)) = some r := H
      have A39 := AM_ A390
      clear A390
      by_cases c40 : t118 = true
      rotate_left
      ·replace c40 := Bool.eq_false_iff.mpr c40
       subst c40
       have H1 : (spec_IsValidTransaction.j3 k2 x5_2 true a0_0 a0_1 a0_2 a0_3 a0_4 a0_5 a0_6 l0_7 l0_8) = some r := by rw [if_neg (show ¬ (false = true) by decide)] at H; exact H
       clear H
       have H := H1
       clear H1
       have H' := AM_ H
       clear H
       try go_wp2
       have n0_ : Aside0 (((w34.setCell ⟨gb116, 0, none⟩ (.int .i64 ((rd_T57 l0_8 x5_2).f0))).setCell ⟨gb116, 1, none⟩ (.int .i64 ((rd_T57 l0_8 x5_2).f1))).heap[gb108]? = some (.cells #[.int .i64 a0_0, .int .i64 a0_1, .int .i64 a0_2, .int .i64 a0_3, .int .i64 a0_4, .int .i64 a0_5, .int .i64 a0_6, .slice A0_7 l0_7.length c0_7, .slice (some ad115) l0_8.length c0_8] 73 (0, 0))) := ⟨BG BK108.out NB108_116.out⟩
       have n1_ : Aside0 (((w34.setCell ⟨gb116, 0, none⟩ (.int .i64 ((rd_T57 l0_8 x5_2).f0))).setCell ⟨gb116, 1, none⟩ (.int .i64 ((rd_T57 l0_8 x5_2).f1))).heap[gb116]? = some (.cells #[.int .i64 ((rd_T57 l0_8 x5_2).f0), .int .i64 ((rd_T57 l0_8 x5_2).f1)] 57 (0, 0))) := ⟨BQ BK116.out⟩
       have n2_ : Aside0 (Below w.heap.size w ((w34.setCell ⟨gb116, 0, none⟩ (.int .i64 ((rd_T57 l0_8 x5_2).f0))).setCell ⟨gb116, 1, none⟩ (.int .i64 ((rd_T57 l0_8 x5_2).f1)))) := ⟨BT HB.out⟩
       (try clear BK108)
       (try clear BK116)
       (try clear HB)
       generalize ((w34.setCell ⟨gb116, 0, none⟩ (.int .i64 ((rd_T57 l0_8 x5_2).f0))).setCell ⟨gb116, 1, none⟩ (.int .i64 ((rd_T57 l0_8 x5_2).f1))) = w49 at n0_ n1_ n2_ ⊢
       have BK108 := n0_
       have BK116 := n1_
       have HB := n2_
       clear n0_ n1_ n2_
       replace BK108 := AM_ (blk_drew BK108.out)
       replace BK116 := AM_ (blk_drew BK116.out)
       replace HB := AM_ (below_drew1 HB.out)
       refine start_ (n := 26) (S := fun w' => w'.cell? ⟨gb116, 0, none⟩ = some (.int .i64 ((rd_T57 l0_8 x5_2).f0)) ∧ w'.cell? ⟨gb116, 1, none⟩ = some (.int .i64 ((rd_T57 l0_8 x5_2).f1))) (ds := []) (bs 0 26) (by kernel_rfl) rfl rfl ⟨bc BK116.out 0, bc BK116.out 1⟩ (fun hHeld => ?_); refine with_tabW spec_IsValidTransaction.tab11 spec_IsValidTransaction.bits11 (fun HT_ HW_ => ?_)
       generalize w49.drew = w50 at BK108 BK116 HB hHeld ⊢
       refine pu (i := 0) (N := some 56) (v := ?_) (a' := ?_) (bs 1 26) rfl rfl HT_ ?_ ?_ ?_
       rotate_left
       ·intro w'
        go_simp
        with_reducible rfl
       rotate_left
       ·simp only [pA, pS, pZ, pK, i64_w, i32_w]
        rfl
       refine tk (i := 1) (N := some 57) (v := ?_) (a' := ?_) (bs 3 26) rfl rfl HT_ HW_ ?_ hHeld ?_ ?_
       rotate_left
       ·rintro w' ⟨s0, s1⟩
        go_simp
        with_reducible rfl
       rotate_left
       ·simp only [pA, pS, pZ, pK, i64_w, i32_w]
        rfl
       refine one_ (i := 2) (N := some 58) (bs 7 26) rfl rfl (one_of HT_.out (by kernel_rfl)) (by decide) (fun K hK => ?_)
       refine goes_ Tryd.func70 (by kernel_rfl) rfl #[.int .i64 ((rd_T57 l0_8 x5_2).f0), .int .i64 0, .int .i64 5] (by rfl) rfl rfl (by (try simp only [List.map_toArray, List.map_cons, List.map_nil]); first | done | rfl | (simp only [List.length_drop, List.length_take]; rfl)) ?_
       with_reducible refine (spec_l1In.calls ((rd_T57 l0_8 x5_2).f0) 0 5 true _ A37.out).mono ?_
       rintro e w' ⟨rfl, ⟨nd, rfl⟩⟩
       refine ⟨_, rfl, ?_⟩
       refine hK.out _ _ ⟨bc BK116.out 0, bc BK116.out 1⟩ (fun hHeld => ?_)
       clear hK K
       refine norm_ (a' := ?_) ?_ ?_
       rotate_left
       ·show Act.put _ (some 58) _ = _
        simp only [pA, pS, pZ, pK, i64_w, i32_w]
        rfl
       refine pu (i := 3) (N := some 59) (v := ?_) (a' := ?_) (bs 15 26) rfl rfl HT_ ?_ ?_ ?_
       rotate_left
       ·intro w'
        go_simp
        with_reducible rfl
       rotate_left
       ·simp only [pA, pS, pZ, pK, i64_w, i32_w]
        rfl
       refine pu (i := 4) (N := some 60) (v := ?_) (a' := ?_) (bs 31 26) rfl rfl HT_ ?_ ?_ ?_
       rotate_left
       ·intro w'
        go_simp
        with_reducible rfl
       rotate_left
       ·simp only [pA, pS, pZ, pK, i64_w, i32_w]
        rfl
       refine pu (i := 5) (N := some 61) (v := ?_) (a' := ?_) (bs 63 26) rfl rfl HT_ ?_ ?_ ?_
       rotate_left
       ·intro w'
        go_simp
        with_reducible rfl
       rotate_left
       ·simp only [pA, pS, pZ, pK, i64_w, i32_w]
        rfl
       refine tk (i := 6) (N := some 62) (v := ?_) (a' := ?_) (bs 127 26) rfl rfl HT_ HW_ ?_ hHeld ?_ ?_
       rotate_left
       ·rintro w' ⟨s0, s1⟩
        go_simp
        with_reducible rfl
       rotate_left
       ·simp only [pA, pS, pZ, pK, i64_w, i32_w]
        rfl
       refine one_ (i := 7) (N := some 63) (bs 255 26) rfl rfl (one_of HT_.out (by kernel_rfl)) (by decide) (fun K hK => ?_)
       refine goes_ Tryd.func70 (by kernel_rfl) rfl #[.int .i64 ((rd_T57 l0_8 x5_2).f1), .int .i64 (-1), .int .i64 99] (by rfl) rfl rfl (by (try simp only [List.map_toArray, List.map_cons, List.map_nil]); first | done | rfl | (simp only [List.length_drop, List.length_take]; rfl)) ?_
       with_reducible refine (spec_l1In.calls ((rd_T57 l0_8 x5_2).f1) (-1) 99 false _ A39.out).mono ?_
       rintro e w' ⟨rfl, ⟨nd, rfl⟩⟩
       refine ⟨_, rfl, ?_⟩
       refine hK.out _ _ ⟨bc BK116.out 0, bc BK116.out 1⟩ (fun hHeld => ?_)
       clear hK K
       refine norm_ (a' := ?_) ?_ ?_
       rotate_left
       ·show Act.put _ (some 63) _ = _
        simp only [pA, pS, pZ, pK, i64_w, i32_w]
        rfl
       refine pu (i := 8) (N := some 64) (v := ?_) (a' := ?_) (bs 511 26) rfl rfl HT_ ?_ ?_ ?_
       rotate_left
       ·intro w'
        go_simp
        with_reducible rfl
       rotate_left
       ·simp only [pA, pS, pZ, pK, i64_w, i32_w]
        rfl
       refine pu (i := 9) (N := some 65) (v := ?_) (a' := ?_) (bs 1023 26) rfl rfl HT_ ?_ ?_ ?_
       rotate_left
       ·intro w'
        go_simp
        with_reducible rfl
       rotate_left
       ·simp only [pA, pS, pZ, pK, i64_w, i32_w]
        rfl
       refine pu (i := 10) (N := some 66) (v := ?_) (a' := ?_) (bs 2047 26) rfl rfl HT_ ?_ ?_ ?_
       rotate_left
       ·intro w'
        go_simp
        with_reducible rfl
       rotate_left
       ·simp only [pA, pS, pZ, pK, i64_w, i32_w]
        rfl
       refine pn (i := 11) (N := some 67) (v := undef) (a' := ?_) (bs 4095 26) rfl rfl HT_ ?_ ?_
       rotate_left
       ·simp only [pA, pS, pZ, pK, i64_w, i32_w]
        rfl
       refine pn (i := 12) (N := some 68) (v := undef) (a' := ?_) (bs 8191 26) rfl rfl HT_ ?_ ?_
       rotate_left
       ·simp only [pA, pS, pZ, pK, i64_w, i32_w]
        rfl
       refine pn (i := 13) (N := some 69) (v := undef) (a' := ?_) (bs 16383 26) rfl rfl HT_ ?_ ?_
       rotate_left
       ·simp only [pA, pS, pZ, pK, i64_w, i32_w]
        rfl
       refine pn (i := 14) (N := some 70) (v := undef) (a' := ?_) (bs 32767 26) rfl rfl HT_ ?_ ?_
       rotate_left
       ·simp only [pA, pS, pZ, pK, i64_w, i32_w]
        rfl
       refine pn (i := 15) (N := some 71) (v := undef) (a' := ?_) (bs 65535 26) rfl rfl HT_ ?_ ?_
       rotate_left
       ·simp only [pA, pS, pZ, pK, i64_w, i32_w]
        rfl
       refine pn (i := 16) (N := some 72) (v := undef) (a' := ?_) (bs 131071 26) rfl rfl HT_ ?_ ?_
       rotate_left
       ·simp only [pA, pS, pZ, pK, i64_w, i32_w]
        rfl
       refine pn (i := 17) (N := some 73) (v := undef) (a' := ?_) (bs 262143 26) rfl rfl HT_ ?_ ?_
       rotate_left
       ·simp only [pA, pS, pZ, pK, i64_w, i32_w]
        rfl
       refine pn (i := 18) (N := some 74) (v := undef) (a' := ?_) (bs 524287 26) rfl rfl HT_ ?_ ?_
       rotate_left
       ·simp only [pA, pS, pZ, pK, i64_w, i32_w]
        rfl
       refine pn (i := 19) (N := some 75) (v := undef) (a' := ?_) (bs 1048575 26) rfl rfl HT_ ?_ ?_
       rotate_left
       ·simp only [pA, pS, pZ, pK, i64_w, i32_w]
        rfl
       refine pn (i := 20) (N := some 76) (v := undef) (a' := ?_) (bs 2097151 26) rfl rfl HT_ ?_ ?_
       rotate_left
       ·simp only [pA, pS, pZ, pK, i64_w, i32_w]
        rfl
       refine pn (i := 21) (N := some 77) (v := undef) (a' := ?_) (bs 4194303 26) rfl rfl HT_ ?_ ?_
       rotate_left
       ·simp only [pA, pS, pZ, pK, i64_w, i32_w]
        rfl
       refine pn (i := 22) (N := some 78) (v := undef) (a' := ?_) (bs 8388607 26) rfl rfl HT_ ?_ ?_
       rotate_left
       ·simp only [pA, pS, pZ, pK, i64_w, i32_w]
        rfl
       refine pn (i := 23) (N := some 79) (v := undef) (a' := ?_) (bs 16777215 26) rfl rfl HT_ ?_ ?_
       rotate_left
       ·simp only [pA, pS, pZ, pK, i64_w, i32_w]
        rfl
       refine pn (i := 24) (N := some 80) (v := undef) (a' := ?_) (bs 33554431 26) rfl rfl HT_ ?_ ?_
       rotate_left
       ·simp only [pA, pS, pZ, pK, i64_w, i32_w]
        rfl
       refine pu (i := 25) (N := some 81) (v := ?_) (a' := ?_) (bs 67108863 26) rfl rfl HT_ ?_ ?_ ?_
       rotate_left
       ·intro w'
        go_simp
        with_reducible rfl
       rotate_left
       ·simp only [pA, pS, pZ, pK, i64_w, i32_w]
        rfl
       refine done_ (done_of HT_.out (by kernel_rfl)) ?_
       try go_wp2
       go_meet
       case rel => exact ⟨_, (true), (by first | rfl | (simp; done) | (simp [*]; done)), H', ⟨by have := HK1.out; have := HK2.out; first | omega | exact Nat.le_refl _⟩, ⟨BH BK108.out⟩, ⟨BH BK116.out⟩, ⟨BT HB.out⟩⟩
      subst c40
      have H1 : (if x5_2 > 0 then (if 0 ≤ (wrap64 (x5_2 - 1)) then (if (wrap64 (x5_2 - 1)) < (l0_8.length : Int) then (spec_IsValidTransaction.j3 k2 x5_2 (decide (((rd_T57 l0_8 (wrap64 (x5_2 - 1))).f0) ≥ ((rd_T57 l0_8 x5_2).f0))) a0_0 a0_1 a0_2 a0_3 a0_4 a0_5 a0_6 l0_7 l0_8) else (none)) else (none)) else (spec_IsValidTransaction.j3 k2 x5_2 false a0_0 a0_1 a0_2 a0_3 a0_4 a0_5 a0_6 l0_7 l0_8)) = some r := by rw [if_pos rfl] at H; exact H
      clear H
      have H := H1
      clear H1
      by_cases c41 : x5_2 > 0
      rotate_left
      ·rw [if_neg c41] at H
       have c41b0 : decide (0 < x5_2) = false := decide_eq_false c41
       clear c41
       (first | rw [c41b0] | (simp only [i64_w, i32_w]; rw [c41b0]) | skip)
       have H' := AM_ H
       clear H
       try go_wp2
       have n0_ : Aside0 (((w34.setCell ⟨gb116, 0, none⟩ (.int .i64 ((rd_T57 l0_8 x5_2).f0))).setCell ⟨gb116, 1, none⟩ (.int .i64 ((rd_T57 l0_8 x5_2).f1))).heap[gb108]? = some (.cells #[.int .i64 a0_0, .int .i64 a0_1, .int .i64 a0_2, .int .i64 a0_3, .int .i64 a0_4, .int .i64 a0_5, .int .i64 a0_6, .slice A0_7 l0_7.length c0_7, .slice (some ad115) l0_8.length c0_8] 73 (0, 0))) := ⟨BG BK108.out NB108_116.out⟩
       have n1_ : Aside0 (((w34.setCell ⟨gb116, 0, none⟩ (.int .i64 ((rd_T57 l0_8 x5_2).f0))).setCell ⟨gb116, 1, none⟩ (.int .i64 ((rd_T57 l0_8 x5_2).f1))).heap[gb116]? = some (.cells #[.int .i64 ((rd_T57 l0_8 x5_2).f0), .int .i64 ((rd_T57 l0_8 x5_2).f1)] 57 (0, 0))) := ⟨BQ BK116.out⟩
       have n2_ : Aside0 (Below w.heap.size w ((w34.setCell ⟨gb116, 0, none⟩ (.int .i64 ((rd_T57 l0_8 x5_2).f0))).setCell ⟨gb116, 1, none⟩ (.int .i64 ((rd_T57 l0_8 x5_2).f1)))) := ⟨BT HB.out⟩
       (try clear BK108)
       (try clear BK116)
       (try clear HB)
       generalize ((w34.setCell ⟨gb116, 0, none⟩ (.int .i64 ((rd_T57 l0_8 x5_2).f0))).setCell ⟨gb116, 1, none⟩ (.int .i64 ((rd_T57 l0_8 x5_2).f1))) = w47 at n0_ n1_ n2_ ⊢
       have BK108 := n0_
       have BK116 := n1_
       have HB := n2_
       clear n0_ n1_ n2_
       replace BK108 := AM_ (blk_drew BK108.out)
       replace BK116 := AM_ (blk_drew BK116.out)
       replace HB := AM_ (below_drew1 HB.out)
       refine start_ (n := 26) (S := fun w' => w'.cell? ⟨gb116, 0, none⟩ = some (.int .i64 ((rd_T57 l0_8 x5_2).f0)) ∧ w'.cell? ⟨gb116, 1, none⟩ = some (.int .i64 ((rd_T57 l0_8 x5_2).f1))) (ds := []) (bs 0 26) (by kernel_rfl) rfl rfl ⟨bc BK116.out 0, bc BK116.out 1⟩ (fun hHeld => ?_); refine with_tabW spec_IsValidTransaction.tab11 spec_IsValidTransaction.bits11 (fun HT_ HW_ => ?_)
       generalize w47.drew = w48 at BK108 BK116 HB hHeld ⊢
       refine pu (i := 0) (N := some 56) (v := ?_) (a' := ?_) (bs 1 26) rfl rfl HT_ ?_ ?_ ?_
       rotate_left
       ·intro w'
        go_simp
        with_reducible rfl
       rotate_left
       ·simp only [pA, pS, pZ, pK, i64_w, i32_w]
        rfl
       refine tk (i := 1) (N := some 57) (v := ?_) (a' := ?_) (bs 3 26) rfl rfl HT_ HW_ ?_ hHeld ?_ ?_
       rotate_left
       ·rintro w' ⟨s0, s1⟩
        go_simp
        with_reducible rfl
       rotate_left
       ·simp only [pA, pS, pZ, pK, i64_w, i32_w]
        rfl
       refine one_ (i := 2) (N := some 58) (bs 7 26) rfl rfl (one_of HT_.out (by kernel_rfl)) (by decide) (fun K hK => ?_)
       refine goes_ Tryd.func70 (by kernel_rfl) rfl #[.int .i64 ((rd_T57 l0_8 x5_2).f0), .int .i64 0, .int .i64 5] (by rfl) rfl rfl (by (try simp only [List.map_toArray, List.map_cons, List.map_nil]); first | done | rfl | (simp only [List.length_drop, List.length_take]; rfl)) ?_
       with_reducible refine (spec_l1In.calls ((rd_T57 l0_8 x5_2).f0) 0 5 true _ A37.out).mono ?_
       rintro e w' ⟨rfl, ⟨nd, rfl⟩⟩
       refine ⟨_, rfl, ?_⟩
       refine hK.out _ _ ⟨bc BK116.out 0, bc BK116.out 1⟩ (fun hHeld => ?_)
       clear hK K
       refine norm_ (a' := ?_) ?_ ?_
       rotate_left
       ·show Act.put _ (some 58) _ = _
        simp only [pA, pS, pZ, pK, i64_w, i32_w]
        rfl
       refine pu (i := 3) (N := some 59) (v := ?_) (a' := ?_) (bs 15 26) rfl rfl HT_ ?_ ?_ ?_
       rotate_left
       ·intro w'
        go_simp
        with_reducible rfl
       rotate_left
       ·simp only [pA, pS, pZ, pK, i64_w, i32_w]
        rfl
       refine pu (i := 4) (N := some 60) (v := ?_) (a' := ?_) (bs 31 26) rfl rfl HT_ ?_ ?_ ?_
       rotate_left
       ·intro w'
        go_simp
        with_reducible rfl
       rotate_left
       ·simp only [pA, pS, pZ, pK, i64_w, i32_w]
        rfl
       refine pu (i := 5) (N := some 61) (v := ?_) (a' := ?_) (bs 63 26) rfl rfl HT_ ?_ ?_ ?_
       rotate_left
       ·intro w'
        go_simp
        with_reducible rfl
       rotate_left
       ·simp only [pA, pS, pZ, pK, i64_w, i32_w]
        rfl
       refine tk (i := 6) (N := some 62) (v := ?_) (a' := ?_) (bs 127 26) rfl rfl HT_ HW_ ?_ hHeld ?_ ?_
       rotate_left
       ·rintro w' ⟨s0, s1⟩
        go_simp
        with_reducible rfl
       rotate_left
       ·simp only [pA, pS, pZ, pK, i64_w, i32_w]
        rfl
       refine one_ (i := 7) (N := some 63) (bs 255 26) rfl rfl (one_of HT_.out (by kernel_rfl)) (by decide) (fun K hK => ?_)
       refine goes_ Tryd.func70 (by kernel_rfl) rfl #[.int .i64 ((rd_T57 l0_8 x5_2).f1), .int .i64 (-1), .int .i64 99] (by rfl) rfl rfl (by (try simp only [List.map_toArray, List.map_cons, List.map_nil]); first | done | rfl | (simp only [List.length_drop, List.length_take]; rfl)) ?_
       with_reducible refine (spec_l1In.calls ((rd_T57 l0_8 x5_2).f1) (-1) 99 true _ A39.out).mono ?_
       rintro e w' ⟨rfl, ⟨nd, rfl⟩⟩
       refine ⟨_, rfl, ?_⟩
       refine hK.out _ _ ⟨bc BK116.out 0, bc BK116.out 1⟩ (fun hHeld => ?_)
       clear hK K
       refine norm_ (a' := ?_) ?_ ?_
       rotate_left
       ·show Act.put _ (some 63) _ = _
        simp only [pA, pS, pZ, pK, i64_w, i32_w]
        rfl
       refine pu (i := 8) (N := some 64) (v := ?_) (a' := ?_) (bs 511 26) rfl rfl HT_ ?_ ?_ ?_
       rotate_left
       ·intro w'
        go_simp
        with_reducible rfl
       rotate_left
       ·simp only [pA, pS, pZ, pK, i64_w, i32_w]
        rfl
       refine pu (i := 9) (N := some 65) (v := ?_) (a' := ?_) (bs 1023 26) rfl rfl HT_ ?_ ?_ ?_
       rotate_left
       ·intro w'
        go_simp
        with_reducible rfl
       rotate_left
       ·simp only [pA, pS, pZ, pK, i64_w, i32_w]
        rfl
       refine pu (i := 10) (N := some 66) (v := ?_) (a' := ?_) (bs 2047 26) rfl rfl HT_ ?_ ?_ ?_
       rotate_left
       ·intro w'
        go_simp
        with_reducible rfl
       rotate_left
       ·simp only [pA, pS, pZ, pK, i64_w, i32_w]
        rfl
       refine pu (i := 11) (N := some 67) (v := ?_) (a' := ?_) (bs 4095 26) rfl rfl HT_ ?_ ?_ ?_
       rotate_left
       ·intro w'
        go_simp
        with_reducible rfl
       rotate_left
       ·simp only [pA, pS, pZ, pK, i64_w, i32_w]
        rfl
       refine pu (i := 12) (N := some 68) (v := ?_) (a' := ?_) (bs 8191 26) rfl rfl HT_ ?_ ?_ ?_
       rotate_left
       ·intro w'
        go_simp
        with_reducible rfl
       rotate_left
       ·simp only [pA, pS, pZ, pK, i64_w, i32_w]
        rfl
       refine pu (i := 13) (N := some 69) (v := ?_) (a' := ?_) (bs 16383 26) rfl rfl HT_ ?_ ?_ ?_
       rotate_left
       ·intro w'
        go_simp
        with_reducible rfl
       rotate_left
       ·simp only [pA, pS, pZ, pK, i64_w, i32_w]
        rfl
       refine pn (i := 14) (N := some 70) (v := undef) (a' := ?_) (bs 32767 26) rfl rfl HT_ ?_ ?_
       rotate_left
       ·simp only [pA, pS, pZ, pK, i64_w, i32_w]
        rfl
       refine pn (i := 15) (N := some 71) (v := undef) (a' := ?_) (bs 65535 26) rfl rfl HT_ ?_ ?_
       rotate_left
       ·simp only [pA, pS, pZ, pK, i64_w, i32_w]
        rfl
       refine pn (i := 16) (N := some 72) (v := undef) (a' := ?_) (bs 131071 26) rfl rfl HT_ ?_ ?_
       rotate_left
       ·simp only [pA, pS, pZ, pK, i64_w, i32_w]
        rfl
       refine pn (i := 17) (N := some 73) (v := undef) (a' := ?_) (bs 262143 26) rfl rfl HT_ ?_ ?_
       rotate_left
       ·simp only [pA, pS, pZ, pK, i64_w, i32_w]
        rfl
       refine pn (i := 18) (N := some 74) (v := undef) (a' := ?_) (bs 524287 26) rfl rfl HT_ ?_ ?_
       rotate_left
       ·simp only [pA, pS, pZ, pK, i64_w, i32_w]
        rfl
       refine pn (i := 19) (N := some 75) (v := undef) (a' := ?_) (bs 1048575 26) rfl rfl HT_ ?_ ?_
       rotate_left
       ·simp only [pA, pS, pZ, pK, i64_w, i32_w]
        rfl
       refine pn (i := 20) (N := some 76) (v := undef) (a' := ?_) (bs 2097151 26) rfl rfl HT_ ?_ ?_
       rotate_left
       ·simp only [pA, pS, pZ, pK, i64_w, i32_w]
        rfl
       refine pn (i := 21) (N := some 77) (v := undef) (a' := ?_) (bs 4194303 26) rfl rfl HT_ ?_ ?_
       rotate_left
       ·simp only [pA, pS, pZ, pK, i64_w, i32_w]
        rfl
       refine pn (i := 22) (N := some 78) (v := undef) (a' := ?_) (bs 8388607 26) rfl rfl HT_ ?_ ?_
       rotate_left
       ·simp only [pA, pS, pZ, pK, i64_w, i32_w]
        rfl
       refine pn (i := 23) (N := some 79) (v := undef) (a' := ?_) (bs 16777215 26) rfl rfl HT_ ?_ ?_
       rotate_left
       ·simp only [pA, pS, pZ, pK, i64_w, i32_w]
        rfl
       refine pu (i := 24) (N := some 80) (v := ?_) (a' := ?_) (bs 33554431 26) rfl rfl HT_ ?_ ?_ ?_
       rotate_left
       ·intro w'
        go_simp
        with_reducible rfl
       rotate_left
       ·simp only [pA, pS, pZ, pK, i64_w, i32_w]
        rfl
       refine pu (i := 25) (N := some 81) (v := ?_) (a' := ?_) (bs 67108863 26) rfl rfl HT_ ?_ ?_ ?_
       rotate_left
       ·intro w'
        go_simp
        with_reducible rfl
       rotate_left
       ·simp only [pA, pS, pZ, pK, i64_w, i32_w]
        rfl
       refine done_ (done_of HT_.out (by kernel_rfl)) ?_
       try go_wp2
       go_meet
       case rel => exact ⟨_, (false), (by first | rfl | (simp; done) | (simp [*]; done)), H', ⟨by have := HK1.out; have := HK2.out; first | omega | exact Nat.le_refl _⟩, ⟨BH BK108.out⟩, ⟨BH BK116.out⟩, ⟨BT HB.out⟩⟩
      rw [if_pos c41] at H
      have c41b0 : decide (0 < x5_2) = true := decide_eq_true c41
      clear c41
      (first | rw [c41b0] | (simp only [i64_w, i32_w]; rw [c41b0]) | skip)
      obtain ⟨ji42, hji42⟩ : ∃ j_ : Int, (wrap64 (x5_2 - 1)) = j_ := ⟨_, rfl⟩
      replace H : (if 0 ≤ (ji42) then (if (ji42) < (l0_8.length : Int) then (spec_IsValidTransaction.j3 k2 x5_2 (decide (((rd_T57 l0_8 (ji42)).f0) ≥ ((rd_T57 l0_8 x5_2).f0))) a0_0 a0_1 a0_2 a0_3 a0_4 a0_5 a0_6 l0_7 l0_8) else (none)) else (none)) = some r := by first | (rw [hji42] at H; exact H) | (simp only [hji42] at H ⊢; exact H)
      (try rw [hji42] at A37)
      (try rw [hji42] at A39)
      have hji42w : (IntKind.i64.wrap (x5_2 - 1)) = ji42 := (i64_w _).trans hji42
      by_cases c43 : 0 ≤ (ji42)
      rotate_left
      ·rw [if_neg c43] at H
       exact absurd H (by simp)
      rw [if_pos c43] at H
      have c43b0 : decide (0 ≤ (ji42)) = true := decide_eq_true c43
      clear c43
      by_cases c44 : (ji42) < (l0_8.length : Int)
      rotate_left
      ·rw [if_neg c44] at H
       exact absurd H (by simp)
      rw [if_pos c44] at H
      have c44b0 : decide ((ji42) < (l0_8.length : Int)) = true := decide_eq_true c44
      clear c44
      have H' := AM_ H
      clear H
      try go_wp2
      have n0_ : Aside0 (((w34.setCell ⟨gb116, 0, none⟩ (.int .i64 ((rd_T57 l0_8 x5_2).f0))).setCell ⟨gb116, 1, none⟩ (.int .i64 ((rd_T57 l0_8 x5_2).f1))).heap[gb108]? = some (.cells #[.int .i64 a0_0, .int .i64 a0_1, .int .i64 a0_2, .int .i64 a0_3, .int .i64 a0_4, .int .i64 a0_5, .int .i64 a0_6, .slice A0_7 l0_7.length c0_7, .slice (some ad115) l0_8.length c0_8] 73 (0, 0))) := ⟨BG BK108.out NB108_116.out⟩
      have n1_ : Aside0 (((w34.setCell ⟨gb116, 0, none⟩ (.int .i64 ((rd_T57 l0_8 x5_2).f0))).setCell ⟨gb116, 1, none⟩ (.int .i64 ((rd_T57 l0_8 x5_2).f1))).heap[gb116]? = some (.cells #[.int .i64 ((rd_T57 l0_8 x5_2).f0), .int .i64 ((rd_T57 l0_8 x5_2).f1)] 57 (0, 0))) := ⟨BQ BK116.out⟩
      have n2_ : Aside0 (Below w.heap.size w ((w34.setCell ⟨gb116, 0, none⟩ (.int .i64 ((rd_T57 l0_8 x5_2).f0))).setCell ⟨gb116, 1, none⟩ (.int .i64 ((rd_T57 l0_8 x5_2).f1)))) := ⟨BT HB.out⟩
      (try clear BK108)
      (try clear BK116)
      (try clear HB)
      generalize ((w34.setCell ⟨gb116, 0, none⟩ (.int .i64 ((rd_T57 l0_8 x5_2).f0))).setCell ⟨gb116, 1, none⟩ (.int .i64 ((rd_T57 l0_8 x5_2).f1))) = w45 at n0_ n1_ n2_ ⊢
      have BK108 := n0_
      have BK116 := n1_
      have HB := n2_
      clear n0_ n1_ n2_
      replace BK108 := AM_ (blk_drew BK108.out)
      replace BK116 := AM_ (blk_drew BK116.out)
      replace HB := AM_ (below_drew1 HB.out)
      have p119 : 0 ≤ ((ji42) : Int) := DT
      have q119 : (ji42) < (l0_8.length : Int) := DT
      obtain ⟨ad119, e119, hx119_0, hx119_1⟩ := at_T57 HR0_8.out (ji42) p119 q119
      have hw119_1 := hx119_1
      have hw119_0 := hx119_0
      obtain rfl : ad115 = ad119 := (by injection e119)
      replace hx119_0 := BC HB.out hx119_0
      replace hx119_1 := BC HB.out hx119_1
      replace p119 := eq_true p119
      replace q119 := eq_true q119
      refine start_ (n := 26) (S := fun w' => w'.cell? ⟨gb116, 0, none⟩ = some (.int .i64 ((rd_T57 l0_8 x5_2).f0)) ∧ w'.cell? ⟨gb116, 1, none⟩ = some (.int .i64 ((rd_T57 l0_8 x5_2).f1)) ∧ w'.cell? ⟨gb108, 0, none⟩ = some (.int .i64 a0_0) ∧ w'.cell? ⟨gb108, 1, none⟩ = some (.int .i64 a0_1) ∧ w'.cell? ⟨gb108, 2, none⟩ = some (.int .i64 a0_2) ∧ w'.cell? ⟨gb108, 3, none⟩ = some (.int .i64 a0_3) ∧ w'.cell? ⟨gb108, 4, none⟩ = some (.int .i64 a0_4) ∧ w'.cell? ⟨gb108, 5, none⟩ = some (.int .i64 a0_5) ∧ w'.cell? ⟨gb108, 6, none⟩ = some (.int .i64 a0_6) ∧ w'.cell? ⟨gb108, 7, none⟩ = some (.slice A0_7 l0_7.length c0_7) ∧ w'.cell? ⟨gb108, 8, none⟩ = some (.slice (some ad115) l0_8.length c0_8) ∧ w'.cell? (ad115.add (((ji42)).toNat * 2)) = some (.int .i64 ((rd_T57 l0_8 (ji42)).f0)) ∧ w'.cell? ⟨(ad115.add (((ji42)).toNat * 2)).block, (ad115.add (((ji42)).toNat * 2)).off + 1, none⟩ = some (.int .i64 ((rd_T57 l0_8 (ji42)).f1))) (ds := []) (bs 0 26) (by kernel_rfl) rfl rfl ⟨bc BK116.out 0, bc BK116.out 1, bc BK108.out 0, bc BK108.out 1, bc BK108.out 2, bc BK108.out 3, bc BK108.out 4, bc BK108.out 5, bc BK108.out 6, bc BK108.out 7, bc BK108.out 8, (BD HB.out hw119_0), (BD HB.out hw119_1)⟩ (fun hHeld => ?_); refine with_tabW spec_IsValidTransaction.tab11 spec_IsValidTransaction.bits11 (fun HT_ HW_ => ?_)
      generalize w45.drew = w46 at BK108 BK116 HB hx119_0 hx119_1 hHeld ⊢
      refine pu (i := 0) (N := some 56) (v := ?_) (a' := ?_) (bs 1 26) rfl rfl HT_ ?_ ?_ ?_
      rotate_left
      ·intro w'
       go_simp
       with_reducible rfl
      rotate_left
      ·simp only [pA, pS, pZ, pK, i64_w, i32_w]
       rfl
      refine tk (i := 1) (N := some 57) (v := ?_) (a' := ?_) (bs 3 26) rfl rfl HT_ HW_ ?_ hHeld ?_ ?_
      rotate_left
      ·rintro w' ⟨s0, s1, s2, s3, s4, s5, s6, s7, s8, s9, s10, s11, s12⟩
       go_simp
       with_reducible rfl
      rotate_left
      ·simp only [pA, pS, pZ, pK, i64_w, i32_w]
       rfl
      refine one_ (i := 2) (N := some 58) (bs 7 26) rfl rfl (one_of HT_.out (by kernel_rfl)) (by decide) (fun K hK => ?_)
      refine goes_ Tryd.func70 (by kernel_rfl) rfl #[.int .i64 ((rd_T57 l0_8 x5_2).f0), .int .i64 0, .int .i64 5] (by rfl) rfl rfl (by (try simp only [List.map_toArray, List.map_cons, List.map_nil]); first | done | rfl | (simp only [List.length_drop, List.length_take]; rfl)) ?_
      with_reducible refine (spec_l1In.calls ((rd_T57 l0_8 x5_2).f0) 0 5 true _ A37.out).mono ?_
      rintro e w' ⟨rfl, ⟨nd, rfl⟩⟩
      refine ⟨_, rfl, ?_⟩
      refine hK.out _ _ ⟨bc BK116.out 0, bc BK116.out 1, bc BK108.out 0, bc BK108.out 1, bc BK108.out 2, bc BK108.out 3, bc BK108.out 4, bc BK108.out 5, bc BK108.out 6, bc BK108.out 7, bc BK108.out 8, (BD HB.out hw119_0), (BD HB.out hw119_1)⟩ (fun hHeld => ?_)
      clear hK K
      refine norm_ (a' := ?_) ?_ ?_
      rotate_left
      ·show Act.put _ (some 58) _ = _
       simp only [pA, pS, pZ, pK, i64_w, i32_w]
       rfl
      refine pu (i := 3) (N := some 59) (v := ?_) (a' := ?_) (bs 15 26) rfl rfl HT_ ?_ ?_ ?_
      rotate_left
      ·intro w'
       go_simp
       with_reducible rfl
      rotate_left
      ·simp only [pA, pS, pZ, pK, i64_w, i32_w]
       rfl
      refine pu (i := 4) (N := some 60) (v := ?_) (a' := ?_) (bs 31 26) rfl rfl HT_ ?_ ?_ ?_
      rotate_left
      ·intro w'
       go_simp
       with_reducible rfl
      rotate_left
      ·simp only [pA, pS, pZ, pK, i64_w, i32_w]
       rfl
      refine pu (i := 5) (N := some 61) (v := ?_) (a' := ?_) (bs 63 26) rfl rfl HT_ ?_ ?_ ?_
      rotate_left
      ·intro w'
       go_simp
       with_reducible rfl
      rotate_left
      ·simp only [pA, pS, pZ, pK, i64_w, i32_w]
       rfl
      refine tk (i := 6) (N := some 62) (v := ?_) (a' := ?_) (bs 127 26) rfl rfl HT_ HW_ ?_ hHeld ?_ ?_
      rotate_left
      ·rintro w' ⟨s0, s1, s2, s3, s4, s5, s6, s7, s8, s9, s10, s11, s12⟩
       go_simp
       with_reducible rfl
      rotate_left
      ·simp only [pA, pS, pZ, pK, i64_w, i32_w]
       rfl
      refine one_ (i := 7) (N := some 63) (bs 255 26) rfl rfl (one_of HT_.out (by kernel_rfl)) (by decide) (fun K hK => ?_)
      refine goes_ Tryd.func70 (by kernel_rfl) rfl #[.int .i64 ((rd_T57 l0_8 x5_2).f1), .int .i64 (-1), .int .i64 99] (by rfl) rfl rfl (by (try simp only [List.map_toArray, List.map_cons, List.map_nil]); first | done | rfl | (simp only [List.length_drop, List.length_take]; rfl)) ?_
      with_reducible refine (spec_l1In.calls ((rd_T57 l0_8 x5_2).f1) (-1) 99 true _ A39.out).mono ?_
      rintro e w' ⟨rfl, ⟨nd, rfl⟩⟩
      refine ⟨_, rfl, ?_⟩
      refine hK.out _ _ ⟨bc BK116.out 0, bc BK116.out 1, bc BK108.out 0, bc BK108.out 1, bc BK108.out 2, bc BK108.out 3, bc BK108.out 4, bc BK108.out 5, bc BK108.out 6, bc BK108.out 7, bc BK108.out 8, (BD HB.out hw119_0), (BD HB.out hw119_1)⟩ (fun hHeld => ?_)
      clear hK K
      refine norm_ (a' := ?_) ?_ ?_
      rotate_left
      ·show Act.put _ (some 63) _ = _
       simp only [pA, pS, pZ, pK, i64_w, i32_w]
       rfl
      refine pu (i := 8) (N := some 64) (v := ?_) (a' := ?_) (bs 511 26) rfl rfl HT_ ?_ ?_ ?_
      rotate_left
      ·intro w'
       go_simp
       with_reducible rfl
      rotate_left
      ·simp only [pA, pS, pZ, pK, i64_w, i32_w]
       rfl
      refine pu (i := 9) (N := some 65) (v := ?_) (a' := ?_) (bs 1023 26) rfl rfl HT_ ?_ ?_ ?_
      rotate_left
      ·intro w'
       go_simp
       with_reducible rfl
      rotate_left
      ·simp only [pA, pS, pZ, pK, i64_w, i32_w]
       rfl
      refine pu (i := 10) (N := some 66) (v := ?_) (a' := ?_) (bs 2047 26) rfl rfl HT_ ?_ ?_ ?_
      rotate_left
      ·intro w'
       go_simp
       with_reducible rfl
      rotate_left
      ·simp only [pA, pS, pZ, pK, i64_w, i32_w]
       rfl
      refine pu (i := 11) (N := some 67) (v := ?_) (a' := ?_) (bs 4095 26) rfl rfl HT_ ?_ ?_ ?_
      rotate_left
      ·intro w'
       go_simp
       with_reducible rfl
      rotate_left
      ·simp only [pA, pS, pZ, pK, i64_w, i32_w]
       rfl
      refine pu (i := 12) (N := some 68) (v := ?_) (a' := ?_) (bs 8191 26) rfl rfl HT_ ?_ ?_ ?_
      rotate_left
      ·intro w'
       go_simp
       with_reducible rfl
      rotate_left
      ·simp only [pA, pS, pZ, pK, i64_w, i32_w]
       rfl
      refine pu (i := 13) (N := some 69) (v := ?_) (a' := ?_) (bs 16383 26) rfl rfl HT_ ?_ ?_ ?_
      rotate_left
      ·intro w'
       go_simp
       with_reducible rfl
      rotate_left
      ·simp only [pA, pS, pZ, pK, i64_w, i32_w]
       rfl
      refine pu (i := 14) (N := some 70) (v := ?_) (a' := ?_) (bs 32767 26) rfl rfl HT_ ?_ ?_ ?_
      rotate_left
      ·intro w'
       go_simp
       with_reducible rfl
      rotate_left
      ·simp only [pA, pS, pZ, pK, i64_w, i32_w]
       rfl
      refine pu (i := 16) (N := some 72) (v := ?_) (a' := ?_) (bs 98303 26) rfl rfl HT_ ?_ ?_ ?_
      rotate_left
      ·intro w'
       go_simp
       with_reducible rfl
      rotate_left
      ·simp only [pA, pS, pZ, pK, i64_w, i32_w]
       rfl
      refine pu (i := 17) (N := some 73) (v := ?_) (a' := ?_) (bs 229375 26) rfl rfl HT_ ?_ ?_ ?_
      rotate_left
      ·intro w'
       go_simp
       with_reducible rfl
      rotate_left
      ·simp only [pA, pS, pZ, pK, i64_w, i32_w]
       rfl
      refine pu (i := 21) (N := some 77) (v := ?_) (a' := ?_) (bs 2326527 26) rfl rfl HT_ ?_ ?_ ?_
      rotate_left
      ·intro w'
       go_simp
       with_reducible rfl
      rotate_left
      ·simp only [pA, pS, pZ, pK, i64_w, i32_w]
       rfl
      refine tk (i := 15) (N := some 71) (v := ?_) (a' := ?_) (bs 2359295 26) rfl rfl HT_ HW_ ?_ hHeld ?_ ?_
      rotate_left
      ·rintro w' ⟨s0, s1, s2, s3, s4, s5, s6, s7, s8, s9, s10, s11, s12⟩
       go_simp
       with_reducible rfl
      rotate_left
      ·simp only [pA, pS, pZ, pK, i64_w, i32_w]
       rfl
      refine pu (i := 18) (N := some 74) (v := ?_) (a' := ?_) (bs 2621439 26) rfl rfl HT_ ?_ ?_ ?_
      rotate_left
      ·intro w'
       go_simp
       with_reducible rfl
      rotate_left
      ·simp only [pA, pS, pZ, pK, i64_w, i32_w]
       rfl
      refine pu (i := 19) (N := some 75) (v := ?_) (a' := ?_) (bs 3145727 26) rfl rfl HT_ ?_ ?_ ?_
      rotate_left
      ·intro w'
       go_simp
       with_reducible rfl
      rotate_left
      ·simp only [pA, pS, pZ, pK, i64_w, i32_w]
       rfl
      refine tk (i := 20) (N := some 76) (v := ?_) (a' := ?_) (bs 4194303 26) rfl rfl HT_ HW_ ?_ hHeld ?_ ?_
      rotate_left
      ·rintro w' ⟨s0, s1, s2, s3, s4, s5, s6, s7, s8, s9, s10, s11, s12⟩
       go_simp
       with_reducible rfl
      rotate_left
      ·simp only [pA, pS, pZ, pK, i64_w, i32_w]
       rfl
      refine tk (i := 22) (N := some 78) (v := ?_) (a' := ?_) (bs 8388607 26) rfl rfl HT_ HW_ ?_ hHeld ?_ ?_
      rotate_left
      ·rintro w' ⟨s0, s1, s2, s3, s4, s5, s6, s7, s8, s9, s10, s11, s12⟩
       go_simp
       with_reducible rfl
      rotate_left
      ·simp only [pA, pS, pZ, pK, i64_w, i32_w]
       rfl
      refine pu (i := 23) (N := some 79) (v := ?_) (a' := ?_) (bs 16777215 26) rfl rfl HT_ ?_ ?_ ?_
      rotate_left
      ·intro w'
       go_simp
       with_reducible rfl
      rotate_left
      ·simp only [pA, pS, pZ, pK, i64_w, i32_w]
       rfl
      refine pu (i := 24) (N := some 80) (v := ?_) (a' := ?_) (bs 33554431 26) rfl rfl HT_ ?_ ?_ ?_
      rotate_left
      ·intro w'
       go_simp
       with_reducible rfl
      rotate_left
      ·simp only [pA, pS, pZ, pK, i64_w, i32_w]
       rfl
      refine pu (i := 25) (N := some 81) (v := ?_) (a' := ?_) (bs 67108863 26) rfl rfl HT_ ?_ ?_ ?_
      rotate_left
      ·intro w'
       go_simp
       with_reducible rfl
      rotate_left
      ·simp only [pA, pS, pZ, pK, i64_w, i32_w]
       rfl
      refine done_ (done_of HT_.out (by kernel_rfl)) ?_
      try go_wp2
      go_meet
      case rel => exact ⟨_, (decide (((rd_T57 l0_8 (ji42)).f0) ≥ ((rd_T57 l0_8 x5_2).f0))), (by first | rfl | (simp; done) | (simp only [← hji42] <;> (first | rfl | simp)) | (simp [*]; done)), H', ⟨by have := HK1.out; have := HK2.out; first | omega | exact Nat.le_refl _⟩, ⟨BH BK108.out⟩, ⟨BH BK116.out⟩, ⟨BT HB.out⟩⟩
     case rest =>
      clear HC32
      try clear p2
      try clear c3
      try clear c4
      try clear c7
      try clear c38
      try clear c40
      try clear c41
      try clear c41b0
      try clear c43
      try clear c44
      obtain ⟨kq, x81_31, rfl, HA, HJ31, BK108, BK116, HB⟩ := hcut
      cases kq with
      | zero => exact absurd HA.out (by simp [spec_IsValidTransaction.j3])
      | succ kj31 =>
       have H := HA.out
       clear HA
       simp only [spec_IsValidTransaction.j3] at H
       by_cases c53 : x81_31 = true
       ·subst c53
        have H1 : (some false) = some r := by rw [if_pos rfl] at H; exact H
        clear H
        have H := H1
        clear H1
        obtain rfl := Option.some.inj H
        go_wp2
        go_ret
        exact QT (BT HB.out)
       replace c53 := Bool.eq_false_iff.mpr c53
       subst c53
       have H1 : (spec_IsValidTransaction.l1 kj31 (wrap64 (x5_2 + 1)) a0_0 a0_1 a0_2 a0_3 a0_4 a0_5 a0_6 l0_7 l0_8) = some r := by rw [if_neg (show ¬ (false = true) by decide)] at H; exact H
       clear H
       have H := H1
       clear H1
       have H' := AM_ H
       clear H
       go_wp2
       go_roundg kj31
       case measure => have := HK1.out; have := HK2.out; have := HJ31.out; omega
       case rel => exact ⟨(wrap64 (x5_2 + 1)), (by first | rfl | (simp; done) | (simp [*]; done)), H', ⟨by have := HK1.out; have := HK2.out; have := HJ31.out; omega⟩, ⟨BH BK108.out⟩, ⟨BT HB.out⟩⟩

end Go.Proofs.YtgpmfkmdchcagaaDoor.PFnExactFormatHistory
