-- Printed by a program of mine (wip/myprint.py), which runs the printer of the kit with contracts of mine beside it.
import Derived.Test.YtgpmfkmdchcagaaDoorPFnExactFormatHistoryx0
import Derived.Test.YtgpmfkmdchcagaaDoorPFnExactFormatHistoryx10
import Derived.Test.YtgpmfkmdchcagaaDoorPFnExactFormatHistoryx11
namespace Go.Proofs.YtgpmfkmdchcagaaDoor.PFnExactFormatHistory
open Go.RowKit Go.Proofs.YtgpmfkmdchcagaaDoorW.PrintWords Go.Proofs.YtgpmfkmdchcagaaDoorW.PrintLast Go.Proofs.YtgpmfkmdchcagaaDoorW.PrintMore
attribute [local go_sem] max2_int min2_int max_two min_two max_three min_three max_four min_four   -- for this text's walks alone
set_option linter.unusedVariables false
set_option linter.unusedSimpArgs false

/-! ### impl_IsHistory: function 26 -/
mutual
def impl_IsHistory.l0 : Nat → List (S53) → List (S53) → Int → Int → Option (Bool)
 | 0, _, _, _, _ => none
 | k + 1, x0, x13, x14, x15 => if x15 < x14 then (if 0 ≤ x15 then (if x15 < (x13.length : Int) then ((impl_isEntry.f k ((rd_T53 x13 x15).f0) ((rd_T53 x13 x15).f1) ((rd_T53 x13 x15).f2) ((rd_T53 x13 x15).f3)).bind fun t286 => (if t286 = true then ((impl_FindEntry.f k x0 ((rd_T53 x13 x15).f0)).bind fun t287 => (impl_IsHistory.j1 k x0 x15 x13 x14 (t287 != x15) ((rd_T53 x13 x15).f0) ((rd_T53 x13 x15).f1) ((rd_T53 x13 x15).f2) ((rd_T53 x13 x15).f3))) else (impl_IsHistory.j1 k x0 x15 x13 x14 true ((rd_T53 x13 x15).f0) ((rd_T53 x13 x15).f1) ((rd_T53 x13 x15).f2) ((rd_T53 x13 x15).f3)))) else (none)) else (none)) else (impl_IsHistory.l1 k x0 x0 (x0.length : Int) 0)
def impl_IsHistory.j1 : Nat → List (S53) → Int → List (S53) → Int → Bool → Int → Int → List (S55) → List (S57) → Option (Bool)
 | 0, _, _, _, _, _, _, _, _, _ => none
 | k + 1, x0, x3, x13, x14, x30, x286000, x286001, x286002, x286003 => if x30 = true then (some false) else (if x3 > 0 then (if 0 ≤ (wrap64 (x3 - 1)) then (if (wrap64 (x3 - 1)) < (x0.length : Int) then (if x286001 < ((rd_T53 x0 (wrap64 (x3 - 1))).f1) then (impl_IsHistory.j2 k x0 x3 x13 x14 true) else (if x286001 = ((rd_T53 x0 (wrap64 (x3 - 1))).f1) then (impl_IsHistory.j2 k x0 x3 x13 x14 (decide ((x286003.length : Int) > 0))) else (impl_IsHistory.j2 k x0 x3 x13 x14 false))) else (none)) else (none)) else (impl_IsHistory.j2 k x0 x3 x13 x14 false))
def impl_IsHistory.j2 : Nat → List (S53) → Int → List (S53) → Int → Bool → Option (Bool)
 | 0, _, _, _, _, _ => none
 | k + 1, x0, x3, x13, x14, x60 => if x60 = true then (some false) else (impl_IsHistory.l0 k x0 x13 x14 (wrap64 (x3 + 1)))
def impl_IsHistory.l1 : Nat → List (S53) → List (S53) → Int → Int → Option (Bool)
 | 0, _, _, _, _ => none
 | k + 1, x0, x62, x63, x64 => if x64 < x63 then (if 0 ≤ x64 then (if x64 < (x62.length : Int) then (impl_IsHistory.l2 k x0 x62 x63 x64 ((rd_T53 x62 x64).f2) (((rd_T53 x62 x64).f2).length : Int) 0 ((rd_T53 x62 x64).f0) ((rd_T53 x62 x64).f1) ((rd_T53 x62 x64).f2) ((rd_T53 x62 x64).f3)) else (none)) else (none)) else (some true)
def impl_IsHistory.l2 : Nat → List (S53) → List (S53) → Int → Int → List (S55) → Int → Int → Int → Int → List (S55) → List (S57) → Option (Bool)
 | 0, _, _, _, _, _, _, _, _, _, _, _ => none
 | k + 1, x0, x62, x63, x64, x69, x70, x71, x292000, x292001, x292002, x292003 => if x71 < x70 then (if 0 ≤ x71 then (if x71 < (x69.length : Int) then ((impl_WriterOf.f k x0 ((rd_T55 x69 x71).f0) ((rd_T55 x69 x71).f1)).bind fun t294 => (if t294 = x292000 then (impl_IsHistory.j5 k x0 x62 x63 x64 x69 x70 x71 true x292000 x292001 x292002 x292003) else (if ((rd_T55 x69 x71).f1) > 0 then (impl_IsHistory.j5 k x0 x62 x63 x64 x69 x70 x71 (t294 == 0) x292000 x292001 x292002 x292003) else (impl_IsHistory.j5 k x0 x62 x63 x64 x69 x70 x71 false x292000 x292001 x292002 x292003)))) else (none)) else (none)) else (impl_IsHistory.l1 k x0 x62 x63 (wrap64 (x64 + 1)))
def impl_IsHistory.j5 : Nat → List (S53) → List (S53) → Int → Int → List (S55) → Int → Int → Bool → Int → Int → List (S55) → List (S57) → Option (Bool)
 | 0, _, _, _, _, _, _, _, _, _, _, _, _ => none
 | k + 1, x0, x62, x63, x64, x69, x70, x71, x90, x292000, x292001, x292002, x292003 => if x90 = true then (some false) else (impl_IsHistory.l2 k x0 x62 x63 x64 x69 x70 (wrap64 (x71 + 1)) x292000 x292001 x292002 x292003)
end
def impl_IsHistory.f (k : Nat) (l0 : List (S53)) : Option (Bool) := if (l0.length : Int) > 9 then (some false) else (impl_IsHistory.l0 k l0 l0 (l0.length : Int) 0)
theorem impl_IsHistory.mono_l : ∀ k, (∀ y0 y1 y2 y3, LeO (impl_IsHistory.l0 k y0 y1 y2 y3) (impl_IsHistory.l0 (k + 1) y0 y1 y2 y3)) ∧ (∀ y0 y1 y2 y3 y4 y5 y6 y7 y8, LeO (impl_IsHistory.j1 k y0 y1 y2 y3 y4 y5 y6 y7 y8) (impl_IsHistory.j1 (k + 1) y0 y1 y2 y3 y4 y5 y6 y7 y8)) ∧ (∀ y0 y1 y2 y3 y4, LeO (impl_IsHistory.j2 k y0 y1 y2 y3 y4) (impl_IsHistory.j2 (k + 1) y0 y1 y2 y3 y4)) ∧ (∀ y0 y1 y2 y3, LeO (impl_IsHistory.l1 k y0 y1 y2 y3) (impl_IsHistory.l1 (k + 1) y0 y1 y2 y3)) ∧ (∀ y0 y1 y2 y3 y4 y5 y6 y7 y8 y9 y10, LeO (impl_IsHistory.l2 k y0 y1 y2 y3 y4 y5 y6 y7 y8 y9 y10) (impl_IsHistory.l2 (k + 1) y0 y1 y2 y3 y4 y5 y6 y7 y8 y9 y10)) ∧ (∀ y0 y1 y2 y3 y4 y5 y6 y7 y8 y9 y10 y11, LeO (impl_IsHistory.j5 k y0 y1 y2 y3 y4 y5 y6 y7 y8 y9 y10 y11) (impl_IsHistory.j5 (k + 1) y0 y1 y2 y3 y4 y5 y6 y7 y8 y9 y10 y11))
 | 0 => ⟨fun _ _ _ _ r h => by simp [impl_IsHistory.l0] at h, fun _ _ _ _ _ _ _ _ _ r h => by simp [impl_IsHistory.j1] at h, fun _ _ _ _ _ r h => by simp [impl_IsHistory.j2] at h, fun _ _ _ _ r h => by simp [impl_IsHistory.l1] at h, fun _ _ _ _ _ _ _ _ _ _ _ r h => by simp [impl_IsHistory.l2] at h, fun _ _ _ _ _ _ _ _ _ _ _ _ r h => by simp [impl_IsHistory.j5] at h⟩
 | k + 1 => by
  obtain ⟨ih0, ih1, ih2, ih3, ih4, ih5⟩ := impl_IsHistory.mono_l k
  refine ⟨?_, ?_, ?_, ?_, ?_, ?_⟩
  ·intro y0 y1 y2 y3
   unfold impl_IsHistory.l0
   repeat' first
   | (with_reducible exact ih0 _ _ _ _)
   | (with_reducible exact ih1 _ _ _ _ _ _ _ _ _)
   | (with_reducible exact ih2 _ _ _ _ _)
   | (with_reducible exact ih3 _ _ _ _)
   | (with_reducible exact ih4 _ _ _ _ _ _ _ _ _ _ _)
   | (with_reducible exact ih5 _ _ _ _ _ _ _ _ _ _ _ _)
   | (with_reducible exact impl_FindEntry.mono _ _ _)
   | (with_reducible exact impl_WriterOf.mono _ _ _ _)
   | (with_reducible exact impl_isEntry.mono _ _ _ _ _)
   | (with_reducible exact LeO.refl _)
   | (with_reducible exact LeO.none _)
   | (with_reducible refine LeO.ite ?_ ?_)
   | (with_reducible refine LeO.bind ?_ (fun _ => ?_))
   | exact ih0 _ _ _ _
   | exact ih1 _ _ _ _ _ _ _ _ _
   | exact ih2 _ _ _ _ _
   | exact ih3 _ _ _ _
   | exact ih4 _ _ _ _ _ _ _ _ _ _ _
   | exact ih5 _ _ _ _ _ _ _ _ _ _ _ _
   | exact impl_FindEntry.mono _ _ _
   | exact impl_WriterOf.mono _ _ _ _
   | exact impl_isEntry.mono _ _ _ _ _
   | exact LeO.none _
   | refine LeO.ite ?_ ?_
   | refine LeO.bind ?_ (fun _ => ?_)
  ·intro y0 y1 y2 y3 y4 y5 y6 y7 y8
   unfold impl_IsHistory.j1
   repeat' first
   | (with_reducible exact ih0 _ _ _ _)
   | (with_reducible exact ih1 _ _ _ _ _ _ _ _ _)
   | (with_reducible exact ih2 _ _ _ _ _)
   | (with_reducible exact ih3 _ _ _ _)
   | (with_reducible exact ih4 _ _ _ _ _ _ _ _ _ _ _)
   | (with_reducible exact ih5 _ _ _ _ _ _ _ _ _ _ _ _)
   | (with_reducible exact impl_FindEntry.mono _ _ _)
   | (with_reducible exact impl_WriterOf.mono _ _ _ _)
   | (with_reducible exact impl_isEntry.mono _ _ _ _ _)
   | (with_reducible exact LeO.refl _)
   | (with_reducible exact LeO.none _)
   | (with_reducible refine LeO.ite ?_ ?_)
   | (with_reducible refine LeO.bind ?_ (fun _ => ?_))
   | exact ih0 _ _ _ _
   | exact ih1 _ _ _ _ _ _ _ _ _
   | exact ih2 _ _ _ _ _
   | exact ih3 _ _ _ _
   | exact ih4 _ _ _ _ _ _ _ _ _ _ _
   | exact ih5 _ _ _ _ _ _ _ _ _ _ _ _
   | exact impl_FindEntry.mono _ _ _
   | exact impl_WriterOf.mono _ _ _ _
   | exact impl_isEntry.mono _ _ _ _ _
   | exact LeO.none _
   | refine LeO.ite ?_ ?_
   | refine LeO.bind ?_ (fun _ => ?_)
  ·intro y0 y1 y2 y3 y4
   unfold impl_IsHistory.j2
   repeat' first
   | (with_reducible exact ih0 _ _ _ _)
   | (with_reducible exact ih1 _ _ _ _ _ _ _ _ _)
   | (with_reducible exact ih2 _ _ _ _ _)
   | (with_reducible exact ih3 _ _ _ _)
   | (with_reducible exact ih4 _ _ _ _ _ _ _ _ _ _ _)
   | (with_reducible exact ih5 _ _ _ _ _ _ _ _ _ _ _ _)
   | (with_reducible exact impl_FindEntry.mono _ _ _)
   | (with_reducible exact impl_WriterOf.mono _ _ _ _)
   | (with_reducible exact impl_isEntry.mono _ _ _ _ _)
   | (with_reducible exact LeO.refl _)
   | (with_reducible exact LeO.none _)
   | (with_reducible refine LeO.ite ?_ ?_)
   | (with_reducible refine LeO.bind ?_ (fun _ => ?_))
   | exact ih0 _ _ _ _
   | exact ih1 _ _ _ _ _ _ _ _ _
   | exact ih2 _ _ _ _ _
   | exact ih3 _ _ _ _
   | exact ih4 _ _ _ _ _ _ _ _ _ _ _
   | exact ih5 _ _ _ _ _ _ _ _ _ _ _ _
   | exact impl_FindEntry.mono _ _ _
   | exact impl_WriterOf.mono _ _ _ _
   | exact impl_isEntry.mono _ _ _ _ _
   | exact LeO.none _
   | refine LeO.ite ?_ ?_
   | refine LeO.bind ?_ (fun _ => ?_)
  ·intro y0 y1 y2 y3
   unfold impl_IsHistory.l1
   repeat' first
   | (with_reducible exact ih0 _ _ _ _)
   | (with_reducible exact ih1 _ _ _ _ _ _ _ _ _)
   | (with_reducible exact ih2 _ _ _ _ _)
   | (with_reducible exact ih3 _ _ _ _)
   | (with_reducible exact ih4 _ _ _ _ _ _ _ _ _ _ _)
   | (with_reducible exact ih5 _ _ _ _ _ _ _ _ _ _ _ _)
   | (with_reducible exact impl_FindEntry.mono _ _ _)
   | (with_reducible exact impl_WriterOf.mono _ _ _ _)
   | (with_reducible exact impl_isEntry.mono _ _ _ _ _)
   | (with_reducible exact LeO.refl _)
   | (with_reducible exact LeO.none _)
   | (with_reducible refine LeO.ite ?_ ?_)
   | (with_reducible refine LeO.bind ?_ (fun _ => ?_))
   | exact ih0 _ _ _ _
   | exact ih1 _ _ _ _ _ _ _ _ _
   | exact ih2 _ _ _ _ _
   | exact ih3 _ _ _ _
   | exact ih4 _ _ _ _ _ _ _ _ _ _ _
   | exact ih5 _ _ _ _ _ _ _ _ _ _ _ _
   | exact impl_FindEntry.mono _ _ _
   | exact impl_WriterOf.mono _ _ _ _
   | exact impl_isEntry.mono _ _ _ _ _
   | exact LeO.none _
   | refine LeO.ite ?_ ?_
   | refine LeO.bind ?_ (fun _ => ?_)
  ·intro y0 y1 y2 y3 y4 y5 y6 y7 y8 y9 y10
   unfold impl_IsHistory.l2
   repeat' first
   | (with_reducible exact ih0 _ _ _ _)
   | (with_reducible exact ih1 _ _ _ _ _ _ _ _ _)
   | (with_reducible exact ih2 _ _ _ _ _)
   | (with_reducible exact ih3 _ _ _ _)
   | (with_reducible exact ih4 _ _ _ _ _ _ _ _ _ _ _)
   | (with_reducible exact ih5 _ _ _ _ _ _ _ _ _ _ _ _)
   | (with_reducible exact impl_FindEntry.mono _ _ _)
   | (with_reducible exact impl_WriterOf.mono _ _ _ _)
   | (with_reducible exact impl_isEntry.mono _ _ _ _ _)
   | (with_reducible exact LeO.refl _)
   | (with_reducible exact LeO.none _)
   | (with_reducible refine LeO.ite ?_ ?_)
   | (with_reducible refine LeO.bind ?_ (fun _ => ?_))
   | exact ih0 _ _ _ _
   | exact ih1 _ _ _ _ _ _ _ _ _
   | exact ih2 _ _ _ _ _
   | exact ih3 _ _ _ _
   | exact ih4 _ _ _ _ _ _ _ _ _ _ _
   | exact ih5 _ _ _ _ _ _ _ _ _ _ _ _
   | exact impl_FindEntry.mono _ _ _
   | exact impl_WriterOf.mono _ _ _ _
   | exact impl_isEntry.mono _ _ _ _ _
   | exact LeO.none _
   | refine LeO.ite ?_ ?_
   | refine LeO.bind ?_ (fun _ => ?_)
  ·intro y0 y1 y2 y3 y4 y5 y6 y7 y8 y9 y10 y11
   unfold impl_IsHistory.j5
   repeat' first
   | (with_reducible exact ih0 _ _ _ _)
   | (with_reducible exact ih1 _ _ _ _ _ _ _ _ _)
   | (with_reducible exact ih2 _ _ _ _ _)
   | (with_reducible exact ih3 _ _ _ _)
   | (with_reducible exact ih4 _ _ _ _ _ _ _ _ _ _ _)
   | (with_reducible exact ih5 _ _ _ _ _ _ _ _ _ _ _ _)
   | (with_reducible exact impl_FindEntry.mono _ _ _)
   | (with_reducible exact impl_WriterOf.mono _ _ _ _)
   | (with_reducible exact impl_isEntry.mono _ _ _ _ _)
   | (with_reducible exact LeO.refl _)
   | (with_reducible exact LeO.none _)
   | (with_reducible refine LeO.ite ?_ ?_)
   | (with_reducible refine LeO.bind ?_ (fun _ => ?_))
   | exact ih0 _ _ _ _
   | exact ih1 _ _ _ _ _ _ _ _ _
   | exact ih2 _ _ _ _ _
   | exact ih3 _ _ _ _
   | exact ih4 _ _ _ _ _ _ _ _ _ _ _
   | exact ih5 _ _ _ _ _ _ _ _ _ _ _ _
   | exact impl_FindEntry.mono _ _ _
   | exact impl_WriterOf.mono _ _ _ _
   | exact impl_isEntry.mono _ _ _ _ _
   | exact LeO.none _
   | refine LeO.ite ?_ ?_
   | refine LeO.bind ?_ (fun _ => ?_)
theorem impl_IsHistory.mono : ∀ a0 k, LeO (impl_IsHistory.f k a0) (impl_IsHistory.f (k + 1) a0) := by
 intro a0 k
 obtain ⟨ih0, ih1, ih2, ih3, ih4, ih5⟩ := impl_IsHistory.mono_l k
 unfold impl_IsHistory.f
 repeat' first
   | (with_reducible exact ih0 _ _ _ _)
   | (with_reducible exact ih1 _ _ _ _ _ _ _ _ _)
   | (with_reducible exact ih2 _ _ _ _ _)
   | (with_reducible exact ih3 _ _ _ _)
   | (with_reducible exact ih4 _ _ _ _ _ _ _ _ _ _ _)
   | (with_reducible exact ih5 _ _ _ _ _ _ _ _ _ _ _ _)
   | (with_reducible exact impl_FindEntry.mono _ _ _)
   | (with_reducible exact impl_WriterOf.mono _ _ _ _)
   | (with_reducible exact impl_isEntry.mono _ _ _ _ _)
   | (with_reducible exact LeO.refl _)
   | (with_reducible exact LeO.none _)
   | (with_reducible refine LeO.ite ?_ ?_)
   | (with_reducible refine LeO.bind ?_ (fun _ => ?_))
   | exact ih0 _ _ _ _
   | exact ih1 _ _ _ _ _ _ _ _ _
   | exact ih2 _ _ _ _ _
   | exact ih3 _ _ _ _
   | exact ih4 _ _ _ _ _ _ _ _ _ _ _
   | exact ih5 _ _ _ _ _ _ _ _ _ _ _ _
   | exact impl_FindEntry.mono _ _ _
   | exact impl_WriterOf.mono _ _ _ _
   | exact impl_isEntry.mono _ _ _ _ _
   | exact LeO.none _
   | refine LeO.ite ?_ ?_
   | refine LeO.bind ?_ (fun _ => ?_)
set_option maxHeartbeats 8000000 in
set_option maxRecDepth 100000 in
theorem impl_IsHistory.calls (k : Nat) (A0 : Option Addr) (c0 : Nat) (l0 : List (S53)) (r : Bool) (w : World) (hr0 : Kd.C k53 w A0 l0.length l0) (hc0 : l0.length ≤ c0) (h : impl_IsHistory.f k l0 = some r) :
  Calls Tryd.prog 26 #[.slice A0 l0.length c0] w fun e w' => e = .returned (.bool r) ∧ Below w.heap.size w w' := by
 have hu53 := Tryd.underlying53
 have hu55 := Tryd.underlying55
 have HR0 := AM_ hr0
 have HC0 := AM_ hc0
 clear hr0 hc0
 have HB := AM_ (Below.refl w.heap.size w)
 have H : (if (l0.length : Int) > 9 then (some false) else (impl_IsHistory.l0 k l0 l0 (l0.length : Int) 0)) = some r := h
 clear h
 by_cases c2 : (l0.length : Int) > 9
 ·rw [if_pos c2] at H
  have c2b0 : decide (9 < (l0.length : Int)) = true := decide_eq_true c2
  have c2b1 : decide (9 < l0.length) = true := decide_eq_true (by omega)
  clear c2
  obtain rfl := Option.some.inj H
  go_enter Tryd.func26, Tryd.ntmps26
  go_wp2
  repeat (go_quiet (fail); try go_wp2)
  go_ret
  exact QT (BT HB.out)
 rw [if_neg c2] at H
 have c2b0 : decide (9 < (l0.length : Int)) = false := decide_eq_false c2
 have c2b1 : decide (9 < l0.length) = false := decide_eq_false (by omega)
 clear c2
 have H' := AM_ H
 clear H
 go_enter Tryd.func26, Tryd.ntmps26
 go_wp2
 repeat (go_quiet (fail); try go_wp2)
 go_loopg [15] k (fun kq v15 w' => ∃ (x15_1 : Int), v15 = .int .i64 x15_1 ∧ Aside0 (impl_IsHistory.l0 kq l0 l0 (l0.length : Int) x15_1 = some r) ∧ Aside0 (kq ≤ k) ∧ Aside0 (Below w.heap.size w w'))
 case atStart => exact ⟨(0), (by first | rfl | (simp; done) | (simp [*]; done)), H', ⟨Nat.le_refl _⟩, ⟨BT HB.out⟩⟩
 case round =>
  clear H'
  try clear c2
  try clear c2b0
  try clear c2b1
  try clear p2
  obtain ⟨x15_1, rfl, HA, HK1, HB⟩ := hrel
  cases gk with
  | zero => exact absurd HA.out (by simp [impl_IsHistory.l0])
  | succ k1 =>
   have H := HA.out
   clear HA
   simp only [impl_IsHistory.l0] at H
   by_cases c3 : x15_1 < (l0.length : Int)
   ·rw [if_pos c3] at H
    have c3b0 : decide (x15_1 < (l0.length : Int)) = true := decide_eq_true c3
    clear c3
    by_cases c4 : 0 ≤ x15_1
    rotate_left
    ·rw [if_neg c4] at H
     exact absurd H (by simp)
    rw [if_pos c4] at H
    have c4b0 : decide (0 ≤ x15_1) = true := decide_eq_true c4
    clear c4
    by_cases c5 : x15_1 < (l0.length : Int)
    rotate_left
    ·rw [if_neg c5] at H
     exact absurd H (by simp)
    rw [if_pos c5] at H
    have c5b0 : decide (x15_1 < (l0.length : Int)) = true := decide_eq_true c5
    clear c5
    have HC6 := AM_ H
    clear H
    have p284 : 0 ≤ (x15_1 : Int) := DT
    have q284 : x15_1 < (l0.length : Int) := DT
    obtain ⟨ad284, A284_2, c284_2, A284_3, c284_3, e284, hx284_0, hx284_1, hx284_2, hx284_3, hl284_2, hi284_2, hl284_3, hi284_3⟩ := at_T53 HR0.out x15_1 p284 q284
    cases e284
    replace hx284_0 := BC HB.out hx284_0
    replace hx284_1 := BC HB.out hx284_1
    replace hx284_2 := BC HB.out hx284_2
    replace hx284_3 := BC HB.out hx284_3
    have HR284_2 := AM_ hi284_2
    have HC284_2 := AM_ hl284_2
    clear hi284_2 hl284_2
    have HR284_3 := AM_ hi284_3
    have HC284_3 := AM_ hl284_3
    clear hi284_3 hl284_3
    replace p284 := eq_true p284
    replace q284 := eq_true q284
    go_upto_region 6 with (first | ((with_reducible refine gate_dst (N := 4) rfl ?_); (try (refine gate_guard (by rfl) ?_; dsimp only)); refine box_event ?hg (N := 4) ?hd (cs := #[.int .i64 0, .int .i64 0, .slice none 0 0, .slice none 0 0]) (t := 53) ?hr ?_; (case hd => rfl); (case hg => rfl); (case hr => first | (go_simp; done) | (go_simp; rfl)); intro gb285 hg w7 hbox hb; have BK285 := AM_ (hbox); have GW285 := AM_ ((GS HB.out hg)); have GE285 := AM_ ((GS HB.out hg)); replace HB := AM_ (below_step (BT HB.out) hb); clear hb hbox hg; obtain ⟨hcz8_0, hcz8_1, hcz8_2, hcz8_3, hfz8_0, hfz8_1, hfz8_2, hfz8_3⟩ := bk4 BK285.out))
    repeat (go_quiet (first | ((with_reducible refine gate_dst (N := 4) rfl ?_); (try (refine gate_guard (by rfl) ?_; dsimp only)); refine box_event ?hg (N := 4) ?hd (cs := #[.int .i64 0, .int .i64 0, .slice none 0 0, .slice none 0 0]) (t := 53) ?hr ?_; (case hd => rfl); (case hg => rfl); (case hr => first | (go_simp; done) | (go_simp; rfl)); intro gb285 hg w7 hbox hb; have BK285 := AM_ (hbox); have GW285 := AM_ ((GS HB.out hg)); have GE285 := AM_ ((GS HB.out hg)); replace HB := AM_ (below_step (BT HB.out) hb); clear hb hbox hg; obtain ⟨hcz8_0, hcz8_1, hcz8_2, hcz8_3, hfz8_0, hfz8_1, hfz8_2, hfz8_3⟩ := bk4 BK285.out)); go_upto_region 6 with (first | ((with_reducible refine gate_dst (N := 4) rfl ?_); (try (refine gate_guard (by rfl) ?_; dsimp only)); refine box_event ?hg (N := 4) ?hd (cs := #[.int .i64 0, .int .i64 0, .slice none 0 0, .slice none 0 0]) (t := 53) ?hr ?_; (case hd => rfl); (case hg => rfl); (case hr => first | (go_simp; done) | (go_simp; rfl)); intro gb285 hg w7 hbox hb; have BK285 := AM_ (hbox); have GW285 := AM_ ((GS HB.out hg)); have GE285 := AM_ ((GS HB.out hg)); replace HB := AM_ (below_step (BT HB.out) hb); clear hb hbox hg; obtain ⟨hcz8_0, hcz8_1, hcz8_2, hcz8_3, hfz8_0, hfz8_1, hfz8_2, hfz8_3⟩ := bk4 BK285.out)))
    (try simp only [pA, pS, pZ, pK])
    go_cut [30] (fun v30 wc => ∃ (kq : Nat) (x30_5 : Bool), v30 = .bool x30_5 ∧ Aside0 (impl_IsHistory.j1 kq l0 x15_1 l0 (l0.length : Int) x30_5 ((rd_T53 l0 x15_1).f0) ((rd_T53 l0 x15_1).f1) ((rd_T53 l0 x15_1).f2) ((rd_T53 l0 x15_1).f3) = some r) ∧ Aside0 (kq ≤ k1) ∧ Aside0 (wc.heap[gb285]? = some (.cells #[.int .i64 ((rd_T53 l0 x15_1).f0), .int .i64 ((rd_T53 l0 x15_1).f1), (.slice A284_2 ((rd_T53 l0 x15_1).f2).length c284_2), (.slice A284_3 ((rd_T53 l0 x15_1).f3).length c284_3)] 53 (0, 0))) ∧ Aside0 (Below w.heap.size w wc))
    case first =>
     have H := HC6.out
     clear HC6
     replace H := Option.bind_eq_some_iff.mp H
     obtain ⟨t286, A90, H⟩ := H
     replace H : (if t286 = true then ((impl_FindEntry.f k1 l0 ((rd_T53 l0 x15_1).f0)).bind fun t287 => (impl_IsHistory.j1 k1 l0 x15_1 l0 (l0.length : Int) (t287 != x15_1) ((rd_T53 l0 x15_1).f0) ((rd_T53 l0 x15_1).f1) ((rd_T53 l0 x15_1).f2) ((rd_T53 l0 x15_1).f3))) else (impl_IsHistory.j1 k1 l0 x15_1 l0 (l0.length : Int) true ((rd_T53 l0 x15_1).f0) ((rd_T53 l0 x15_1).f1) ((rd_T53 l0 x15_1).f2) ((rd_T53 l0 x15_1).f3))) = some r := H
     have A9 := AM_ A90
     clear A90
     by_cases c10 : t286 = true
     rotate_left
     ·replace c10 := Bool.eq_false_iff.mpr c10
      subst c10
      have H1 : (impl_IsHistory.j1 k1 l0 x15_1 l0 (l0.length : Int) true ((rd_T53 l0 x15_1).f0) ((rd_T53 l0 x15_1).f1) ((rd_T53 l0 x15_1).f2) ((rd_T53 l0 x15_1).f3)) = some r := by rw [if_neg (show ¬ (false = true) by decide)] at H; exact H
      clear H
      have H := H1
      clear H1
      have H' := AM_ H
      clear H
      obtain ⟨hcz16_0, hcz16_1, hcz16_2, hcz16_3, hfz16_0, hfz16_1, hfz16_2, hfz16_3⟩ := bk4 BK285.out
      go_wp2_with (first | (go_at_call 48; (with_reducible refine (impl_isEntry.calls k1 ((rd_T53 l0 x15_1).f0) ((rd_T53 l0 x15_1).f1) _ _ ((rd_T53 l0 x15_1).f2) _ _ ((rd_T53 l0 x15_1).f3) false _ ?side1 ?side2 ?side3 ?side4 A9.out).mono ?_); (case side1 => exact Kd.C_below HR284_2.out (BT HB.out)); (case side2 => exact HC284_2.out); (case side3 => exact Kd.C_below HR284_3.out (BT HB.out)); (case side4 => exact HC284_3.out); rintro e w17 ⟨rfl, hb⟩; replace BK285 := AM_ (BP #[.int .i64 ((rd_T53 l0 x15_1).f0), .int .i64 ((rd_T53 l0 x15_1).f1), .slice A284_2 ((rd_T53 l0 x15_1).f2).length c284_2, .slice A284_3 ((rd_T53 l0 x15_1).f3).length c284_3] BK285.out hb); replace HB := AM_ (below_step (BT HB.out) hb); (try clear hb); (try clear hb2); (try clear hk); (try clear hi)))
      repeat (go_quiet (first | (go_at_call 48; (with_reducible refine (impl_isEntry.calls k1 ((rd_T53 l0 x15_1).f0) ((rd_T53 l0 x15_1).f1) _ _ ((rd_T53 l0 x15_1).f2) _ _ ((rd_T53 l0 x15_1).f3) false _ ?side1 ?side2 ?side3 ?side4 A9.out).mono ?_); (case side1 => exact Kd.C_below HR284_2.out (BT HB.out)); (case side2 => exact HC284_2.out); (case side3 => exact Kd.C_below HR284_3.out (BT HB.out)); (case side4 => exact HC284_3.out); rintro e w17 ⟨rfl, hb⟩; replace BK285 := AM_ (BP #[.int .i64 ((rd_T53 l0 x15_1).f0), .int .i64 ((rd_T53 l0 x15_1).f1), .slice A284_2 ((rd_T53 l0 x15_1).f2).length c284_2, .slice A284_3 ((rd_T53 l0 x15_1).f3).length c284_3] BK285.out hb); replace HB := AM_ (below_step (BT HB.out) hb); (try clear hb); (try clear hb2); (try clear hk); (try clear hi))); try go_wp2_with (first | (go_at_call 48; (with_reducible refine (impl_isEntry.calls k1 ((rd_T53 l0 x15_1).f0) ((rd_T53 l0 x15_1).f1) _ _ ((rd_T53 l0 x15_1).f2) _ _ ((rd_T53 l0 x15_1).f3) false _ ?side1 ?side2 ?side3 ?side4 A9.out).mono ?_); (case side1 => exact Kd.C_below HR284_2.out (BT HB.out)); (case side2 => exact HC284_2.out); (case side3 => exact Kd.C_below HR284_3.out (BT HB.out)); (case side4 => exact HC284_3.out); rintro e w17 ⟨rfl, hb⟩; replace BK285 := AM_ (BP #[.int .i64 ((rd_T53 l0 x15_1).f0), .int .i64 ((rd_T53 l0 x15_1).f1), .slice A284_2 ((rd_T53 l0 x15_1).f2).length c284_2, .slice A284_3 ((rd_T53 l0 x15_1).f3).length c284_3] BK285.out hb); replace HB := AM_ (below_step (BT HB.out) hb); (try clear hb); (try clear hb2); (try clear hk); (try clear hi))))
      go_meet
      case rel => exact ⟨_, (true), (by first | rfl | (simp; done) | (simp [*]; done)), H', ⟨by have := HK1.out; first | omega | exact Nat.le_refl _⟩, ⟨BH BK285.out⟩, ⟨BT HB.out⟩⟩
     subst c10
     have H1 : ((impl_FindEntry.f k1 l0 ((rd_T53 l0 x15_1).f0)).bind fun t287 => (impl_IsHistory.j1 k1 l0 x15_1 l0 (l0.length : Int) (t287 != x15_1) ((rd_T53 l0 x15_1).f0) ((rd_T53 l0 x15_1).f1) ((rd_T53 l0 x15_1).f2) ((rd_T53 l0 x15_1).f3))) = some r := by rw [if_pos rfl] at H; exact H
     clear H
     have H := H1
     clear H1
     replace H := Option.bind_eq_some_iff.mp H
     obtain ⟨t287, A110, H⟩ := H
     replace H : (impl_IsHistory.j1 k1 l0 x15_1 l0 (l0.length : Int) (t287 != x15_1) ((rd_T53 l0 x15_1).f0) ((rd_T53 l0 x15_1).f1) ((rd_T53 l0 x15_1).f2) ((rd_T53 l0 x15_1).f3)) = some r := H
     have A11 := AM_ A110
     clear A110
     have H' := AM_ H
     clear H
     obtain ⟨hcz12_0, hcz12_1, hcz12_2, hcz12_3, hfz12_0, hfz12_1, hfz12_2, hfz12_3⟩ := bk4 BK285.out
     go_wp2_with (first | (go_at_call 48; (with_reducible refine (impl_isEntry.calls k1 ((rd_T53 l0 x15_1).f0) ((rd_T53 l0 x15_1).f1) _ _ ((rd_T53 l0 x15_1).f2) _ _ ((rd_T53 l0 x15_1).f3) true _ ?side1 ?side2 ?side3 ?side4 A9.out).mono ?_); (case side1 => exact Kd.C_below HR284_2.out (BT HB.out)); (case side2 => exact HC284_2.out); (case side3 => exact Kd.C_below HR284_3.out (BT HB.out)); (case side4 => exact HC284_3.out); rintro e w13 ⟨rfl, hb⟩; replace BK285 := AM_ (BP #[.int .i64 ((rd_T53 l0 x15_1).f0), .int .i64 ((rd_T53 l0 x15_1).f1), .slice A284_2 ((rd_T53 l0 x15_1).f2).length c284_2, .slice A284_3 ((rd_T53 l0 x15_1).f3).length c284_3] BK285.out hb); replace HB := AM_ (below_step (BT HB.out) hb); (try clear hb); (try clear hb2); (try clear hk); (try clear hi); obtain ⟨hcz14_0, hcz14_1, hcz14_2, hcz14_3, hfz14_0, hfz14_1, hfz14_2, hfz14_3⟩ := bk4 BK285.out) | (go_at_call 49; (with_reducible refine (impl_FindEntry.calls k1 _ _ l0 ((rd_T53 l0 x15_1).f0) t287 _ ?side1 ?side2 A11.out).mono ?_); (case side1 => exact CB HR0.out HB.out); (case side2 => exact HC0.out); rintro e w15 ⟨rfl, hb⟩; replace BK285 := AM_ (BB BK285.out hb); replace HB := AM_ (below_step (BT HB.out) hb); (try clear hb); (try clear hb2); (try clear hk); (try clear hi)))
     repeat (go_quiet (first | (go_at_call 48; (with_reducible refine (impl_isEntry.calls k1 ((rd_T53 l0 x15_1).f0) ((rd_T53 l0 x15_1).f1) _ _ ((rd_T53 l0 x15_1).f2) _ _ ((rd_T53 l0 x15_1).f3) true _ ?side1 ?side2 ?side3 ?side4 A9.out).mono ?_); (case side1 => exact Kd.C_below HR284_2.out (BT HB.out)); (case side2 => exact HC284_2.out); (case side3 => exact Kd.C_below HR284_3.out (BT HB.out)); (case side4 => exact HC284_3.out); rintro e w13 ⟨rfl, hb⟩; replace BK285 := AM_ (BP #[.int .i64 ((rd_T53 l0 x15_1).f0), .int .i64 ((rd_T53 l0 x15_1).f1), .slice A284_2 ((rd_T53 l0 x15_1).f2).length c284_2, .slice A284_3 ((rd_T53 l0 x15_1).f3).length c284_3] BK285.out hb); replace HB := AM_ (below_step (BT HB.out) hb); (try clear hb); (try clear hb2); (try clear hk); (try clear hi); obtain ⟨hcz14_0, hcz14_1, hcz14_2, hcz14_3, hfz14_0, hfz14_1, hfz14_2, hfz14_3⟩ := bk4 BK285.out) | (go_at_call 49; (with_reducible refine (impl_FindEntry.calls k1 _ _ l0 ((rd_T53 l0 x15_1).f0) t287 _ ?side1 ?side2 A11.out).mono ?_); (case side1 => exact CB HR0.out HB.out); (case side2 => exact HC0.out); rintro e w15 ⟨rfl, hb⟩; replace BK285 := AM_ (BB BK285.out hb); replace HB := AM_ (below_step (BT HB.out) hb); (try clear hb); (try clear hb2); (try clear hk); (try clear hi))); try go_wp2_with (first | (go_at_call 48; (with_reducible refine (impl_isEntry.calls k1 ((rd_T53 l0 x15_1).f0) ((rd_T53 l0 x15_1).f1) _ _ ((rd_T53 l0 x15_1).f2) _ _ ((rd_T53 l0 x15_1).f3) true _ ?side1 ?side2 ?side3 ?side4 A9.out).mono ?_); (case side1 => exact Kd.C_below HR284_2.out (BT HB.out)); (case side2 => exact HC284_2.out); (case side3 => exact Kd.C_below HR284_3.out (BT HB.out)); (case side4 => exact HC284_3.out); rintro e w13 ⟨rfl, hb⟩; replace BK285 := AM_ (BP #[.int .i64 ((rd_T53 l0 x15_1).f0), .int .i64 ((rd_T53 l0 x15_1).f1), .slice A284_2 ((rd_T53 l0 x15_1).f2).length c284_2, .slice A284_3 ((rd_T53 l0 x15_1).f3).length c284_3] BK285.out hb); replace HB := AM_ (below_step (BT HB.out) hb); (try clear hb); (try clear hb2); (try clear hk); (try clear hi); obtain ⟨hcz14_0, hcz14_1, hcz14_2, hcz14_3, hfz14_0, hfz14_1, hfz14_2, hfz14_3⟩ := bk4 BK285.out) | (go_at_call 49; (with_reducible refine (impl_FindEntry.calls k1 _ _ l0 ((rd_T53 l0 x15_1).f0) t287 _ ?side1 ?side2 A11.out).mono ?_); (case side1 => exact CB HR0.out HB.out); (case side2 => exact HC0.out); rintro e w15 ⟨rfl, hb⟩; replace BK285 := AM_ (BB BK285.out hb); replace HB := AM_ (below_step (BT HB.out) hb); (try clear hb); (try clear hb2); (try clear hk); (try clear hi))))
     go_meet
     case rel => exact ⟨_, ((t287 != x15_1)), (by first | rfl | (simp; done) | (simp [*]; done)), H', ⟨by have := HK1.out; first | omega | exact Nat.le_refl _⟩, ⟨BH BK285.out⟩, ⟨BT HB.out⟩⟩
    case rest =>
     clear HC6
     try clear c1
     try clear c2
     try clear c2b0
     try clear c2b1
     try clear p2
     try clear q2
     try clear hx2
     try clear c3
     try clear c3b0
     try clear c4
     try clear c4b0
     try clear c5
     try clear c5b0
     try clear c10
     try clear hcz12_0
     try clear hcz12_1
     try clear hcz12_2
     try clear hcz12_3
     try clear hcz14_0
     try clear hcz14_1
     try clear hcz14_2
     try clear hcz14_3
     try clear hcz16_0
     try clear hcz16_1
     try clear hcz16_2
     try clear hcz16_3
     try clear hcz8_0
     try clear hcz8_1
     try clear hcz8_2
     try clear hcz8_3
     try clear hfz12_0
     try clear hfz12_1
     try clear hfz12_2
     try clear hfz12_3
     try clear hfz14_0
     try clear hfz14_1
     try clear hfz14_2
     try clear hfz14_3
     try clear hfz16_0
     try clear hfz16_1
     try clear hfz16_2
     try clear hfz16_3
     try clear hfz8_0
     try clear hfz8_1
     try clear hfz8_2
     try clear hfz8_3
     try clear hx284_0
     try clear hx284_1
     try clear hx284_2
     try clear hx284_3
     try clear p2
     try clear p284
     try clear q284
     obtain ⟨kq, x30_5, rfl, HA, HJ5, BK285, HB⟩ := hcut
     cases kq with
     | zero => exact absurd HA.out (by simp [impl_IsHistory.j1])
     | succ kj5 =>
      have H := HA.out
      clear HA
      simp only [impl_IsHistory.j1] at H
      by_cases c18 : x30_5 = true
      ·subst c18
       have H1 : (some false) = some r := by rw [if_pos rfl] at H; exact H
       clear H
       have H := H1
       clear H1
       obtain rfl := Option.some.inj H
       go_wp2
       repeat (go_quiet (fail); try go_wp2)
       go_ret
       exact QT (BT HB.out)
      replace c18 := Bool.eq_false_iff.mpr c18
      subst c18
      have H1 : (if x15_1 > 0 then (if 0 ≤ (wrap64 (x15_1 - 1)) then (if (wrap64 (x15_1 - 1)) < (l0.length : Int) then (if ((rd_T53 l0 x15_1).f1) < ((rd_T53 l0 (wrap64 (x15_1 - 1))).f1) then (impl_IsHistory.j2 kj5 l0 x15_1 l0 (l0.length : Int) true) else (if ((rd_T53 l0 x15_1).f1) = ((rd_T53 l0 (wrap64 (x15_1 - 1))).f1) then (impl_IsHistory.j2 kj5 l0 x15_1 l0 (l0.length : Int) (decide ((((rd_T53 l0 x15_1).f3).length : Int) > 0))) else (impl_IsHistory.j2 kj5 l0 x15_1 l0 (l0.length : Int) false))) else (none)) else (none)) else (impl_IsHistory.j2 kj5 l0 x15_1 l0 (l0.length : Int) false)) = some r := by rw [if_neg (show ¬ (false = true) by decide)] at H; exact H
      clear H
      have H := H1
      clear H1
      have HC19 := AM_ H
      clear H
      go_upto_region 8 with (fail)
      repeat (go_quiet (fail); go_upto_region 8 with (fail))
      go_cut [60] (fun v60 wc => ∃ (kq : Nat) (x60_18 : Bool), v60 = .bool x60_18 ∧ Aside0 (impl_IsHistory.j2 kq l0 x15_1 l0 (l0.length : Int) x60_18 = some r) ∧ Aside0 (kq ≤ kj5) ∧ Aside0 (wc.heap[gb285]? = some (.cells #[.int .i64 ((rd_T53 l0 x15_1).f0), .int .i64 ((rd_T53 l0 x15_1).f1), (.slice A284_2 ((rd_T53 l0 x15_1).f2).length c284_2), (.slice A284_3 ((rd_T53 l0 x15_1).f3).length c284_3)] 53 (0, 0))) ∧ Aside0 (Below w.heap.size w wc))
      case first =>
       have H := HC19.out
       clear HC19
       by_cases c20 : x15_1 > 0
       rotate_left
       ·rw [if_neg c20] at H
        have c20b0 : decide (0 < x15_1) = false := decide_eq_false c20
        clear c20
        (first | rw [c20b0] | (simp only [i64_w, i32_w]; rw [c20b0]) | skip)
        have H' := AM_ H
        clear H
        go_wp2
        repeat (go_quiet (fail); try go_wp2)
        go_meet
        case rel => exact ⟨_, (false), (by first | rfl | (simp; done) | (simp [*]; done)), H', ⟨by have := HK1.out; have := HJ5.out; first | omega | exact Nat.le_refl _⟩, ⟨BH BK285.out⟩, ⟨BT HB.out⟩⟩
       rw [if_pos c20] at H
       have c20b0 : decide (0 < x15_1) = true := decide_eq_true c20
       clear c20
       (first | rw [c20b0] | (simp only [i64_w, i32_w]; rw [c20b0]) | skip)
       obtain ⟨ji21, hji21⟩ : ∃ j_ : Int, (wrap64 (x15_1 - 1)) = j_ := ⟨_, rfl⟩
       replace H : (if 0 ≤ (ji21) then (if (ji21) < (l0.length : Int) then (if ((rd_T53 l0 x15_1).f1) < ((rd_T53 l0 (ji21)).f1) then (impl_IsHistory.j2 kj5 l0 x15_1 l0 (l0.length : Int) true) else (if ((rd_T53 l0 x15_1).f1) = ((rd_T53 l0 (ji21)).f1) then (impl_IsHistory.j2 kj5 l0 x15_1 l0 (l0.length : Int) (decide ((((rd_T53 l0 x15_1).f3).length : Int) > 0))) else (impl_IsHistory.j2 kj5 l0 x15_1 l0 (l0.length : Int) false))) else (none)) else (none)) = some r := by first | (rw [hji21] at H; exact H) | (simp only [hji21] at H ⊢; exact H)
       have hji21w : (IntKind.i64.wrap (x15_1 - 1)) = ji21 := (i64_w _).trans hji21
       by_cases c22 : 0 ≤ (ji21)
       rotate_left
       ·rw [if_neg c22] at H
        exact absurd H (by simp)
       rw [if_pos c22] at H
       have c22b0 : decide (0 ≤ (ji21)) = true := decide_eq_true c22
       clear c22
       by_cases c23 : (ji21) < (l0.length : Int)
       rotate_left
       ·rw [if_neg c23] at H
        exact absurd H (by simp)
       rw [if_pos c23] at H
       have c23b0 : decide ((ji21) < (l0.length : Int)) = true := decide_eq_true c23
       clear c23
       by_cases c24 : ((rd_T53 l0 x15_1).f1) < ((rd_T53 l0 (ji21)).f1)
       ·rw [if_pos c24] at H
        have c24b0 : decide (((rd_T53 l0 x15_1).f1) < ((rd_T53 l0 (ji21)).f1)) = true := decide_eq_true c24
        clear c24
        have H' := AM_ H
        clear H
        obtain ⟨hcz25_0, hcz25_1, hcz25_2, hcz25_3, hfz25_0, hfz25_1, hfz25_2, hfz25_3⟩ := bk4 BK285.out
        have p288 : 0 ≤ ((ji21) : Int) := DT
        have q288 : (ji21) < (l0.length : Int) := DT
        obtain ⟨ad288, A288_2, c288_2, A288_3, c288_3, e288, hx288_0, hx288_1, hx288_2, hx288_3, hl288_2, hi288_2, hl288_3, hi288_3⟩ := at_T53 HR0.out (ji21) p288 q288
        obtain rfl : ad284 = ad288 := (by injection e288)
        replace hx288_0 := BC HB.out hx288_0
        replace hx288_1 := BC HB.out hx288_1
        replace hx288_2 := BC HB.out hx288_2
        replace hx288_3 := BC HB.out hx288_3
        have HR288_2 := AM_ hi288_2
        have HC288_2 := AM_ hl288_2
        clear hi288_2 hl288_2
        have HR288_3 := AM_ hi288_3
        have HC288_3 := AM_ hl288_3
        clear hi288_3 hl288_3
        replace p288 := eq_true p288
        replace q288 := eq_true q288
        go_wp2
        repeat (go_quiet (fail); try go_wp2)
        go_meet
        case rel => exact ⟨_, (true), (by first | rfl | (simp; done) | (simp [*]; done)), H', ⟨by have := HK1.out; have := HJ5.out; first | omega | exact Nat.le_refl _⟩, ⟨BH BK285.out⟩, ⟨BT HB.out⟩⟩
       rw [if_neg c24] at H
       have c24b0 : decide (((rd_T53 l0 x15_1).f1) < ((rd_T53 l0 (ji21)).f1)) = false := decide_eq_false c24
       clear c24
       by_cases c26 : ((rd_T53 l0 x15_1).f1) = ((rd_T53 l0 (ji21)).f1)
       rotate_left
       ·rw [if_neg c26] at H
        have c26b0 : (((rd_T53 l0 x15_1).f1) == ((rd_T53 l0 (ji21)).f1)) = false := beq_eq_false_iff_ne.mpr c26
        have c26b1 : (((rd_T53 l0 x15_1).f1) != ((rd_T53 l0 (ji21)).f1)) = true := bne_iff_ne.mpr c26
        have H' := AM_ H
        clear H
        obtain ⟨hcz28_0, hcz28_1, hcz28_2, hcz28_3, hfz28_0, hfz28_1, hfz28_2, hfz28_3⟩ := bk4 BK285.out
        have p288 : 0 ≤ ((ji21) : Int) := DT
        have q288 : (ji21) < (l0.length : Int) := DT
        obtain ⟨ad288, A288_2, c288_2, A288_3, c288_3, e288, hx288_0, hx288_1, hx288_2, hx288_3, hl288_2, hi288_2, hl288_3, hi288_3⟩ := at_T53 HR0.out (ji21) p288 q288
        obtain rfl : ad284 = ad288 := (by injection e288)
        replace hx288_0 := BC HB.out hx288_0
        replace hx288_1 := BC HB.out hx288_1
        replace hx288_2 := BC HB.out hx288_2
        replace hx288_3 := BC HB.out hx288_3
        have HR288_2 := AM_ hi288_2
        have HC288_2 := AM_ hl288_2
        clear hi288_2 hl288_2
        have HR288_3 := AM_ hi288_3
        have HC288_3 := AM_ hl288_3
        clear hi288_3 hl288_3
        replace p288 := eq_true p288
        replace q288 := eq_true q288
        have p289 : 0 ≤ ((ji21) : Int) := DT
        have q289 : (ji21) < (l0.length : Int) := DT
        obtain ⟨ad289, A289_2, c289_2, A289_3, c289_3, e289, hx289_0, hx289_1, hx289_2, hx289_3, hl289_2, hi289_2, hl289_3, hi289_3⟩ := at_T53 HR0.out (ji21) p289 q289
        obtain rfl : ad284 = ad289 := (by injection e289)
        replace hx289_0 := BC HB.out hx289_0
        replace hx289_1 := BC HB.out hx289_1
        replace hx289_2 := BC HB.out hx289_2
        replace hx289_3 := BC HB.out hx289_3
        have HR289_2 := AM_ hi289_2
        have HC289_2 := AM_ hl289_2
        clear hi289_2 hl289_2
        have HR289_3 := AM_ hi289_3
        have HC289_3 := AM_ hl289_3
        clear hi289_3 hl289_3
        replace p289 := eq_true p289
        replace q289 := eq_true q289
        have ea_ := Option.some.inj (hx288_2.symm.trans hx289_2)
        injection ea_ with ea_ en_ ec_
        subst ea_
        subst ec_
        clear en_
        have ea_ := Option.some.inj (hx288_3.symm.trans hx289_3)
        injection ea_ with ea_ en_ ec_
        subst ea_
        subst ec_
        clear en_
        go_wp2
        repeat (go_quiet (fail); try go_wp2)
        go_meet
        case rel => exact ⟨_, (false), (by first | rfl | (simp; done) | (simp [*]; done)), H', ⟨by have := HK1.out; have := HJ5.out; first | omega | exact Nat.le_refl _⟩, ⟨BH BK285.out⟩, ⟨BT HB.out⟩⟩
       rw [if_pos c26] at H
       have c26b0 : (((rd_T53 l0 x15_1).f1) == ((rd_T53 l0 (ji21)).f1)) = true := beq_iff_eq.mpr c26
       have c26b1 : (((rd_T53 l0 x15_1).f1) != ((rd_T53 l0 (ji21)).f1)) = false := bne_eq_false_iff_eq.mpr c26
       clear c26
       have H' := AM_ H
       clear H
       obtain ⟨hcz27_0, hcz27_1, hcz27_2, hcz27_3, hfz27_0, hfz27_1, hfz27_2, hfz27_3⟩ := bk4 BK285.out
       have p288 : 0 ≤ ((ji21) : Int) := DT
       have q288 : (ji21) < (l0.length : Int) := DT
       obtain ⟨ad288, A288_2, c288_2, A288_3, c288_3, e288, hx288_0, hx288_1, hx288_2, hx288_3, hl288_2, hi288_2, hl288_3, hi288_3⟩ := at_T53 HR0.out (ji21) p288 q288
       obtain rfl : ad284 = ad288 := (by injection e288)
       replace hx288_0 := BC HB.out hx288_0
       replace hx288_1 := BC HB.out hx288_1
       replace hx288_2 := BC HB.out hx288_2
       replace hx288_3 := BC HB.out hx288_3
       have HR288_2 := AM_ hi288_2
       have HC288_2 := AM_ hl288_2
       clear hi288_2 hl288_2
       have HR288_3 := AM_ hi288_3
       have HC288_3 := AM_ hl288_3
       clear hi288_3 hl288_3
       replace p288 := eq_true p288
       replace q288 := eq_true q288
       have p289 : 0 ≤ ((ji21) : Int) := DT
       have q289 : (ji21) < (l0.length : Int) := DT
       obtain ⟨ad289, A289_2, c289_2, A289_3, c289_3, e289, hx289_0, hx289_1, hx289_2, hx289_3, hl289_2, hi289_2, hl289_3, hi289_3⟩ := at_T53 HR0.out (ji21) p289 q289
       obtain rfl : ad284 = ad289 := (by injection e289)
       replace hx289_0 := BC HB.out hx289_0
       replace hx289_1 := BC HB.out hx289_1
       replace hx289_2 := BC HB.out hx289_2
       replace hx289_3 := BC HB.out hx289_3
       have HR289_2 := AM_ hi289_2
       have HC289_2 := AM_ hl289_2
       clear hi289_2 hl289_2
       have HR289_3 := AM_ hi289_3
       have HC289_3 := AM_ hl289_3
       clear hi289_3 hl289_3
       replace p289 := eq_true p289
       replace q289 := eq_true q289
       have ea_ := Option.some.inj (hx288_2.symm.trans hx289_2)
       injection ea_ with ea_ en_ ec_
       subst ea_
       subst ec_
       clear en_
       have ea_ := Option.some.inj (hx288_3.symm.trans hx289_3)
       injection ea_ with ea_ en_ ec_
       subst ea_
       subst ec_
       clear en_
       go_wp2
       repeat (go_quiet (fail); try go_wp2)
       go_meet
       case rel => exact ⟨_, (decide ((((rd_T53 l0 x15_1).f3).length : Int) > 0)), (by first | rfl | (simp; done) | (simp [*]; done)), H', ⟨by have := HK1.out; have := HJ5.out; first | omega | exact Nat.le_refl _⟩, ⟨BH BK285.out⟩, ⟨BT HB.out⟩⟩
      case rest =>
       clear HC19
       try clear c1
       try clear c2
       try clear c2b0
       try clear c2b1
       try clear p2
       try clear q2
       try clear hx2
       try clear c3
       try clear c3b0
       try clear c4
       try clear c4b0
       try clear c5
       try clear c5b0
       try clear p6
       try clear c10
       try clear c18
       try clear c20
       try clear c20b0
       try clear c22
       try clear c22b0
       try clear c23
       try clear c23b0
       try clear c24
       try clear c24b0
       try clear c26
       try clear c26b0
       try clear c26b1
       try clear c28
       try clear p28
       try clear q28
       try clear hx28
       try clear hcz12_0
       try clear hcz12_1
       try clear hcz12_2
       try clear hcz12_3
       try clear hcz14_0
       try clear hcz14_1
       try clear hcz14_2
       try clear hcz14_3
       try clear hcz16_0
       try clear hcz16_1
       try clear hcz16_2
       try clear hcz16_3
       try clear hcz25_0
       try clear hcz25_1
       try clear hcz25_2
       try clear hcz25_3
       try clear hcz27_0
       try clear hcz27_1
       try clear hcz27_2
       try clear hcz27_3
       try clear hcz28_0
       try clear hcz28_1
       try clear hcz28_2
       try clear hcz28_3
       try clear hcz8_0
       try clear hcz8_1
       try clear hcz8_2
       try clear hcz8_3
       try clear hfz12_0
       try clear hfz12_1
       try clear hfz12_2
       try clear hfz12_3
       try clear hfz14_0
       try clear hfz14_1
       try clear hfz14_2
       try clear hfz14_3
       try clear hfz16_0
       try clear hfz16_1
       try clear hfz16_2
       try clear hfz16_3
       try clear hfz25_0
       try clear hfz25_1
       try clear hfz25_2
       try clear hfz25_3
       try clear hfz27_0
       try clear hfz27_1
       try clear hfz27_2
       try clear hfz27_3
       try clear hfz28_0
       try clear hfz28_1
       try clear hfz28_2
       try clear hfz28_3
       try clear hfz8_0
       try clear hfz8_1
       try clear hfz8_2
       try clear hfz8_3
       try clear hx284_0
       try clear hx284_1
       try clear hx284_2
       try clear hx284_3
       try clear hx288_0
       try clear hx288_1
       try clear hx288_2
       try clear hx288_3
       try clear hx289_0
       try clear hx289_1
       try clear hx289_2
       try clear hx289_3
       try clear p2
       try clear p284
       try clear p288
       try clear p289
       try clear q2
       try clear q284
       try clear q288
       try clear q289
       obtain ⟨kq, x60_18, rfl, HA, HJ18, BK285, HB⟩ := hcut
       cases kq with
       | zero => exact absurd HA.out (by simp [impl_IsHistory.j2])
       | succ kj18 =>
        have H := HA.out
        clear HA
        simp only [impl_IsHistory.j2] at H
        by_cases c29 : x60_18 = true
        ·subst c29
         have H1 : (some false) = some r := by rw [if_pos rfl] at H; exact H
         clear H
         have H := H1
         clear H1
         obtain rfl := Option.some.inj H
         go_wp2
         repeat (go_quiet (fail); try go_wp2)
         go_ret
         exact QT (BT HB.out)
        replace c29 := Bool.eq_false_iff.mpr c29
        subst c29
        have H1 : (impl_IsHistory.l0 kj18 l0 l0 (l0.length : Int) (wrap64 (x15_1 + 1))) = some r := by rw [if_neg (show ¬ (false = true) by decide)] at H; exact H
        clear H
        have H := H1
        clear H1
        have H' := AM_ H
        clear H
        go_wp2
        repeat (go_quiet (fail); try go_wp2)
        go_roundg kj18
        case measure => have := HK1.out; have := HJ5.out; have := HJ18.out; omega
        case rel => exact ⟨(wrap64 (x15_1 + 1)), (by first | rfl | (simp; done) | (simp [*]; done)), H', ⟨by have := HK1.out; have := HJ5.out; have := HJ18.out; omega⟩, ⟨BT HB.out⟩⟩
   rw [if_neg c3] at H
   have c3b0 : decide (x15_1 < (l0.length : Int)) = false := decide_eq_false c3
   clear c3
   have H' := AM_ H
   clear H
   go_wp2
   repeat (go_quiet (fail); try go_wp2)
   go_loopg [64] k1 (fun kq v64 w' => ∃ (x64_2 : Int), v64 = .int .i64 x64_2 ∧ Aside0 (impl_IsHistory.l1 kq l0 l0 (l0.length : Int) x64_2 = some r) ∧ Aside0 (kq ≤ k1) ∧ Aside0 (Below w.heap.size w w'))
   case atStart => exact ⟨(0), (by first | rfl | (simp; done) | (simp [*]; done)), H', ⟨Nat.le_refl _⟩, ⟨BT HB.out⟩⟩
   case round =>
    clear H'
    try clear c1
    try clear c2
    try clear c2b0
    try clear c2b1
    try clear p2
    try clear q2
    try clear hx2
    try clear c3
    try clear c3b0
    try clear c4
    try clear c4b0
    try clear c5
    try clear c5b0
    try clear p6
    try clear c10
    try clear c18
    try clear c20
    try clear c20b0
    try clear c22
    try clear c22b0
    try clear c23
    try clear c23b0
    try clear c24
    try clear c24b0
    try clear c26
    try clear c26b0
    try clear c26b1
    try clear c28
    try clear p28
    try clear q28
    try clear hx28
    try clear c29
    try clear hcz12_0
    try clear hcz12_1
    try clear hcz12_2
    try clear hcz12_3
    try clear hcz14_0
    try clear hcz14_1
    try clear hcz14_2
    try clear hcz14_3
    try clear hcz16_0
    try clear hcz16_1
    try clear hcz16_2
    try clear hcz16_3
    try clear hcz25_0
    try clear hcz25_1
    try clear hcz25_2
    try clear hcz25_3
    try clear hcz27_0
    try clear hcz27_1
    try clear hcz27_2
    try clear hcz27_3
    try clear hcz28_0
    try clear hcz28_1
    try clear hcz28_2
    try clear hcz28_3
    try clear hcz8_0
    try clear hcz8_1
    try clear hcz8_2
    try clear hcz8_3
    try clear hfz12_0
    try clear hfz12_1
    try clear hfz12_2
    try clear hfz12_3
    try clear hfz14_0
    try clear hfz14_1
    try clear hfz14_2
    try clear hfz14_3
    try clear hfz16_0
    try clear hfz16_1
    try clear hfz16_2
    try clear hfz16_3
    try clear hfz25_0
    try clear hfz25_1
    try clear hfz25_2
    try clear hfz25_3
    try clear hfz27_0
    try clear hfz27_1
    try clear hfz27_2
    try clear hfz27_3
    try clear hfz28_0
    try clear hfz28_1
    try clear hfz28_2
    try clear hfz28_3
    try clear hfz8_0
    try clear hfz8_1
    try clear hfz8_2
    try clear hfz8_3
    try clear hx284_0
    try clear hx284_1
    try clear hx284_2
    try clear hx284_3
    try clear hx288_0
    try clear hx288_1
    try clear hx288_2
    try clear hx288_3
    try clear hx289_0
    try clear hx289_1
    try clear hx289_2
    try clear hx289_3
    try clear p2
    try clear p28
    try clear p284
    try clear p288
    try clear p289
    try clear p6
    try clear q2
    try clear q28
    try clear q284
    try clear q288
    try clear q289
    obtain ⟨x64_2, rfl, HA, HK2, HB⟩ := hrel
    cases gk with
    | zero => exact absurd HA.out (by simp [impl_IsHistory.l1])
    | succ k2 =>
     have H := HA.out
     clear HA
     simp only [impl_IsHistory.l1] at H
     by_cases c30 : x64_2 < (l0.length : Int)
     rotate_left
     ·rw [if_neg c30] at H
      have c30b0 : decide (x64_2 < (l0.length : Int)) = false := decide_eq_false c30
      clear c30
      obtain rfl := Option.some.inj H
      go_wp2
      repeat (go_quiet (fail); try go_wp2)
      go_ret
      exact QT (BT HB.out)
     rw [if_pos c30] at H
     have c30b0 : decide (x64_2 < (l0.length : Int)) = true := decide_eq_true c30
     clear c30
     by_cases c31 : 0 ≤ x64_2
     rotate_left
     ·rw [if_neg c31] at H
      exact absurd H (by simp)
     rw [if_pos c31] at H
     have c31b0 : decide (0 ≤ x64_2) = true := decide_eq_true c31
     clear c31
     by_cases c32 : x64_2 < (l0.length : Int)
     rotate_left
     ·rw [if_neg c32] at H
      exact absurd H (by simp)
     rw [if_pos c32] at H
     have c32b0 : decide (x64_2 < (l0.length : Int)) = true := decide_eq_true c32
     clear c32
     have H' := AM_ H
     clear H
     have p290 : 0 ≤ (x64_2 : Int) := DT
     have q290 : x64_2 < (l0.length : Int) := DT
     obtain ⟨ad290, A290_2, c290_2, A290_3, c290_3, e290, hx290_0, hx290_1, hx290_2, hx290_3, hl290_2, hi290_2, hl290_3, hi290_3⟩ := at_T53 HR0.out x64_2 p290 q290
     cases e290
     replace hx290_0 := BC HB.out hx290_0
     replace hx290_1 := BC HB.out hx290_1
     replace hx290_2 := BC HB.out hx290_2
     replace hx290_3 := BC HB.out hx290_3
     have HR290_2 := AM_ hi290_2
     have HC290_2 := AM_ hl290_2
     clear hi290_2 hl290_2
     have HR290_3 := AM_ hi290_3
     have HC290_3 := AM_ hl290_3
     clear hi290_3 hl290_3
     replace p290 := eq_true p290
     replace q290 := eq_true q290
     go_wp2_with (first | ((with_reducible refine gate_dst (N := 6) rfl ?_); (try (refine gate_guard (by rfl) ?_; dsimp only)); refine box_event ?hg (N := 6) ?hd (cs := #[.int .i64 0, .int .i64 0, .slice none 0 0, .slice none 0 0]) (t := 53) ?hr ?_; (case hd => rfl); (case hg => rfl); (case hr => first | (go_simp; done) | (go_simp; rfl)); intro gb291 hg w33 hbox hb; have BK291 := AM_ (hbox); have GW291 := AM_ ((GS HB.out hg)); have GE291 := AM_ ((GS HB.out hg)); replace HB := AM_ (below_step (BT HB.out) hb); clear hb hbox hg; obtain ⟨hcz34_0, hcz34_1, hcz34_2, hcz34_3, hfz34_0, hfz34_1, hfz34_2, hfz34_3⟩ := bk4 BK291.out))
     repeat (go_quiet (first | ((with_reducible refine gate_dst (N := 6) rfl ?_); (try (refine gate_guard (by rfl) ?_; dsimp only)); refine box_event ?hg (N := 6) ?hd (cs := #[.int .i64 0, .int .i64 0, .slice none 0 0, .slice none 0 0]) (t := 53) ?hr ?_; (case hd => rfl); (case hg => rfl); (case hr => first | (go_simp; done) | (go_simp; rfl)); intro gb291 hg w33 hbox hb; have BK291 := AM_ (hbox); have GW291 := AM_ ((GS HB.out hg)); have GE291 := AM_ ((GS HB.out hg)); replace HB := AM_ (below_step (BT HB.out) hb); clear hb hbox hg; obtain ⟨hcz34_0, hcz34_1, hcz34_2, hcz34_3, hfz34_0, hfz34_1, hfz34_2, hfz34_3⟩ := bk4 BK291.out)); try go_wp2_with (first | ((with_reducible refine gate_dst (N := 6) rfl ?_); (try (refine gate_guard (by rfl) ?_; dsimp only)); refine box_event ?hg (N := 6) ?hd (cs := #[.int .i64 0, .int .i64 0, .slice none 0 0, .slice none 0 0]) (t := 53) ?hr ?_; (case hd => rfl); (case hg => rfl); (case hr => first | (go_simp; done) | (go_simp; rfl)); intro gb291 hg w33 hbox hb; have BK291 := AM_ (hbox); have GW291 := AM_ ((GS HB.out hg)); have GE291 := AM_ ((GS HB.out hg)); replace HB := AM_ (below_step (BT HB.out) hb); clear hb hbox hg; obtain ⟨hcz34_0, hcz34_1, hcz34_2, hcz34_3, hfz34_0, hfz34_1, hfz34_2, hfz34_3⟩ := bk4 BK291.out)))
     go_loopg [71] k2 (fun kq v71 w' => ∃ (x71_3 : Int), v71 = .int .i64 x71_3 ∧ Aside0 (impl_IsHistory.l2 kq l0 l0 (l0.length : Int) x64_2 ((rd_T53 l0 x64_2).f2) (((rd_T53 l0 x64_2).f2).length : Int) x71_3 ((rd_T53 l0 x64_2).f0) ((rd_T53 l0 x64_2).f1) ((rd_T53 l0 x64_2).f2) ((rd_T53 l0 x64_2).f3) = some r) ∧ Aside0 (kq ≤ k2) ∧ Aside0 (w'.heap[gb291]? = some (.cells #[.int .i64 ((rd_T53 l0 x64_2).f0), .int .i64 ((rd_T53 l0 x64_2).f1), (.slice A290_2 ((rd_T53 l0 x64_2).f2).length c290_2), (.slice A290_3 ((rd_T53 l0 x64_2).f3).length c290_3)] 53 (0, 0))) ∧ Aside0 (Below w.heap.size w w'))
     case atStart => exact ⟨(0), (by first | rfl | (simp; done) | (simp [*]; done)), H', ⟨Nat.le_refl _⟩, ⟨BQ BK291.out⟩, ⟨BT HB.out⟩⟩
     case round =>
      clear H'
      try clear c1
      try clear c2
      try clear c2b0
      try clear c2b1
      try clear p2
      try clear q2
      try clear hx2
      try clear c3
      try clear c3b0
      try clear c4
      try clear c4b0
      try clear c5
      try clear c5b0
      try clear p6
      try clear c10
      try clear c18
      try clear c20
      try clear c20b0
      try clear c22
      try clear c22b0
      try clear c23
      try clear c23b0
      try clear c24
      try clear c24b0
      try clear c26
      try clear c26b0
      try clear c26b1
      try clear c28
      try clear p28
      try clear q28
      try clear hx28
      try clear c29
      try clear p29
      try clear q29
      try clear hx29
      try clear c30
      try clear c30b0
      try clear c31
      try clear c31b0
      try clear c32
      try clear c32b0
      try clear hcz12_0
      try clear hcz12_1
      try clear hcz12_2
      try clear hcz12_3
      try clear hcz14_0
      try clear hcz14_1
      try clear hcz14_2
      try clear hcz14_3
      try clear hcz16_0
      try clear hcz16_1
      try clear hcz16_2
      try clear hcz16_3
      try clear hcz25_0
      try clear hcz25_1
      try clear hcz25_2
      try clear hcz25_3
      try clear hcz27_0
      try clear hcz27_1
      try clear hcz27_2
      try clear hcz27_3
      try clear hcz28_0
      try clear hcz28_1
      try clear hcz28_2
      try clear hcz28_3
      try clear hcz34_0
      try clear hcz34_1
      try clear hcz34_2
      try clear hcz34_3
      try clear hcz8_0
      try clear hcz8_1
      try clear hcz8_2
      try clear hcz8_3
      try clear hfz12_0
      try clear hfz12_1
      try clear hfz12_2
      try clear hfz12_3
      try clear hfz14_0
      try clear hfz14_1
      try clear hfz14_2
      try clear hfz14_3
      try clear hfz16_0
      try clear hfz16_1
      try clear hfz16_2
      try clear hfz16_3
      try clear hfz25_0
      try clear hfz25_1
      try clear hfz25_2
      try clear hfz25_3
      try clear hfz27_0
      try clear hfz27_1
      try clear hfz27_2
      try clear hfz27_3
      try clear hfz28_0
      try clear hfz28_1
      try clear hfz28_2
      try clear hfz28_3
      try clear hfz34_0
      try clear hfz34_1
      try clear hfz34_2
      try clear hfz34_3
      try clear hfz8_0
      try clear hfz8_1
      try clear hfz8_2
      try clear hfz8_3
      try clear hx284_0
      try clear hx284_1
      try clear hx284_2
      try clear hx284_3
      try clear hx288_0
      try clear hx288_1
      try clear hx288_2
      try clear hx288_3
      try clear hx289_0
      try clear hx289_1
      try clear hx289_2
      try clear hx289_3
      try clear hx290_0
      try clear hx290_1
      try clear hx290_2
      try clear hx290_3
      try clear p2
      try clear p28
      try clear p284
      try clear p288
      try clear p289
      try clear p290
      try clear p6
      try clear q2
      try clear q28
      try clear q284
      try clear q288
      try clear q289
      try clear q290
      obtain ⟨x71_3, rfl, HA, HK3, BK291, HB⟩ := hrel
      cases gk with
      | zero => exact absurd HA.out (by simp [impl_IsHistory.l2])
      | succ k3 =>
       have H := HA.out
       clear HA
       simp only [impl_IsHistory.l2] at H
       by_cases c35 : x71_3 < (((rd_T53 l0 x64_2).f2).length : Int)
       rotate_left
       ·rw [if_neg c35] at H
        have c35b0 : decide (x71_3 < (((rd_T53 l0 x64_2).f2).length : Int)) = false := decide_eq_false c35
        clear c35
        have H' := AM_ H
        clear H
        go_wp2
        repeat (go_quiet (fail); try go_wp2)
        go_roundg k3
        case measure => have := HK1.out; have := HK2.out; have := HK3.out; omega
        case rel => exact ⟨(wrap64 (x64_2 + 1)), (by first | rfl | (simp; done) | (simp [*]; done)), H', ⟨by have := HK1.out; have := HK2.out; have := HK3.out; omega⟩, ⟨BT HB.out⟩⟩
       rw [if_pos c35] at H
       have c35b0 : decide (x71_3 < (((rd_T53 l0 x64_2).f2).length : Int)) = true := decide_eq_true c35
       clear c35
       by_cases c36 : 0 ≤ x71_3
       rotate_left
       ·rw [if_neg c36] at H
        exact absurd H (by simp)
       rw [if_pos c36] at H
       have c36b0 : decide (0 ≤ x71_3) = true := decide_eq_true c36
       clear c36
       by_cases c37 : x71_3 < (((rd_T53 l0 x64_2).f2).length : Int)
       rotate_left
       ·rw [if_neg c37] at H
        exact absurd H (by simp)
       rw [if_pos c37] at H
       have c37b0 : decide (x71_3 < (((rd_T53 l0 x64_2).f2).length : Int)) = true := decide_eq_true c37
       clear c37
       replace H := Option.bind_eq_some_iff.mp H
       obtain ⟨t294, A380, H⟩ := H
       replace H : (if t294 = ((rd_T53 l0 x64_2).f0) then (impl_IsHistory.j5 k3 l0 l0 (l0.length : Int) x64_2 ((rd_T53 l0 x64_2).f2) (((rd_T53 l0 x64_2).f2).length : Int) x71_3 true ((rd_T53 l0 x64_2).f0) ((rd_T53 l0 x64_2).f1) ((rd_T53 l0 x64_2).f2) ((rd_T53 l0 x64_2).f3)) else (if ((rd_T55 ((rd_T53 l0 x64_2).f2) x71_3).f1) > 0 then (impl_IsHistory.j5 k3 l0 l0 (l0.length : Int) x64_2 ((rd_T53 l0 x64_2).f2) (((rd_T53 l0 x64_2).f2).length : Int) x71_3 (t294 == 0) ((rd_T53 l0 x64_2).f0) ((rd_T53 l0 x64_2).f1) ((rd_T53 l0 x64_2).f2) ((rd_T53 l0 x64_2).f3)) else (impl_IsHistory.j5 k3 l0 l0 (l0.length : Int) x64_2 ((rd_T53 l0 x64_2).f2) (((rd_T53 l0 x64_2).f2).length : Int) x71_3 false ((rd_T53 l0 x64_2).f0) ((rd_T53 l0 x64_2).f1) ((rd_T53 l0 x64_2).f2) ((rd_T53 l0 x64_2).f3)))) = some r := H
       have A38 := AM_ A380
       clear A380
       have HC39 := AM_ H
       clear H
       have p292 : 0 ≤ (x71_3 : Int) := DT
       have q292 : x71_3 < (((rd_T53 l0 x64_2).f2).length : Int) := DT
       obtain ⟨ad292, e292, hx292_0, hx292_1⟩ := at_T55 HR290_2.out x71_3 p292 q292
       cases e292
       replace hx292_0 := BC HB.out hx292_0
       replace hx292_1 := BC HB.out hx292_1
       replace p292 := eq_true p292
       replace q292 := eq_true q292
       go_upto_region 18 with (first | ((with_reducible refine gate_dst (N := 8) rfl ?_); (try (refine gate_guard (by rfl) ?_; dsimp only)); refine box_event ?hg (N := 8) ?hd (cs := #[.int .i64 0, .int .i64 0]) (t := 55) ?hr ?_; (case hd => rfl); (case hg => rfl); (case hr => first | (go_simp; done) | (go_simp; rfl)); intro gb293 hg w40 hbox hb; have BK293 := AM_ (hbox); have GW293 := AM_ ((GS HB.out hg)); have GE293 := AM_ ((GS HB.out hg)); replace HB := AM_ (below_step (BT HB.out) hb); have NB291_293 := AM_ ((NL BK291.out hg)); have NB293_291 := AM_ ((NG BK291.out hg)); replace BK291 := AM_ (BB BK291.out hb); clear hb hbox hg; have hnb41 := NB293_291.out; have hnc41 := NB291_293.out; obtain ⟨hcz42_0, hcz42_1, hfz42_0, hfz42_1⟩ := bk2 BK293.out) | (go_at_call 50; (with_reducible refine (impl_WriterOf.calls k3 _ _ l0 ((rd_T55 ((rd_T53 l0 x64_2).f2) x71_3).f0) ((rd_T55 ((rd_T53 l0 x64_2).f2) x71_3).f1) t294 _ ?side1 ?side2 A38.out).mono ?_); (case side1 => exact Kd.C_below HR0.out (BT HB.out)); (case side2 => exact HC0.out); rintro e w43 ⟨rfl, hb⟩; replace BK291 := AM_ (BF BK291.out NB291_293.out hb); replace BK293 := AM_ (BP #[.int .i64 ((rd_T55 ((rd_T53 l0 x64_2).f2) x71_3).f0), .int .i64 ((rd_T55 ((rd_T53 l0 x64_2).f2) x71_3).f1)] BK293.out hb); replace HB := AM_ (below_step (BT HB.out) hb); (try clear hb); (try clear hb2); (try clear hk); (try clear hi)))
       repeat (go_quiet (first | ((with_reducible refine gate_dst (N := 8) rfl ?_); (try (refine gate_guard (by rfl) ?_; dsimp only)); refine box_event ?hg (N := 8) ?hd (cs := #[.int .i64 0, .int .i64 0]) (t := 55) ?hr ?_; (case hd => rfl); (case hg => rfl); (case hr => first | (go_simp; done) | (go_simp; rfl)); intro gb293 hg w40 hbox hb; have BK293 := AM_ (hbox); have GW293 := AM_ ((GS HB.out hg)); have GE293 := AM_ ((GS HB.out hg)); replace HB := AM_ (below_step (BT HB.out) hb); have NB291_293 := AM_ ((NL BK291.out hg)); have NB293_291 := AM_ ((NG BK291.out hg)); replace BK291 := AM_ (BB BK291.out hb); clear hb hbox hg; have hnb41 := NB293_291.out; have hnc41 := NB291_293.out; obtain ⟨hcz42_0, hcz42_1, hfz42_0, hfz42_1⟩ := bk2 BK293.out) | (go_at_call 50; (with_reducible refine (impl_WriterOf.calls k3 _ _ l0 ((rd_T55 ((rd_T53 l0 x64_2).f2) x71_3).f0) ((rd_T55 ((rd_T53 l0 x64_2).f2) x71_3).f1) t294 _ ?side1 ?side2 A38.out).mono ?_); (case side1 => exact Kd.C_below HR0.out (BT HB.out)); (case side2 => exact HC0.out); rintro e w43 ⟨rfl, hb⟩; replace BK291 := AM_ (BF BK291.out NB291_293.out hb); replace BK293 := AM_ (BP #[.int .i64 ((rd_T55 ((rd_T53 l0 x64_2).f2) x71_3).f0), .int .i64 ((rd_T55 ((rd_T53 l0 x64_2).f2) x71_3).f1)] BK293.out hb); replace HB := AM_ (below_step (BT HB.out) hb); (try clear hb); (try clear hb2); (try clear hk); (try clear hi))); go_upto_region 18 with (first | ((with_reducible refine gate_dst (N := 8) rfl ?_); (try (refine gate_guard (by rfl) ?_; dsimp only)); refine box_event ?hg (N := 8) ?hd (cs := #[.int .i64 0, .int .i64 0]) (t := 55) ?hr ?_; (case hd => rfl); (case hg => rfl); (case hr => first | (go_simp; done) | (go_simp; rfl)); intro gb293 hg w40 hbox hb; have BK293 := AM_ (hbox); have GW293 := AM_ ((GS HB.out hg)); have GE293 := AM_ ((GS HB.out hg)); replace HB := AM_ (below_step (BT HB.out) hb); have NB291_293 := AM_ ((NL BK291.out hg)); have NB293_291 := AM_ ((NG BK291.out hg)); replace BK291 := AM_ (BB BK291.out hb); clear hb hbox hg; have hnb41 := NB293_291.out; have hnc41 := NB291_293.out; obtain ⟨hcz42_0, hcz42_1, hfz42_0, hfz42_1⟩ := bk2 BK293.out) | (go_at_call 50; (with_reducible refine (impl_WriterOf.calls k3 _ _ l0 ((rd_T55 ((rd_T53 l0 x64_2).f2) x71_3).f0) ((rd_T55 ((rd_T53 l0 x64_2).f2) x71_3).f1) t294 _ ?side1 ?side2 A38.out).mono ?_); (case side1 => exact Kd.C_below HR0.out (BT HB.out)); (case side2 => exact HC0.out); rintro e w43 ⟨rfl, hb⟩; replace BK291 := AM_ (BF BK291.out NB291_293.out hb); replace BK293 := AM_ (BP #[.int .i64 ((rd_T55 ((rd_T53 l0 x64_2).f2) x71_3).f0), .int .i64 ((rd_T55 ((rd_T53 l0 x64_2).f2) x71_3).f1)] BK293.out hb); replace HB := AM_ (below_step (BT HB.out) hb); (try clear hb); (try clear hb2); (try clear hk); (try clear hi))))
       (try simp only [pA, pS, pZ, pK])
       go_cut [90] (fun v90 wc => ∃ (kq : Nat) (x90_38 : Bool), v90 = .bool x90_38 ∧ Aside0 (impl_IsHistory.j5 kq l0 l0 (l0.length : Int) x64_2 ((rd_T53 l0 x64_2).f2) (((rd_T53 l0 x64_2).f2).length : Int) x71_3 x90_38 ((rd_T53 l0 x64_2).f0) ((rd_T53 l0 x64_2).f1) ((rd_T53 l0 x64_2).f2) ((rd_T53 l0 x64_2).f3) = some r) ∧ Aside0 (kq ≤ k3) ∧ Aside0 (wc.heap[gb291]? = some (.cells #[.int .i64 ((rd_T53 l0 x64_2).f0), .int .i64 ((rd_T53 l0 x64_2).f1), (.slice (some ad292) ((rd_T53 l0 x64_2).f2).length c290_2), (.slice A290_3 ((rd_T53 l0 x64_2).f3).length c290_3)] 53 (0, 0))) ∧ Aside0 (wc.heap[gb293]? = some (.cells #[.int .i64 ((rd_T55 ((rd_T53 l0 x64_2).f2) x71_3).f0), .int .i64 ((rd_T55 ((rd_T53 l0 x64_2).f2) x71_3).f1)] 55 (0, 0))) ∧ Aside0 (Below w.heap.size w wc))
       case first =>
        have H := HC39.out
        clear HC39
        by_cases c44 : t294 = ((rd_T53 l0 x64_2).f0)
        ·rw [if_pos c44] at H
         have c44b0 : (t294 == ((rd_T53 l0 x64_2).f0)) = true := beq_iff_eq.mpr c44
         have c44b1 : (t294 != ((rd_T53 l0 x64_2).f0)) = false := bne_eq_false_iff_eq.mpr c44
         clear c44
         (first | rw [c44b0] | (simp only [i64_w, i32_w]; rw [c44b0]) | skip)
         have H' := AM_ H
         clear H
         have hnb45 := NB291_293.out
         have hnc45 := NB293_291.out
         obtain ⟨hcz46_0, hcz46_1, hcz46_2, hcz46_3, hfz46_0, hfz46_1, hfz46_2, hfz46_3⟩ := bk4 BK291.out
         go_wp2
         repeat (go_quiet (fail); try go_wp2)
         go_meet
         case rel => exact ⟨_, (true), (by first | rfl | (simp; done) | (simp [*]; done)), H', ⟨by have := HK1.out; have := HK2.out; have := HK3.out; first | omega | exact Nat.le_refl _⟩, ⟨BH BK291.out⟩, ⟨BH BK293.out⟩, ⟨BT HB.out⟩⟩
        rw [if_neg c44] at H
        have c44b0 : (t294 == ((rd_T53 l0 x64_2).f0)) = false := beq_eq_false_iff_ne.mpr c44
        have c44b1 : (t294 != ((rd_T53 l0 x64_2).f0)) = true := bne_iff_ne.mpr c44
        (first | rw [c44b0] | (simp only [i64_w, i32_w]; rw [c44b0]) | skip)
        by_cases c47 : ((rd_T55 ((rd_T53 l0 x64_2).f2) x71_3).f1) > 0
        rotate_left
        ·rw [if_neg c47] at H
         have c47b0 : decide (0 < ((rd_T55 ((rd_T53 l0 x64_2).f2) x71_3).f1)) = false := decide_eq_false c47
         clear c47
         have H' := AM_ H
         clear H
         have hnb51 := NB291_293.out
         have hnc51 := NB293_291.out
         obtain ⟨hcz52_0, hcz52_1, hcz52_2, hcz52_3, hfz52_0, hfz52_1, hfz52_2, hfz52_3⟩ := bk4 BK291.out
         obtain ⟨hcz53_0, hcz53_1, hfz53_0, hfz53_1⟩ := bk2 BK293.out
         go_wp2
         repeat (go_quiet (fail); try go_wp2)
         go_meet
         case rel => exact ⟨_, (false), (by first | rfl | (simp; done) | (simp [*]; done)), H', ⟨by have := HK1.out; have := HK2.out; have := HK3.out; first | omega | exact Nat.le_refl _⟩, ⟨BH BK291.out⟩, ⟨BH BK293.out⟩, ⟨BT HB.out⟩⟩
        rw [if_pos c47] at H
        have c47b0 : decide (0 < ((rd_T55 ((rd_T53 l0 x64_2).f2) x71_3).f1)) = true := decide_eq_true c47
        clear c47
        have H' := AM_ H
        clear H
        have hnb48 := NB291_293.out
        have hnc48 := NB293_291.out
        obtain ⟨hcz49_0, hcz49_1, hcz49_2, hcz49_3, hfz49_0, hfz49_1, hfz49_2, hfz49_3⟩ := bk4 BK291.out
        obtain ⟨hcz50_0, hcz50_1, hfz50_0, hfz50_1⟩ := bk2 BK293.out
        go_wp2
        repeat (go_quiet (fail); try go_wp2)
        go_meet
        case rel => exact ⟨_, ((t294 == 0)), (by first | rfl | (simp; done) | (simp [*]; done)), H', ⟨by have := HK1.out; have := HK2.out; have := HK3.out; first | omega | exact Nat.le_refl _⟩, ⟨BH BK291.out⟩, ⟨BH BK293.out⟩, ⟨BT HB.out⟩⟩
       case rest =>
        clear HC39
        try clear c1
        try clear c2
        try clear c2b0
        try clear c2b1
        try clear p2
        try clear q2
        try clear hx2
        try clear c3
        try clear c3b0
        try clear c4
        try clear c4b0
        try clear c5
        try clear c5b0
        try clear p6
        try clear c10
        try clear c18
        try clear c20
        try clear c20b0
        try clear c22
        try clear c22b0
        try clear c23
        try clear c23b0
        try clear c24
        try clear c24b0
        try clear c26
        try clear c26b0
        try clear c26b1
        try clear c28
        try clear p28
        try clear q28
        try clear hx28
        try clear c29
        try clear p29
        try clear q29
        try clear hx29
        try clear c30
        try clear c30b0
        try clear c31
        try clear c31b0
        try clear c32
        try clear c32b0
        try clear c35
        try clear c35b0
        try clear c36
        try clear c36b0
        try clear c37
        try clear c37b0
        try clear c41
        try clear c44
        try clear c44b0
        try clear c44b1
        try clear c45
        try clear c47
        try clear c47b0
        try clear c48
        try clear c51
        try clear hcz12_0
        try clear hcz12_1
        try clear hcz12_2
        try clear hcz12_3
        try clear hcz14_0
        try clear hcz14_1
        try clear hcz14_2
        try clear hcz14_3
        try clear hcz16_0
        try clear hcz16_1
        try clear hcz16_2
        try clear hcz16_3
        try clear hcz25_0
        try clear hcz25_1
        try clear hcz25_2
        try clear hcz25_3
        try clear hcz27_0
        try clear hcz27_1
        try clear hcz27_2
        try clear hcz27_3
        try clear hcz28_0
        try clear hcz28_1
        try clear hcz28_2
        try clear hcz28_3
        try clear hcz34_0
        try clear hcz34_1
        try clear hcz34_2
        try clear hcz34_3
        try clear hcz42_0
        try clear hcz42_1
        try clear hcz46_0
        try clear hcz46_1
        try clear hcz46_2
        try clear hcz46_3
        try clear hcz49_0
        try clear hcz49_1
        try clear hcz49_2
        try clear hcz49_3
        try clear hcz50_0
        try clear hcz50_1
        try clear hcz52_0
        try clear hcz52_1
        try clear hcz52_2
        try clear hcz52_3
        try clear hcz53_0
        try clear hcz53_1
        try clear hcz8_0
        try clear hcz8_1
        try clear hcz8_2
        try clear hcz8_3
        try clear hfz12_0
        try clear hfz12_1
        try clear hfz12_2
        try clear hfz12_3
        try clear hfz14_0
        try clear hfz14_1
        try clear hfz14_2
        try clear hfz14_3
        try clear hfz16_0
        try clear hfz16_1
        try clear hfz16_2
        try clear hfz16_3
        try clear hfz25_0
        try clear hfz25_1
        try clear hfz25_2
        try clear hfz25_3
        try clear hfz27_0
        try clear hfz27_1
        try clear hfz27_2
        try clear hfz27_3
        try clear hfz28_0
        try clear hfz28_1
        try clear hfz28_2
        try clear hfz28_3
        try clear hfz34_0
        try clear hfz34_1
        try clear hfz34_2
        try clear hfz34_3
        try clear hfz42_0
        try clear hfz42_1
        try clear hfz46_0
        try clear hfz46_1
        try clear hfz46_2
        try clear hfz46_3
        try clear hfz49_0
        try clear hfz49_1
        try clear hfz49_2
        try clear hfz49_3
        try clear hfz50_0
        try clear hfz50_1
        try clear hfz52_0
        try clear hfz52_1
        try clear hfz52_2
        try clear hfz52_3
        try clear hfz53_0
        try clear hfz53_1
        try clear hfz8_0
        try clear hfz8_1
        try clear hfz8_2
        try clear hfz8_3
        try clear hx284_0
        try clear hx284_1
        try clear hx284_2
        try clear hx284_3
        try clear hx288_0
        try clear hx288_1
        try clear hx288_2
        try clear hx288_3
        try clear hx289_0
        try clear hx289_1
        try clear hx289_2
        try clear hx289_3
        try clear hx290_0
        try clear hx290_1
        try clear hx290_2
        try clear hx290_3
        try clear hx292_0
        try clear hx292_1
        try clear p2
        try clear p28
        try clear p284
        try clear p288
        try clear p289
        try clear p29
        try clear p290
        try clear p292
        try clear p6
        try clear q2
        try clear q28
        try clear q284
        try clear q288
        try clear q289
        try clear q29
        try clear q290
        try clear q292
        obtain ⟨kq, x90_38, rfl, HA, HJ38, BK291, BK293, HB⟩ := hcut
        cases kq with
        | zero => exact absurd HA.out (by simp [impl_IsHistory.j5])
        | succ kj38 =>
         have H := HA.out
         clear HA
         simp only [impl_IsHistory.j5] at H
         by_cases c54 : x90_38 = true
         ·subst c54
          have H1 : (some false) = some r := by rw [if_pos rfl] at H; exact H
          clear H
          have H := H1
          clear H1
          obtain rfl := Option.some.inj H
          go_wp2
          repeat (go_quiet (fail); try go_wp2)
          go_ret
          exact QT (BT HB.out)
         replace c54 := Bool.eq_false_iff.mpr c54
         subst c54
         have H1 : (impl_IsHistory.l2 kj38 l0 l0 (l0.length : Int) x64_2 ((rd_T53 l0 x64_2).f2) (((rd_T53 l0 x64_2).f2).length : Int) (wrap64 (x71_3 + 1)) ((rd_T53 l0 x64_2).f0) ((rd_T53 l0 x64_2).f1) ((rd_T53 l0 x64_2).f2) ((rd_T53 l0 x64_2).f3)) = some r := by rw [if_neg (show ¬ (false = true) by decide)] at H; exact H
         clear H
         have H := H1
         clear H1
         have H' := AM_ H
         clear H
         go_wp2
         repeat (go_quiet (fail); try go_wp2)
         go_roundg kj38
         case measure => have := HK1.out; have := HK2.out; have := HK3.out; have := HJ38.out; omega
         case rel => exact ⟨(wrap64 (x71_3 + 1)), (by first | rfl | (simp; done) | (simp [*]; done)), H', ⟨by have := HK1.out; have := HK2.out; have := HK3.out; have := HJ38.out; omega⟩, ⟨BH BK291.out⟩, ⟨BT HB.out⟩⟩

end Go.Proofs.YtgpmfkmdchcagaaDoor.PFnExactFormatHistory
