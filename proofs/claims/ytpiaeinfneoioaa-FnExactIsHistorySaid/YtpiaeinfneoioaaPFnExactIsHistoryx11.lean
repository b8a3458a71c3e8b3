-- Printed by a program of mine (wip/myprint.py), which runs the printer of the kit with contracts of mine beside it.
import Derived.Test.YtpiaeinfneoioaaPFnExactIsHistoryx0
import Derived.Test.YtpiaeinfneoioaaPFnExactIsHistoryx7
import Derived.Test.YtpiaeinfneoioaaPFnExactIsHistoryx10
namespace Go.Proofs.Ytpiaeinfneoioaa.PFnExactIsHistory
open Go.RowKit Go.Proofs.YtpiaeinfneoioaaW.PrintWords Go.Proofs.YtpiaeinfneoioaaW.PrintLast Go.Proofs.YtpiaeinfneoioaaW.PrintMore
attribute [local go_sem] max2_int min2_int max_two min_two max_three min_three max_four min_four   -- for this text's walks alone
set_option linter.unusedVariables false
set_option linter.unusedSimpArgs false

/-! ### impl_IsHistory: function 79 -/
mutual
def impl_IsHistory.l0 : Nat → List (S126) → List (S126) → Int → Int → Option (Bool)
 | 0, _, _, _, _ => none
 | k + 1, x0, x13, x14, x15 => if x15 < x14 then (if 0 ≤ x15 then (if x15 < (x13.length : Int) then ((impl_isEntry.f k ((rd_T126 x13 x15).f0) ((rd_T126 x13 x15).f1) ((rd_T126 x13 x15).f2) ((rd_T126 x13 x15).f3)).bind fun t277 => (if t277 = true then ((impl_FindEntry.f k x0 ((rd_T126 x13 x15).f0)).bind fun t278 => (impl_IsHistory.j1 k x0 x15 x13 x14 (t278 != x15) ((rd_T126 x13 x15).f0) ((rd_T126 x13 x15).f1) ((rd_T126 x13 x15).f2) ((rd_T126 x13 x15).f3))) else (impl_IsHistory.j1 k x0 x15 x13 x14 true ((rd_T126 x13 x15).f0) ((rd_T126 x13 x15).f1) ((rd_T126 x13 x15).f2) ((rd_T126 x13 x15).f3)))) else (none)) else (none)) else (impl_IsHistory.l1 k x0 x0 (x0.length : Int) 0)
def impl_IsHistory.j1 : Nat → List (S126) → Int → List (S126) → Int → Bool → Int → Int → List (S32) → List (S132) → Option (Bool)
 | 0, _, _, _, _, _, _, _, _, _ => none
 | k + 1, x0, x3, x13, x14, x30, x277000, x277001, x277002, x277003 => if x30 = true then (some false) else (if x3 > 0 then (if 0 ≤ (wrap64 (x3 - 1)) then (if (wrap64 (x3 - 1)) < (x0.length : Int) then (if x277001 < ((rd_T126 x0 (wrap64 (x3 - 1))).f1) then (impl_IsHistory.j2 k x0 x3 x13 x14 true) else (if x277001 = ((rd_T126 x0 (wrap64 (x3 - 1))).f1) then (impl_IsHistory.j2 k x0 x3 x13 x14 (decide ((x277003.length : Int) > 0))) else (impl_IsHistory.j2 k x0 x3 x13 x14 false))) else (none)) else (none)) else (impl_IsHistory.j2 k x0 x3 x13 x14 false))
def impl_IsHistory.j2 : Nat → List (S126) → Int → List (S126) → Int → Bool → Option (Bool)
 | 0, _, _, _, _, _ => none
 | k + 1, x0, x3, x13, x14, x60 => if x60 = true then (some false) else (impl_IsHistory.l0 k x0 x13 x14 (wrap64 (x3 + 1)))
def impl_IsHistory.l1 : Nat → List (S126) → List (S126) → Int → Int → Option (Bool)
 | 0, _, _, _, _ => none
 | k + 1, x0, x62, x63, x64 => if x64 < x63 then (if 0 ≤ x64 then (if x64 < (x62.length : Int) then (impl_IsHistory.l2 k x0 x62 x63 x64 ((rd_T126 x62 x64).f2) (((rd_T126 x62 x64).f2).length : Int) 0 ((rd_T126 x62 x64).f0) ((rd_T126 x62 x64).f1) ((rd_T126 x62 x64).f2) ((rd_T126 x62 x64).f3)) else (none)) else (none)) else (some true)
def impl_IsHistory.l2 : Nat → List (S126) → List (S126) → Int → Int → List (S32) → Int → Int → Int → Int → List (S32) → List (S132) → Option (Bool)
 | 0, _, _, _, _, _, _, _, _, _, _, _ => none
 | k + 1, x0, x62, x63, x64, x69, x70, x71, x283000, x283001, x283002, x283003 => if x71 < x70 then (if 0 ≤ x71 then (if x71 < (x69.length : Int) then ((impl_WriterOf.f k x0 ((rd_T32 x69 x71).f0) ((rd_T32 x69 x71).f1)).bind fun t285 => (if t285 = x283000 then (impl_IsHistory.j5 k x0 x62 x63 x64 x69 x70 x71 true x283000 x283001 x283002 x283003) else (if ((rd_T32 x69 x71).f1) > 0 then (impl_IsHistory.j5 k x0 x62 x63 x64 x69 x70 x71 (t285 == 0) x283000 x283001 x283002 x283003) else (impl_IsHistory.j5 k x0 x62 x63 x64 x69 x70 x71 false x283000 x283001 x283002 x283003)))) else (none)) else (none)) else (impl_IsHistory.l1 k x0 x62 x63 (wrap64 (x64 + 1)))
def impl_IsHistory.j5 : Nat → List (S126) → List (S126) → Int → Int → List (S32) → Int → Int → Bool → Int → Int → List (S32) → List (S132) → Option (Bool)
 | 0, _, _, _, _, _, _, _, _, _, _, _, _ => none
 | k + 1, x0, x62, x63, x64, x69, x70, x71, x90, x283000, x283001, x283002, x283003 => if x90 = true then (some false) else (impl_IsHistory.l2 k x0 x62 x63 x64 x69 x70 (wrap64 (x71 + 1)) x283000 x283001 x283002 x283003)
end
def impl_IsHistory.f (k : Nat) (l0 : List (S126)) : Option (Bool) := if (l0.length : Int) > 9 then (some false) else (impl_IsHistory.l0 k l0 l0 (l0.length : Int) 0)
theorem impl_IsHistory.mono_l : ∀ k, (∀ y0 y1 y2 y3, LeO (impl_IsHistory.l0 k y0 y1 y2 y3) (impl_IsHistory.l0 (k + 1) y0 y1 y2 y3)) ∧ (∀ y0 y1 y2 y3 y4 y5 y6 y7 y8, LeO (impl_IsHistory.j1 k y0 y1 y2 y3 y4 y5 y6 y7 y8) (impl_IsHistory.j1 (k + 1) y0 y1 y2 y3 y4 y5 y6 y7 y8)) ∧ (∀ y0 y1 y2 y3 y4, LeO (impl_IsHistory.j2 k y0 y1 y2 y3 y4) (impl_IsHistory.j2 (k + 1) y0 y1 y2 y3 y4)) ∧ (∀ y0 y1 y2 y3, LeO (impl_IsHistory.l1 k y0 y1 y2 y3) (impl_IsHistory.l1 (k + 1) y0 y1 y2 y3)) ∧ (∀ y0 y1 y2 y3 y4 y5 y6 y7 y8 y9 y10, LeO (impl_IsHistory.l2 k y0 y1 y2 y3 y4 y5 y6 y7 y8 y9 y10) (impl_IsHistory.l2 (k + 1) y0 y1 y2 y3 y4 y5 y6 y7 y8 y9 y10)) ∧ (∀ y0 y1 y2 y3 y4 y5 y6 y7 y8 y9 y10 y11, LeO (impl_IsHistory.j5 k y0 y1 y2 y3 y4 y5 y6 y7 y8 y9 y10 y11) (impl_IsHistory.j5 (k + 1) y0 y1 y2 y3 y4 y5 y6 y7 y8 y9 y10 y11))
 | 0 => ⟨fun _ _ _ _ r h => by simp [impl_IsHistory.l0] at h, fun _ _ _ _ _ _ _ _ _ r h => by simp [impl_IsHistory.j1] at h, fun _ _ _ _ _ r h => by simp [impl_IsHistory.j2] at h, fun _ _ _ _ r h => by simp [impl_IsHistory.l1] at h, fun _ _ _ _ _ _ _ _ _ _ _ r h => by simp [impl_IsHistory.l2] at h, fun _ _ _ _ _ _ _ _ _ _ _ _ r h => by simp [impl_IsHistory.j5] at h⟩
 | k + 1 => by
  obtain ⟨ih0, ih1, ih2, ih3, ih4, ih5⟩ := impl_IsHistory.mono_l k
  refine ⟨?_, ?_, ?_, ?_, ?_, ?_⟩
  ·intro y0 y1 y2 y3
   unfold impl_IsHistory.l0
   repeat' first
   | (with_reducible exact ih0 _ _ _ _)
   | (with_reducible exact ih1 _ _ _ _ _ _ _ _ _)
   | (with_reducible exact ih2 _ _ _ _ _)
   | (with_reducible exact ih3 _ _ _ _)
   | (with_reducible exact ih4 _ _ _ _ _ _ _ _ _ _ _)
   | (with_reducible exact ih5 _ _ _ _ _ _ _ _ _ _ _ _)
   | (with_reducible exact impl_FindEntry.mono _ _ _)
   | (with_reducible exact impl_WriterOf.mono _ _ _ _)
   | (with_reducible exact impl_isEntry.mono _ _ _ _ _)
   | (with_reducible exact LeO.refl _)
   | (with_reducible exact LeO.none _)
   | (with_reducible refine LeO.ite ?_ ?_)
   | (with_reducible refine LeO.bind ?_ (fun _ => ?_))
   | exact ih0 _ _ _ _
   | exact ih1 _ _ _ _ _ _ _ _ _
   | exact ih2 _ _ _ _ _
   | exact ih3 _ _ _ _
   | exact ih4 _ _ _ _ _ _ _ _ _ _ _
   | exact ih5 _ _ _ _ _ _ _ _ _ _ _ _
   | exact impl_FindEntry.mono _ _ _
   | exact impl_WriterOf.mono _ _ _ _
   | exact impl_isEntry.mono _ _ _ _ _
   | exact LeO.none _
   | refine LeO.ite ?_ ?_
   | refine LeO.bind ?_ (fun _ => ?_)
  ·intro y0 y1 y2 y3 y4 y5 y6 y7 y8
   unfold impl_IsHistory.j1
   repeat' first
   | (with_reducible exact ih0 _ _ _ _)
   | (with_reducible exact ih1 _ _ _ _ _ _ _ _ _)
   | (with_reducible exact ih2 _ _ _ _ _)
   | (with_reducible exact ih3 _ _ _ _)
   | (with_reducible exact ih4 _ _ _ _ _ _ _ _ _ _ _)
   | (with_reducible exact ih5 _ _ _ _ _ _ _ _ _ _ _ _)
   | (with_reducible exact impl_FindEntry.mono _ _ _)
   | (with_reducible exact impl_WriterOf.mono _ _ _ _)
   | (with_reducible exact impl_isEntry.mono _ _ _ _ _)
   | (with_reducible exact LeO.refl _)
   | (with_reducible exact LeO.none _)
   | (with_reducible refine LeO.ite ?_ ?_)
   | (with_reducible refine LeO.bind ?_ (fun _ => ?_))
   | exact ih0 _ _ _ _
   | exact ih1 _ _ _ _ _ _ _ _ _
   | exact ih2 _ _ _ _ _
   | exact ih3 _ _ _ _
   | exact ih4 _ _ _ _ _ _ _ _ _ _ _
   | exact ih5 _ _ _ _ _ _ _ _ _ _ _ _
   | exact impl_FindEntry.mono _ _ _
   | exact impl_WriterOf.mono _ _ _ _
   | exact impl_isEntry.mono _ _ _ _ _
   | exact LeO.none _
   | refine LeO.ite ?_ ?_
   | refine LeO.bind ?_ (fun _ => ?_)
  ·intro y0 y1 y2 y3 y4
   unfold impl_IsHistory.j2
   repeat' first
   | (with_reducible exact ih0 _ _ _ _)
   | (with_reducible exact ih1 _ _ _ _ _ _ _ _ _)
   | (with_reducible exact ih2 _ _ _ _ _)
   | (with_reducible exact ih3 _ _ _ _)
   | (with_reducible exact ih4 _ _ _ _ _ _ _ _ _ _ _)
   | (with_reducible exact ih5 _ _ _ _ _ _ _ _ _ _ _ _)
   | (with_reducible exact impl_FindEntry.mono _ _ _)
   | (with_reducible exact impl_WriterOf.mono _ _ _ _)
   | (with_reducible exact impl_isEntry.mono _ _ _ _ _)
   | (with_reducible exact LeO.refl _)
   | (with_reducible exact LeO.none _)
   | (with_reducible refine LeO.ite ?_ ?_)
   | (with_reducible refine LeO.bind ?_ (fun _ => ?_))
   | exact ih0 _ _ _ _
   | exact ih1 _ _ _ _ _ _ _ _ _
   | exact ih2 _ _ _ _ _
   | exact ih3 _ _ _ _
   | exact ih4 _ _ _ _ _ _ _ _ _ _ _
   | exact ih5 _ _ _ _ _ _ _ _ _ _ _ _
   | exact impl_FindEntry.mono _ _ _
   | exact impl_WriterOf.mono _ _ _ _
   | exact impl_isEntry.mono _ _ _ _ _
   | exact LeO.none _
   | refine LeO.ite ?_ ?_
   | refine LeO.bind ?_ (fun _ => ?_)
  ·intro y0 y1 y2 y3
   unfold impl_IsHistory.l1
   repeat' first
   | (with_reducible exact ih0 _ _ _ _)
   | (with_reducible exact ih1 _ _ _ _ _ _ _ _ _)
   | (with_reducible exact ih2 _ _ _ _ _)
   | (with_reducible exact ih3 _ _ _ _)
   | (with_reducible exact ih4 _ _ _ _ _ _ _ _ _ _ _)
   | (with_reducible exact ih5 _ _ _ _ _ _ _ _ _ _ _ _)
   | (with_reducible exact impl_FindEntry.mono _ _ _)
   | (with_reducible exact impl_WriterOf.mono _ _ _ _)
   | (with_reducible exact impl_isEntry.mono _ _ _ _ _)
   | (with_reducible exact LeO.refl _)
   | (with_reducible exact LeO.none _)
   | (with_reducible refine LeO.ite ?_ ?_)
   | (with_reducible refine LeO.bind ?_ (fun _ => ?_))
   | exact ih0 _ _ _ _
   | exact ih1 _ _ _ _ _ _ _ _ _
   | exact ih2 _ _ _ _ _
   | exact ih3 _ _ _ _
   | exact ih4 _ _ _ _ _ _ _ _ _ _ _
   | exact ih5 _ _ _ _ _ _ _ _ _ _ _ _
   | exact impl_FindEntry.mono _ _ _
   | exact impl_WriterOf.mono _ _ _ _
   | exact impl_isEntry.mono _ _ _ _ _
   | exact LeO.none _
   | refine LeO.ite ?_ ?_
   | refine LeO.bind ?_ (fun _ => ?_)
  ·intro y0 y1 y2 y3 y4 y5 y6 y7 y8 y9 y10
   unfold impl_IsHistory.l2
   repeat' first
   | (with_reducible exact ih0 _ _ _ _)
   | (with_reducible exact ih1 _ _ _ _ _ _ _ _ _)
   | (with_reducible exact ih2 _ _ _ _ _)
   | (with_reducible exact ih3 _ _ _ _)
   | (with_reducible exact ih4 _ _ _ _ _ _ _ _ _ _ _)
   | (with_reducible exact ih5 _ _ _ _ _ _ _ _ _ _ _ _)
   | (with_reducible exact impl_FindEntry.mono _ _ _)
   | (with_reducible exact impl_WriterOf.mono _ _ _ _)
   | (with_reducible exact impl_isEntry.mono _ _ _ _ _)
   | (with_reducible exact LeO.refl _)
   | (with_reducible exact LeO.none _)
   | (with_reducible refine LeO.ite ?_ ?_)
   | (with_reducible refine LeO.bind ?_ (fun _ => ?_))
   | exact ih0 _ _ _ _
   | exact ih1 _ _ _ _ _ _ _ _ _
   | exact ih2 _ _ _ _ _
   | exact ih3 _ _ _ _
   | exact ih4 _ _ _ _ _ _ _ _ _ _ _
   | exact ih5 _ _ _ _ _ _ _ _ _ _ _ _
   | exact impl_FindEntry.mono _ _ _
   | exact impl_WriterOf.mono _ _ _ _
   | exact impl_isEntry.mono _ _ _ _ _
   | exact LeO.none _
   | refine LeO.ite ?_ ?_
   | refine LeO.bind ?_ (fun _ => ?_)
  ·intro y0 y1 y2 y3 y4 y5 y6 y7 y8 y9 y10 y11
   unfold impl_IsHistory.j5
   repeat' first
   | (with_reducible exact ih0 _ _ _ _)
   | (with_reducible exact ih1 _ _ _ _ _ _ _ _ _)
   | (with_reducible exact ih2 _ _ _ _ _)
   | (with_reducible exact ih3 _ _ _ _)
   | (with_reducible exact ih4 _ _ _ _ _ _ _ _ _ _ _)
   | (with_reducible exact ih5 _ _ _ _ _ _ _ _ _ _ _ _)
   | (with_reducible exact impl_FindEntry.mono _ _ _)
   | (with_reducible exact impl_WriterOf.mono _ _ _ _)
   | (with_reducible exact impl_isEntry.mono _ _ _ _ _)
   | (with_reducible exact LeO.refl _)
   | (with_reducible exact LeO.none _)
   | (with_reducible refine LeO.ite ?_ ?_)
   | (with_reducible refine LeO.bind ?_ (fun _ => ?_))
   | exact ih0 _ _ _ _
   | exact ih1 _ _ _ _ _ _ _ _ _
   | exact ih2 _ _ _ _ _
   | exact ih3 _ _ _ _
   | exact ih4 _ _ _ _ _ _ _ _ _ _ _
   | exact ih5 _ _ _ _ _ _ _ _ _ _ _ _
   | exact impl_FindEntry.mono _ _ _
   | exact impl_WriterOf.mono _ _ _ _
   | exact impl_isEntry.mono _ _ _ _ _
   | exact LeO.none _
   | refine LeO.ite ?_ ?_
   | refine LeO.bind ?_ (fun _ => ?_)
theorem impl_IsHistory.mono : ∀ a0 k, LeO (impl_IsHistory.f k a0) (impl_IsHistory.f (k + 1) a0) := by
 intro a0 k
 obtain ⟨ih0, ih1, ih2, ih3, ih4, ih5⟩ := impl_IsHistory.mono_l k
 unfold impl_IsHistory.f
 repeat' first
   | (with_reducible exact ih0 _ _ _ _)
   | (with_reducible exact ih1 _ _ _ _ _ _ _ _ _)
   | (with_reducible exact ih2 _ _ _ _ _)
   | (with_reducible exact ih3 _ _ _ _)
   | (with_reducible exact ih4 _ _ _ _ _ _ _ _ _ _ _)
   | (with_reducible exact ih5 _ _ _ _ _ _ _ _ _ _ _ _)
   | (with_reducible exact impl_FindEntry.mono _ _ _)
   | (with_reducible exact impl_WriterOf.mono _ _ _ _)
   | (with_reducible exact impl_isEntry.mono _ _ _ _ _)
   | (with_reducible exact LeO.refl _)
   | (with_reducible exact LeO.none _)
   | (with_reducible refine LeO.ite ?_ ?_)
   | (with_reducible refine LeO.bind ?_ (fun _ => ?_))
   | exact ih0 _ _ _ _
   | exact ih1 _ _ _ _ _ _ _ _ _
   | exact ih2 _ _ _ _ _
   | exact ih3 _ _ _ _
   | exact ih4 _ _ _ _ _ _ _ _ _ _ _
   | exact ih5 _ _ _ _ _ _ _ _ _ _ _ _
   | exact impl_FindEntry.mono _ _ _
   | exact impl_WriterOf.mono _ _ _ _
   | exact impl_isEntry.mono _ _ _ _ _
   | exact LeO.none _
   | refine LeO.ite ?_ ?_
   | refine LeO.bind ?_ (fun _ => ?_)
set_option maxHeartbeats 8000000 in
set_option maxRecDepth 100000 in
theorem impl_IsHistory.calls (k : Nat) (A0 : Option Addr) (c0 : Nat) (l0 : List (S126)) (r : Bool) (w : World) (hr0 : Kd.C k126 w A0 l0.length l0) (hc0 : l0.length ≤ c0) (h : impl_IsHistory.f k l0 = some r) :
  Calls Try.prog 79 #[.slice A0 l0.length c0] w fun e w' => e = .returned (.bool r) ∧ Below w.heap.size w w' := by
 have hu126 := Try.underlying126
 have hu32 := Try.underlying32
 have HR0 := Aside0.mk hr0
 have HC0 := Aside0.mk hc0
 clear hr0 hc0
 have HB := Aside0.mk (Below.refl w.heap.size w)
 have H : (if (l0.length : Int) > 9 then (some false) else (impl_IsHistory.l0 k l0 l0 (l0.length : Int) 0)) = some r := h
 clear h
 by_cases c2 : (l0.length : Int) > 9
 ·rw [if_pos c2] at H
  have c2b0 : decide (9 < (l0.length : Int)) = true := decide_eq_true c2
  have c2b1 : decide (9 < l0.length) = true := decide_eq_true (by omega)
  clear c2
  obtain rfl := Option.some.inj H
  go_enter Try.func79, Try.ntmps79
  go_wp2
  repeat (go_quiet (fail); try go_wp2)
  go_ret
  exact ⟨by first | rfl | (simp [errW_none, errW_some] <;> rfl) | (simp [*, errW_none, errW_some] <;> rfl), by repeat (first | (with_reducible first | exact HB.out | apply below_alloc | apply pw_below_drewN | apply below_drew1) | exact HB.out)⟩
 ·rw [if_neg c2] at H
  have c2b0 : decide (9 < (l0.length : Int)) = false := decide_eq_false c2
  have c2b1 : decide (9 < l0.length) = false := decide_eq_false (by omega)
  clear c2
  have H' := Aside0.mk H
  clear H
  go_enter Try.func79, Try.ntmps79
  go_wp2
  repeat (go_quiet (fail); try go_wp2)
  go_loopg [15] k (fun kq v15 w' => ∃ (x15_1 : Int), v15 = .int .i64 x15_1 ∧ Aside0 (impl_IsHistory.l0 kq l0 l0 (l0.length : Int) x15_1 = some r) ∧ Aside0 (kq ≤ k) ∧ Aside0 (Below w.heap.size w w'))
  case atStart => exact ⟨(0), (by first | rfl | (simp; done) | (simp [*]; done)), H', ⟨Nat.le_refl _⟩, ⟨by repeat (first | (with_reducible first | exact HB.out | apply below_alloc | apply pw_below_drewN | apply below_drew1) | exact HB.out)⟩⟩
  case round =>
   clear H'
   try clear c2
   try clear c2b0
   try clear c2b1
   try clear p2
   obtain ⟨x15_1, rfl, HA, HK1, HB⟩ := hrel
   cases gk with
   | zero => exact absurd HA.out (by simp [impl_IsHistory.l0])
   | succ k1 =>
    have H := HA.out
    clear HA
    simp only [impl_IsHistory.l0] at H
    by_cases c3 : x15_1 < (l0.length : Int)
    ·rw [if_pos c3] at H
     have c3b0 : decide (x15_1 < (l0.length : Int)) = true := decide_eq_true c3
     clear c3
     by_cases c4 : 0 ≤ x15_1
     ·rw [if_pos c4] at H
      have c4b0 : decide (0 ≤ x15_1) = true := decide_eq_true c4
      clear c4
      by_cases c5 : x15_1 < (l0.length : Int)
      ·rw [if_pos c5] at H
       have c5b0 : decide (x15_1 < (l0.length : Int)) = true := decide_eq_true c5
       clear c5
       have HC6 := Aside0.mk H
       clear H
       have p275 : 0 ≤ (x15_1 : Int) := of_decide_eq_true (by first | (with_reducible assumption) | assumption)
       have q275 : x15_1 < (l0.length : Int) := of_decide_eq_true (by first | (with_reducible assumption) | assumption)
       obtain ⟨ad275, A275_2, c275_2, A275_3, c275_3, e275, hx275_0, hx275_1, hx275_2, hx275_3, hl275_2, hi275_2, hl275_3, hi275_3⟩ := at_T126 HR0.out x15_1 p275 q275
       cases e275
       replace hx275_0 := (HB.out.cell (World.block_lt_of_cell? w _ hx275_0)).trans hx275_0
       replace hx275_1 := (HB.out.cell (World.block_lt_of_cell? w _ hx275_1)).trans hx275_1
       replace hx275_2 := (HB.out.cell (World.block_lt_of_cell? w _ hx275_2)).trans hx275_2
       replace hx275_3 := (HB.out.cell (World.block_lt_of_cell? w _ hx275_3)).trans hx275_3
       have HR275_2 := Aside0.mk hi275_2
       have HC275_2 := Aside0.mk hl275_2
       clear hi275_2 hl275_2
       have HR275_3 := Aside0.mk hi275_3
       have HC275_3 := Aside0.mk hl275_3
       clear hi275_3 hl275_3
       replace p275 := eq_true p275
       replace q275 := eq_true q275
       go_upto_region 6 with (first | ((with_reducible refine gate_dst (N := 4) rfl ?_); (try (refine gate_guard (by rfl) ?_; dsimp only)); refine box_event ?hg (N := 4) ?hd (cs := #[.int .i64 0, .int .i64 0, .slice none 0 0, .slice none 0 0]) (t := 126) ?hr ?_; (case hd => rfl); (case hg => rfl); (case hr => first | (go_simp; done) | (go_simp; rfl)); intro gb276 hg w7 hbox hb; have n0_ := Aside0.mk (below_step (by repeat (first | (with_reducible first | exact HB.out | apply below_alloc | apply pw_below_drewN | apply below_drew1) | exact HB.out)) hb); have n1_ := Aside0.mk (hbox); have n2_ := Aside0.mk ((by rw [hg]; exact (below_size (by repeat (first | (with_reducible first | exact HB.out | apply below_alloc | apply pw_below_drewN | apply below_drew1) | exact HB.out))) : w.heap.size ≤ gb276)); have n3_ := Aside0.mk ((by rw [hg]; exact (below_size (by repeat (first | (with_reducible first | exact HB.out | apply below_alloc | apply pw_below_drewN | apply below_drew1) | exact HB.out))) : w.heap.size ≤ gb276)); clear HB; have HB := n0_; have BK276 := n1_; have GW276 := n2_; have GE276 := n3_; clear n0_ n1_ n2_ n3_; clear hb hbox hg; have hcz8_0 : w7.cell? ⟨gb276, 0, none⟩ = some (.int .i64 0) := (blk_cell BK276.out 0).trans rfl; have hcz8_1 : w7.cell? ⟨gb276, 1, none⟩ = some (.int .i64 0) := (blk_cell BK276.out 1).trans rfl; have hcz8_2 : w7.cell? ⟨gb276, 2, none⟩ = some (.slice none 0 0) := (blk_cell BK276.out 2).trans rfl; have hcz8_3 : w7.cell? ⟨gb276, 3, none⟩ = some (.slice none 0 0) := (blk_cell BK276.out 3).trans rfl; have hfz8_0 := blk_frozen BK276.out 0; have hfz8_1 := blk_frozen BK276.out 1; have hfz8_2 := blk_frozen BK276.out 2; have hfz8_3 := blk_frozen BK276.out 3))
       repeat (go_quiet (first | ((with_reducible refine gate_dst (N := 4) rfl ?_); (try (refine gate_guard (by rfl) ?_; dsimp only)); refine box_event ?hg (N := 4) ?hd (cs := #[.int .i64 0, .int .i64 0, .slice none 0 0, .slice none 0 0]) (t := 126) ?hr ?_; (case hd => rfl); (case hg => rfl); (case hr => first | (go_simp; done) | (go_simp; rfl)); intro gb276 hg w7 hbox hb; have n0_ := Aside0.mk (below_step (by repeat (first | (with_reducible first | exact HB.out | apply below_alloc | apply pw_below_drewN | apply below_drew1) | exact HB.out)) hb); have n1_ := Aside0.mk (hbox); have n2_ := Aside0.mk ((by rw [hg]; exact (below_size (by repeat (first | (with_reducible first | exact HB.out | apply below_alloc | apply pw_below_drewN | apply below_drew1) | exact HB.out))) : w.heap.size ≤ gb276)); have n3_ := Aside0.mk ((by rw [hg]; exact (below_size (by repeat (first | (with_reducible first | exact HB.out | apply below_alloc | apply pw_below_drewN | apply below_drew1) | exact HB.out))) : w.heap.size ≤ gb276)); clear HB; have HB := n0_; have BK276 := n1_; have GW276 := n2_; have GE276 := n3_; clear n0_ n1_ n2_ n3_; clear hb hbox hg; have hcz8_0 : w7.cell? ⟨gb276, 0, none⟩ = some (.int .i64 0) := (blk_cell BK276.out 0).trans rfl; have hcz8_1 : w7.cell? ⟨gb276, 1, none⟩ = some (.int .i64 0) := (blk_cell BK276.out 1).trans rfl; have hcz8_2 : w7.cell? ⟨gb276, 2, none⟩ = some (.slice none 0 0) := (blk_cell BK276.out 2).trans rfl; have hcz8_3 : w7.cell? ⟨gb276, 3, none⟩ = some (.slice none 0 0) := (blk_cell BK276.out 3).trans rfl; have hfz8_0 := blk_frozen BK276.out 0; have hfz8_1 := blk_frozen BK276.out 1; have hfz8_2 := blk_frozen BK276.out 2; have hfz8_3 := blk_frozen BK276.out 3)); go_upto_region 6 with (first | ((with_reducible refine gate_dst (N := 4) rfl ?_); (try (refine gate_guard (by rfl) ?_; dsimp only)); refine box_event ?hg (N := 4) ?hd (cs := #[.int .i64 0, .int .i64 0, .slice none 0 0, .slice none 0 0]) (t := 126) ?hr ?_; (case hd => rfl); (case hg => rfl); (case hr => first | (go_simp; done) | (go_simp; rfl)); intro gb276 hg w7 hbox hb; have n0_ := Aside0.mk (below_step (by repeat (first | (with_reducible first | exact HB.out | apply below_alloc | apply pw_below_drewN | apply below_drew1) | exact HB.out)) hb); have n1_ := Aside0.mk (hbox); have n2_ := Aside0.mk ((by rw [hg]; exact (below_size (by repeat (first | (with_reducible first | exact HB.out | apply below_alloc | apply pw_below_drewN | apply below_drew1) | exact HB.out))) : w.heap.size ≤ gb276)); have n3_ := Aside0.mk ((by rw [hg]; exact (below_size (by repeat (first | (with_reducible first | exact HB.out | apply below_alloc | apply pw_below_drewN | apply below_drew1) | exact HB.out))) : w.heap.size ≤ gb276)); clear HB; have HB := n0_; have BK276 := n1_; have GW276 := n2_; have GE276 := n3_; clear n0_ n1_ n2_ n3_; clear hb hbox hg; have hcz8_0 : w7.cell? ⟨gb276, 0, none⟩ = some (.int .i64 0) := (blk_cell BK276.out 0).trans rfl; have hcz8_1 : w7.cell? ⟨gb276, 1, none⟩ = some (.int .i64 0) := (blk_cell BK276.out 1).trans rfl; have hcz8_2 : w7.cell? ⟨gb276, 2, none⟩ = some (.slice none 0 0) := (blk_cell BK276.out 2).trans rfl; have hcz8_3 : w7.cell? ⟨gb276, 3, none⟩ = some (.slice none 0 0) := (blk_cell BK276.out 3).trans rfl; have hfz8_0 := blk_frozen BK276.out 0; have hfz8_1 := blk_frozen BK276.out 1; have hfz8_2 := blk_frozen BK276.out 2; have hfz8_3 := blk_frozen BK276.out 3)))
       (try simp only [Act.put, List.setIfInBounds_toArray, List.set_cons_zero, List.set_cons_succ])
       go_cut [30] (fun v30 wc => ∃ (kq : Nat) (x30_5 : Bool), v30 = .bool x30_5 ∧ Aside0 (impl_IsHistory.j1 kq l0 x15_1 l0 (l0.length : Int) x30_5 ((rd_T126 l0 x15_1).f0) ((rd_T126 l0 x15_1).f1) ((rd_T126 l0 x15_1).f2) ((rd_T126 l0 x15_1).f3) = some r) ∧ Aside0 (kq ≤ k1) ∧ Aside0 (wc.heap[gb276]? = some (.cells #[.int .i64 ((rd_T126 l0 x15_1).f0), .int .i64 ((rd_T126 l0 x15_1).f1), (.slice A275_2 ((rd_T126 l0 x15_1).f2).length c275_2), (.slice A275_3 ((rd_T126 l0 x15_1).f3).length c275_3)] 126 (0, 0))) ∧ Aside0 (Below w.heap.size w wc))
       case first =>
        have H := HC6.out
        clear HC6
        replace H := Option.bind_eq_some_iff.mp H
        obtain ⟨t277, A90, H⟩ := H
        replace H : (if t277 = true then ((impl_FindEntry.f k1 l0 ((rd_T126 l0 x15_1).f0)).bind fun t278 => (impl_IsHistory.j1 k1 l0 x15_1 l0 (l0.length : Int) (t278 != x15_1) ((rd_T126 l0 x15_1).f0) ((rd_T126 l0 x15_1).f1) ((rd_T126 l0 x15_1).f2) ((rd_T126 l0 x15_1).f3))) else (impl_IsHistory.j1 k1 l0 x15_1 l0 (l0.length : Int) true ((rd_T126 l0 x15_1).f0) ((rd_T126 l0 x15_1).f1) ((rd_T126 l0 x15_1).f2) ((rd_T126 l0 x15_1).f3))) = some r := H
        have A9 := Aside0.mk A90
        clear A90
        by_cases c10 : t277 = true
        ·subst c10
         have H1 : ((impl_FindEntry.f k1 l0 ((rd_T126 l0 x15_1).f0)).bind fun t278 => (impl_IsHistory.j1 k1 l0 x15_1 l0 (l0.length : Int) (t278 != x15_1) ((rd_T126 l0 x15_1).f0) ((rd_T126 l0 x15_1).f1) ((rd_T126 l0 x15_1).f2) ((rd_T126 l0 x15_1).f3))) = some r := by rw [if_pos rfl] at H; exact H
         clear H
         have H := H1
         clear H1
         replace H := Option.bind_eq_some_iff.mp H
         obtain ⟨t278, A110, H⟩ := H
         replace H : (impl_IsHistory.j1 k1 l0 x15_1 l0 (l0.length : Int) (t278 != x15_1) ((rd_T126 l0 x15_1).f0) ((rd_T126 l0 x15_1).f1) ((rd_T126 l0 x15_1).f2) ((rd_T126 l0 x15_1).f3)) = some r := H
         have A11 := Aside0.mk A110
         clear A110
         have H' := Aside0.mk H
         clear H
         have hcz12_0 : w7.cell? ⟨gb276, 0, none⟩ = some (.int .i64 0) := (blk_cell BK276.out 0).trans rfl
         have hcz12_1 : w7.cell? ⟨gb276, 1, none⟩ = some (.int .i64 0) := (blk_cell BK276.out 1).trans rfl
         have hcz12_2 : w7.cell? ⟨gb276, 2, none⟩ = some (.slice none 0 0) := (blk_cell BK276.out 2).trans rfl
         have hcz12_3 : w7.cell? ⟨gb276, 3, none⟩ = some (.slice none 0 0) := (blk_cell BK276.out 3).trans rfl
         have hfz12_0 := blk_frozen BK276.out 0
         have hfz12_1 := blk_frozen BK276.out 1
         have hfz12_2 := blk_frozen BK276.out 2
         have hfz12_3 := blk_frozen BK276.out 3
         go_wp2_with (first | (go_at_call 154; (with_reducible refine (impl_isEntry.calls k1 ((rd_T126 l0 x15_1).f0) ((rd_T126 l0 x15_1).f1) _ _ ((rd_T126 l0 x15_1).f2) _ _ ((rd_T126 l0 x15_1).f3) true _ ?side1 ?side2 ?side3 ?side4 A9.out).mono ?_); (case side1 => exact Kd.C_below HR275_2.out (by repeat (first | (with_reducible first | exact HB.out | apply below_alloc | apply pw_below_drewN | apply below_drew1 | refine below_set ?_ GE276.out) | exact HB.out))); (case side2 => exact HC275_2.out); (case side3 => exact Kd.C_below HR275_3.out (by repeat (first | (with_reducible first | exact HB.out | apply below_alloc | apply pw_below_drewN | apply below_drew1 | refine below_set ?_ GE276.out) | exact HB.out))); (case side4 => exact HC275_3.out); rintro e w13 ⟨rfl, hb⟩; have n0_ := Aside0.mk (blk_below (g := gb276) (o := .cells #[.int .i64 ((rd_T126 l0 x15_1).f0), .int .i64 ((rd_T126 l0 x15_1).f1), .slice A275_2 ((rd_T126 l0 x15_1).f2).length c275_2, .slice A275_3 ((rd_T126 l0 x15_1).f3).length c275_3] 126 (0, 0)) (by (with_reducible repeat (first | refine blk_drewN ?_ _ | refine blk_drew ?_ | refine blk_alloc ?_ _)); refine blk_put (cs := #[.int .i64 ((rd_T126 l0 x15_1).f0), .int .i64 ((rd_T126 l0 x15_1).f1), .slice A275_2 ((rd_T126 l0 x15_1).f2).length c275_2, .slice none 0 0]) ?_ 3 _ rfl; (with_reducible repeat (first | refine blk_drewN ?_ _ | refine blk_drew ?_ | refine blk_alloc ?_ _)); refine blk_put (cs := #[.int .i64 ((rd_T126 l0 x15_1).f0), .int .i64 ((rd_T126 l0 x15_1).f1), .slice none 0 0, .slice none 0 0]) ?_ 2 _ rfl; (with_reducible repeat (first | refine blk_drewN ?_ _ | refine blk_drew ?_ | refine blk_alloc ?_ _)); refine blk_put (cs := #[.int .i64 ((rd_T126 l0 x15_1).f0), .int .i64 0, .slice none 0 0, .slice none 0 0]) ?_ 1 _ rfl; (with_reducible repeat (first | refine blk_drewN ?_ _ | refine blk_drew ?_ | refine blk_alloc ?_ _)); refine blk_put (cs := #[.int .i64 0, .int .i64 0, .slice none 0 0, .slice none 0 0]) ?_ 0 _ rfl; (with_reducible repeat (first | refine blk_drewN ?_ _ | refine blk_drew ?_ | refine blk_alloc ?_ _)); exact BK276.out) hb); have n1_ := Aside0.mk (below_step (by repeat (first | (with_reducible first | exact HB.out | apply below_alloc | apply pw_below_drewN | apply below_drew1 | refine below_set ?_ GE276.out) | exact HB.out)) hb); clear BK276; clear HB; have BK276 := n0_; have HB := n1_; clear n0_ n1_; (try clear hb); (try clear hb2); (try clear hk); (try clear hi); have hcz14_0 : w13.cell? ⟨gb276, 0, none⟩ = some (.int .i64 ((rd_T126 l0 x15_1).f0)) := (blk_cell BK276.out 0).trans rfl; have hcz14_1 : w13.cell? ⟨gb276, 1, none⟩ = some (.int .i64 ((rd_T126 l0 x15_1).f1)) := (blk_cell BK276.out 1).trans rfl; have hcz14_2 : w13.cell? ⟨gb276, 2, none⟩ = some (.slice A275_2 ((rd_T126 l0 x15_1).f2).length c275_2) := (blk_cell BK276.out 2).trans rfl; have hcz14_3 : w13.cell? ⟨gb276, 3, none⟩ = some (.slice A275_3 ((rd_T126 l0 x15_1).f3).length c275_3) := (blk_cell BK276.out 3).trans rfl; have hfz14_0 := blk_frozen BK276.out 0; have hfz14_1 := blk_frozen BK276.out 1; have hfz14_2 := blk_frozen BK276.out 2; have hfz14_3 := blk_frozen BK276.out 3) | (go_at_call 18; (with_reducible refine (impl_FindEntry.calls k1 _ _ l0 ((rd_T126 l0 x15_1).f0) t278 _ ?side1 ?side2 A11.out).mono ?_); (case side1 => repeat (first | exact (Kd.C_below HR0.out HB.out) | (with_reducible refine Kd.C_alloc ?_ _) | (with_reducible refine Kd.C_drewN ?_ _) | (with_reducible refine Kd.C_drew ?_))); (case side2 => exact HC0.out); rintro e w15 ⟨rfl, hb⟩; have n0_ := Aside0.mk (blk_below (g := gb276) (o := .cells #[.int .i64 ((rd_T126 l0 x15_1).f0), .int .i64 ((rd_T126 l0 x15_1).f1), .slice A275_2 ((rd_T126 l0 x15_1).f2).length c275_2, .slice A275_3 ((rd_T126 l0 x15_1).f3).length c275_3] 126 (0, 0)) (by (with_reducible repeat (first | refine blk_drewN ?_ _ | refine blk_drew ?_ | refine blk_alloc ?_ _)); exact BK276.out) hb); have n1_ := Aside0.mk (below_step (by repeat (first | (with_reducible first | exact HB.out | apply below_alloc | apply pw_below_drewN | apply below_drew1 | refine below_set ?_ GE276.out) | exact HB.out)) hb); clear BK276; clear HB; have BK276 := n0_; have HB := n1_; clear n0_ n1_; (try clear hb); (try clear hb2); (try clear hk); (try clear hi)))
         repeat (go_quiet (first | (go_at_call 154; (with_reducible refine (impl_isEntry.calls k1 ((rd_T126 l0 x15_1).f0) ((rd_T126 l0 x15_1).f1) _ _ ((rd_T126 l0 x15_1).f2) _ _ ((rd_T126 l0 x15_1).f3) true _ ?side1 ?side2 ?side3 ?side4 A9.out).mono ?_); (case side1 => exact Kd.C_below HR275_2.out (by repeat (first | (with_reducible first | exact HB.out | apply below_alloc | apply pw_below_drewN | apply below_drew1 | refine below_set ?_ GE276.out) | exact HB.out))); (case side2 => exact HC275_2.out); (case side3 => exact Kd.C_below HR275_3.out (by repeat (first | (with_reducible first | exact HB.out | apply below_alloc | apply pw_below_drewN | apply below_drew1 | refine below_set ?_ GE276.out) | exact HB.out))); (case side4 => exact HC275_3.out); rintro e w13 ⟨rfl, hb⟩; have n0_ := Aside0.mk (blk_below (g := gb276) (o := .cells #[.int .i64 ((rd_T126 l0 x15_1).f0), .int .i64 ((rd_T126 l0 x15_1).f1), .slice A275_2 ((rd_T126 l0 x15_1).f2).length c275_2, .slice A275_3 ((rd_T126 l0 x15_1).f3).length c275_3] 126 (0, 0)) (by (with_reducible repeat (first | refine blk_drewN ?_ _ | refine blk_drew ?_ | refine blk_alloc ?_ _)); refine blk_put (cs := #[.int .i64 ((rd_T126 l0 x15_1).f0), .int .i64 ((rd_T126 l0 x15_1).f1), .slice A275_2 ((rd_T126 l0 x15_1).f2).length c275_2, .slice none 0 0]) ?_ 3 _ rfl; (with_reducible repeat (first | refine blk_drewN ?_ _ | refine blk_drew ?_ | refine blk_alloc ?_ _)); refine blk_put (cs := #[.int .i64 ((rd_T126 l0 x15_1).f0), .int .i64 ((rd_T126 l0 x15_1).f1), .slice none 0 0, .slice none 0 0]) ?_ 2 _ rfl; (with_reducible repeat (first | refine blk_drewN ?_ _ | refine blk_drew ?_ | refine blk_alloc ?_ _)); refine blk_put (cs := #[.int .i64 ((rd_T126 l0 x15_1).f0), .int .i64 0, .slice none 0 0, .slice none 0 0]) ?_ 1 _ rfl; (with_reducible repeat (first | refine blk_drewN ?_ _ | refine blk_drew ?_ | refine blk_alloc ?_ _)); refine blk_put (cs := #[.int .i64 0, .int .i64 0, .slice none 0 0, .slice none 0 0]) ?_ 0 _ rfl; (with_reducible repeat (first | refine blk_drewN ?_ _ | refine blk_drew ?_ | refine blk_alloc ?_ _)); exact BK276.out) hb); have n1_ := Aside0.mk (below_step (by repeat (first | (with_reducible first | exact HB.out | apply below_alloc | apply pw_below_drewN | apply below_drew1 | refine below_set ?_ GE276.out) | exact HB.out)) hb); clear BK276; clear HB; have BK276 := n0_; have HB := n1_; clear n0_ n1_; (try clear hb); (try clear hb2); (try clear hk); (try clear hi); have hcz14_0 : w13.cell? ⟨gb276, 0, none⟩ = some (.int .i64 ((rd_T126 l0 x15_1).f0)) := (blk_cell BK276.out 0).trans rfl; have hcz14_1 : w13.cell? ⟨gb276, 1, none⟩ = some (.int .i64 ((rd_T126 l0 x15_1).f1)) := (blk_cell BK276.out 1).trans rfl; have hcz14_2 : w13.cell? ⟨gb276, 2, none⟩ = some (.slice A275_2 ((rd_T126 l0 x15_1).f2).length c275_2) := (blk_cell BK276.out 2).trans rfl; have hcz14_3 : w13.cell? ⟨gb276, 3, none⟩ = some (.slice A275_3 ((rd_T126 l0 x15_1).f3).length c275_3) := (blk_cell BK276.out 3).trans rfl; have hfz14_0 := blk_frozen BK276.out 0; have hfz14_1 := blk_frozen BK276.out 1; have hfz14_2 := blk_frozen BK276.out 2; have hfz14_3 := blk_frozen BK276.out 3) | (go_at_call 18; (with_reducible refine (impl_FindEntry.calls k1 _ _ l0 ((rd_T126 l0 x15_1).f0) t278 _ ?side1 ?side2 A11.out).mono ?_); (case side1 => repeat (first | exact (Kd.C_below HR0.out HB.out) | (with_reducible refine Kd.C_alloc ?_ _) | (with_reducible refine Kd.C_drewN ?_ _) | (with_reducible refine Kd.C_drew ?_))); (case side2 => exact HC0.out); rintro e w15 ⟨rfl, hb⟩; have n0_ := Aside0.mk (blk_below (g := gb276) (o := .cells #[.int .i64 ((rd_T126 l0 x15_1).f0), .int .i64 ((rd_T126 l0 x15_1).f1), .slice A275_2 ((rd_T126 l0 x15_1).f2).length c275_2, .slice A275_3 ((rd_T126 l0 x15_1).f3).length c275_3] 126 (0, 0)) (by (with_reducible repeat (first | refine blk_drewN ?_ _ | refine blk_drew ?_ | refine blk_alloc ?_ _)); exact BK276.out) hb); have n1_ := Aside0.mk (below_step (by repeat (first | (with_reducible first | exact HB.out | apply below_alloc | apply pw_below_drewN | apply below_drew1 | refine below_set ?_ GE276.out) | exact HB.out)) hb); clear BK276; clear HB; have BK276 := n0_; have HB := n1_; clear n0_ n1_; (try clear hb); (try clear hb2); (try clear hk); (try clear hi))); try go_wp2_with (first | (go_at_call 154; (with_reducible refine (impl_isEntry.calls k1 ((rd_T126 l0 x15_1).f0) ((rd_T126 l0 x15_1).f1) _ _ ((rd_T126 l0 x15_1).f2) _ _ ((rd_T126 l0 x15_1).f3) true _ ?side1 ?side2 ?side3 ?side4 A9.out).mono ?_); (case side1 => exact Kd.C_below HR275_2.out (by repeat (first | (with_reducible first | exact HB.out | apply below_alloc | apply pw_below_drewN | apply below_drew1 | refine below_set ?_ GE276.out) | exact HB.out))); (case side2 => exact HC275_2.out); (case side3 => exact Kd.C_below HR275_3.out (by repeat (first | (with_reducible first | exact HB.out | apply below_alloc | apply pw_below_drewN | apply below_drew1 | refine below_set ?_ GE276.out) | exact HB.out))); (case side4 => exact HC275_3.out); rintro e w13 ⟨rfl, hb⟩; have n0_ := Aside0.mk (blk_below (g := gb276) (o := .cells #[.int .i64 ((rd_T126 l0 x15_1).f0), .int .i64 ((rd_T126 l0 x15_1).f1), .slice A275_2 ((rd_T126 l0 x15_1).f2).length c275_2, .slice A275_3 ((rd_T126 l0 x15_1).f3).length c275_3] 126 (0, 0)) (by (with_reducible repeat (first | refine blk_drewN ?_ _ | refine blk_drew ?_ | refine blk_alloc ?_ _)); refine blk_put (cs := #[.int .i64 ((rd_T126 l0 x15_1).f0), .int .i64 ((rd_T126 l0 x15_1).f1), .slice A275_2 ((rd_T126 l0 x15_1).f2).length c275_2, .slice none 0 0]) ?_ 3 _ rfl; (with_reducible repeat (first | refine blk_drewN ?_ _ | refine blk_drew ?_ | refine blk_alloc ?_ _)); refine blk_put (cs := #[.int .i64 ((rd_T126 l0 x15_1).f0), .int .i64 ((rd_T126 l0 x15_1).f1), .slice none 0 0, .slice none 0 0]) ?_ 2 _ rfl; (with_reducible repeat (first | refine blk_drewN ?_ _ | refine blk_drew ?_ | refine blk_alloc ?_ _)); refine blk_put (cs := #[.int .i64 ((rd_T126 l0 x15_1).f0), .int .i64 0, .slice none 0 0, .slice none 0 0]) ?_ 1 _ rfl; (with_reducible repeat (first | refine blk_drewN ?_ _ | refine blk_drew ?_ | refine blk_alloc ?_ _)); refine blk_put (cs := #[.int .i64 0, .int .i64 0, .slice none 0 0, .slice none 0 0]) ?_ 0 _ rfl; (with_reducible repeat (first | refine blk_drewN ?_ _ | refine blk_drew ?_ | refine blk_alloc ?_ _)); exact BK276.out) hb); have n1_ := Aside0.mk (below_step (by repeat (first | (with_reducible first | exact HB.out | apply below_alloc | apply pw_below_drewN | apply below_drew1 | refine below_set ?_ GE276.out) | exact HB.out)) hb); clear BK276; clear HB; have BK276 := n0_; have HB := n1_; clear n0_ n1_; (try clear hb); (try clear hb2); (try clear hk); (try clear hi); have hcz14_0 : w13.cell? ⟨gb276, 0, none⟩ = some (.int .i64 ((rd_T126 l0 x15_1).f0)) := (blk_cell BK276.out 0).trans rfl; have hcz14_1 : w13.cell? ⟨gb276, 1, none⟩ = some (.int .i64 ((rd_T126 l0 x15_1).f1)) := (blk_cell BK276.out 1).trans rfl; have hcz14_2 : w13.cell? ⟨gb276, 2, none⟩ = some (.slice A275_2 ((rd_T126 l0 x15_1).f2).length c275_2) := (blk_cell BK276.out 2).trans rfl; have hcz14_3 : w13.cell? ⟨gb276, 3, none⟩ = some (.slice A275_3 ((rd_T126 l0 x15_1).f3).length c275_3) := (blk_cell BK276.out 3).trans rfl; have hfz14_0 := blk_frozen BK276.out 0; have hfz14_1 := blk_frozen BK276.out 1; have hfz14_2 := blk_frozen BK276.out 2; have hfz14_3 := blk_frozen BK276.out 3) | (go_at_call 18; (with_reducible refine (impl_FindEntry.calls k1 _ _ l0 ((rd_T126 l0 x15_1).f0) t278 _ ?side1 ?side2 A11.out).mono ?_); (case side1 => repeat (first | exact (Kd.C_below HR0.out HB.out) | (with_reducible refine Kd.C_alloc ?_ _) | (with_reducible refine Kd.C_drewN ?_ _) | (with_reducible refine Kd.C_drew ?_))); (case side2 => exact HC0.out); rintro e w15 ⟨rfl, hb⟩; have n0_ := Aside0.mk (blk_below (g := gb276) (o := .cells #[.int .i64 ((rd_T126 l0 x15_1).f0), .int .i64 ((rd_T126 l0 x15_1).f1), .slice A275_2 ((rd_T126 l0 x15_1).f2).length c275_2, .slice A275_3 ((rd_T126 l0 x15_1).f3).length c275_3] 126 (0, 0)) (by (with_reducible repeat (first | refine blk_drewN ?_ _ | refine blk_drew ?_ | refine blk_alloc ?_ _)); exact BK276.out) hb); have n1_ := Aside0.mk (below_step (by repeat (first | (with_reducible first | exact HB.out | apply below_alloc | apply pw_below_drewN | apply below_drew1 | refine below_set ?_ GE276.out) | exact HB.out)) hb); clear BK276; clear HB; have BK276 := n0_; have HB := n1_; clear n0_ n1_; (try clear hb); (try clear hb2); (try clear hk); (try clear hi))))
         go_meet
         case rel => exact ⟨_, ((t278 != x15_1)), (by first | rfl | (simp; done) | (simp [*]; done)), H', ⟨by have := HK1.out; first | omega | exact Nat.le_refl _⟩, ⟨by (with_reducible repeat (first | refine blk_drewN ?_ _ | refine blk_drew ?_ | refine blk_alloc ?_ _)); exact BK276.out⟩, ⟨by repeat (first | (with_reducible first | exact HB.out | apply below_alloc | apply pw_below_drewN | apply below_drew1 | refine below_set ?_ GE276.out) | exact HB.out)⟩⟩
        ·replace c10 := Bool.eq_false_iff.mpr c10
         subst c10
         have H1 : (impl_IsHistory.j1 k1 l0 x15_1 l0 (l0.length : Int) true ((rd_T126 l0 x15_1).f0) ((rd_T126 l0 x15_1).f1) ((rd_T126 l0 x15_1).f2) ((rd_T126 l0 x15_1).f3)) = some r := by rw [if_neg (show ¬ (false = true) by decide)] at H; exact H
         clear H
         have H := H1
         clear H1
         have H' := Aside0.mk H
         clear H
         have hcz16_0 : w7.cell? ⟨gb276, 0, none⟩ = some (.int .i64 0) := (blk_cell BK276.out 0).trans rfl
         have hcz16_1 : w7.cell? ⟨gb276, 1, none⟩ = some (.int .i64 0) := (blk_cell BK276.out 1).trans rfl
         have hcz16_2 : w7.cell? ⟨gb276, 2, none⟩ = some (.slice none 0 0) := (blk_cell BK276.out 2).trans rfl
         have hcz16_3 : w7.cell? ⟨gb276, 3, none⟩ = some (.slice none 0 0) := (blk_cell BK276.out 3).trans rfl
         have hfz16_0 := blk_frozen BK276.out 0
         have hfz16_1 := blk_frozen BK276.out 1
         have hfz16_2 := blk_frozen BK276.out 2
         have hfz16_3 := blk_frozen BK276.out 3
         go_wp2_with (first | (go_at_call 154; (with_reducible refine (impl_isEntry.calls k1 ((rd_T126 l0 x15_1).f0) ((rd_T126 l0 x15_1).f1) _ _ ((rd_T126 l0 x15_1).f2) _ _ ((rd_T126 l0 x15_1).f3) false _ ?side1 ?side2 ?side3 ?side4 A9.out).mono ?_); (case side1 => exact Kd.C_below HR275_2.out (by repeat (first | (with_reducible first | exact HB.out | apply below_alloc | apply pw_below_drewN | apply below_drew1 | refine below_set ?_ GE276.out) | exact HB.out))); (case side2 => exact HC275_2.out); (case side3 => exact Kd.C_below HR275_3.out (by repeat (first | (with_reducible first | exact HB.out | apply below_alloc | apply pw_below_drewN | apply below_drew1 | refine below_set ?_ GE276.out) | exact HB.out))); (case side4 => exact HC275_3.out); rintro e w17 ⟨rfl, hb⟩; have n0_ := Aside0.mk (blk_below (g := gb276) (o := .cells #[.int .i64 ((rd_T126 l0 x15_1).f0), .int .i64 ((rd_T126 l0 x15_1).f1), .slice A275_2 ((rd_T126 l0 x15_1).f2).length c275_2, .slice A275_3 ((rd_T126 l0 x15_1).f3).length c275_3] 126 (0, 0)) (by (with_reducible repeat (first | refine blk_drewN ?_ _ | refine blk_drew ?_ | refine blk_alloc ?_ _)); refine blk_put (cs := #[.int .i64 ((rd_T126 l0 x15_1).f0), .int .i64 ((rd_T126 l0 x15_1).f1), .slice A275_2 ((rd_T126 l0 x15_1).f2).length c275_2, .slice none 0 0]) ?_ 3 _ rfl; (with_reducible repeat (first | refine blk_drewN ?_ _ | refine blk_drew ?_ | refine blk_alloc ?_ _)); refine blk_put (cs := #[.int .i64 ((rd_T126 l0 x15_1).f0), .int .i64 ((rd_T126 l0 x15_1).f1), .slice none 0 0, .slice none 0 0]) ?_ 2 _ rfl; (with_reducible repeat (first | refine blk_drewN ?_ _ | refine blk_drew ?_ | refine blk_alloc ?_ _)); refine blk_put (cs := #[.int .i64 ((rd_T126 l0 x15_1).f0), .int .i64 0, .slice none 0 0, .slice none 0 0]) ?_ 1 _ rfl; (with_reducible repeat (first | refine blk_drewN ?_ _ | refine blk_drew ?_ | refine blk_alloc ?_ _)); refine blk_put (cs := #[.int .i64 0, .int .i64 0, .slice none 0 0, .slice none 0 0]) ?_ 0 _ rfl; (with_reducible repeat (first | refine blk_drewN ?_ _ | refine blk_drew ?_ | refine blk_alloc ?_ _)); exact BK276.out) hb); have n1_ := Aside0.mk (below_step (by repeat (first | (with_reducible first | exact HB.out | apply below_alloc | apply pw_below_drewN | apply below_drew1 | refine below_set ?_ GE276.out) | exact HB.out)) hb); clear BK276; clear HB; have BK276 := n0_; have HB := n1_; clear n0_ n1_; (try clear hb); (try clear hb2); (try clear hk); (try clear hi)))
         repeat (go_quiet (first | (go_at_call 154; (with_reducible refine (impl_isEntry.calls k1 ((rd_T126 l0 x15_1).f0) ((rd_T126 l0 x15_1).f1) _ _ ((rd_T126 l0 x15_1).f2) _ _ ((rd_T126 l0 x15_1).f3) false _ ?side1 ?side2 ?side3 ?side4 A9.out).mono ?_); (case side1 => exact Kd.C_below HR275_2.out (by repeat (first | (with_reducible first | exact HB.out | apply below_alloc | apply pw_below_drewN | apply below_drew1 | refine below_set ?_ GE276.out) | exact HB.out))); (case side2 => exact HC275_2.out); (case side3 => exact Kd.C_below HR275_3.out (by repeat (first | (with_reducible first | exact HB.out | apply below_alloc | apply pw_below_drewN | apply below_drew1 | refine below_set ?_ GE276.out) | exact HB.out))); (case side4 => exact HC275_3.out); rintro e w17 ⟨rfl, hb⟩; have n0_ := Aside0.mk (blk_below (g := gb276) (o := .cells #[.int .i64 ((rd_T126 l0 x15_1).f0), .int .i64 ((rd_T126 l0 x15_1).f1), .slice A275_2 ((rd_T126 l0 x15_1).f2).length c275_2, .slice A275_3 ((rd_T126 l0 x15_1).f3).length c275_3] 126 (0, 0)) (by (with_reducible repeat (first | refine blk_drewN ?_ _ | refine blk_drew ?_ | refine blk_alloc ?_ _)); refine blk_put (cs := #[.int .i64 ((rd_T126 l0 x15_1).f0), .int .i64 ((rd_T126 l0 x15_1).f1), .slice A275_2 ((rd_T126 l0 x15_1).f2).length c275_2, .slice none 0 0]) ?_ 3 _ rfl; (with_reducible repeat (first | refine blk_drewN ?_ _ | refine blk_drew ?_ | refine blk_alloc ?_ _)); refine blk_put (cs := #[.int .i64 ((rd_T126 l0 x15_1).f0), .int .i64 ((rd_T126 l0 x15_1).f1), .slice none 0 0, .slice none 0 0]) ?_ 2 _ rfl; (with_reducible repeat (first | refine blk_drewN ?_ _ | refine blk_drew ?_ | refine blk_alloc ?_ _)); refine blk_put (cs := #[.int .i64 ((rd_T126 l0 x15_1).f0), .int .i64 0, .slice none 0 0, .slice none 0 0]) ?_ 1 _ rfl; (with_reducible repeat (first | refine blk_drewN ?_ _ | refine blk_drew ?_ | refine blk_alloc ?_ _)); refine blk_put (cs := #[.int .i64 0, .int .i64 0, .slice none 0 0, .slice none 0 0]) ?_ 0 _ rfl; (with_reducible repeat (first | refine blk_drewN ?_ _ | refine blk_drew ?_ | refine blk_alloc ?_ _)); exact BK276.out) hb); have n1_ := Aside0.mk (below_step (by repeat (first | (with_reducible first | exact HB.out | apply below_alloc | apply pw_below_drewN | apply below_drew1 | refine below_set ?_ GE276.out) | exact HB.out)) hb); clear BK276; clear HB; have BK276 := n0_; have HB := n1_; clear n0_ n1_; (try clear hb); (try clear hb2); (try clear hk); (try clear hi))); try go_wp2_with (first | (go_at_call 154; (with_reducible refine (impl_isEntry.calls k1 ((rd_T126 l0 x15_1).f0) ((rd_T126 l0 x15_1).f1) _ _ ((rd_T126 l0 x15_1).f2) _ _ ((rd_T126 l0 x15_1).f3) false _ ?side1 ?side2 ?side3 ?side4 A9.out).mono ?_); (case side1 => exact Kd.C_below HR275_2.out (by repeat (first | (with_reducible first | exact HB.out | apply below_alloc | apply pw_below_drewN | apply below_drew1 | refine below_set ?_ GE276.out) | exact HB.out))); (case side2 => exact HC275_2.out); (case side3 => exact Kd.C_below HR275_3.out (by repeat (first | (with_reducible first | exact HB.out | apply below_alloc | apply pw_below_drewN | apply below_drew1 | refine below_set ?_ GE276.out) | exact HB.out))); (case side4 => exact HC275_3.out); rintro e w17 ⟨rfl, hb⟩; have n0_ := Aside0.mk (blk_below (g := gb276) (o := .cells #[.int .i64 ((rd_T126 l0 x15_1).f0), .int .i64 ((rd_T126 l0 x15_1).f1), .slice A275_2 ((rd_T126 l0 x15_1).f2).length c275_2, .slice A275_3 ((rd_T126 l0 x15_1).f3).length c275_3] 126 (0, 0)) (by (with_reducible repeat (first | refine blk_drewN ?_ _ | refine blk_drew ?_ | refine blk_alloc ?_ _)); refine blk_put (cs := #[.int .i64 ((rd_T126 l0 x15_1).f0), .int .i64 ((rd_T126 l0 x15_1).f1), .slice A275_2 ((rd_T126 l0 x15_1).f2).length c275_2, .slice none 0 0]) ?_ 3 _ rfl; (with_reducible repeat (first | refine blk_drewN ?_ _ | refine blk_drew ?_ | refine blk_alloc ?_ _)); refine blk_put (cs := #[.int .i64 ((rd_T126 l0 x15_1).f0), .int .i64 ((rd_T126 l0 x15_1).f1), .slice none 0 0, .slice none 0 0]) ?_ 2 _ rfl; (with_reducible repeat (first | refine blk_drewN ?_ _ | refine blk_drew ?_ | refine blk_alloc ?_ _)); refine blk_put (cs := #[.int .i64 ((rd_T126 l0 x15_1).f0), .int .i64 0, .slice none 0 0, .slice none 0 0]) ?_ 1 _ rfl; (with_reducible repeat (first | refine blk_drewN ?_ _ | refine blk_drew ?_ | refine blk_alloc ?_ _)); refine blk_put (cs := #[.int .i64 0, .int .i64 0, .slice none 0 0, .slice none 0 0]) ?_ 0 _ rfl; (with_reducible repeat (first | refine blk_drewN ?_ _ | refine blk_drew ?_ | refine blk_alloc ?_ _)); exact BK276.out) hb); have n1_ := Aside0.mk (below_step (by repeat (first | (with_reducible first | exact HB.out | apply below_alloc | apply pw_below_drewN | apply below_drew1 | refine below_set ?_ GE276.out) | exact HB.out)) hb); clear BK276; clear HB; have BK276 := n0_; have HB := n1_; clear n0_ n1_; (try clear hb); (try clear hb2); (try clear hk); (try clear hi))))
         go_meet
         case rel => exact ⟨_, (true), (by first | rfl | (simp; done) | (simp [*]; done)), H', ⟨by have := HK1.out; first | omega | exact Nat.le_refl _⟩, ⟨by (with_reducible repeat (first | refine blk_drewN ?_ _ | refine blk_drew ?_ | refine blk_alloc ?_ _)); exact BK276.out⟩, ⟨by repeat (first | (with_reducible first | exact HB.out | apply below_alloc | apply pw_below_drewN | apply below_drew1 | refine below_set ?_ GE276.out) | exact HB.out)⟩⟩
       case rest =>
        clear HC6
        try clear c1
        try clear c2
        try clear c2b0
        try clear c2b1
        try clear p2
        try clear q2
        try clear hx2
        try clear c3
        try clear c3b0
        try clear c4
        try clear c4b0
        try clear c5
        try clear c5b0
        try clear c7
        try clear c10
        try clear hcz12_0
        try clear hcz12_1
        try clear hcz12_2
        try clear hcz12_3
        try clear hcz14_0
        try clear hcz14_1
        try clear hcz14_2
        try clear hcz14_3
        try clear hcz16_0
        try clear hcz16_1
        try clear hcz16_2
        try clear hcz16_3
        try clear hcz8_0
        try clear hcz8_1
        try clear hcz8_2
        try clear hcz8_3
        try clear hfz12_0
        try clear hfz12_1
        try clear hfz12_2
        try clear hfz12_3
        try clear hfz14_0
        try clear hfz14_1
        try clear hfz14_2
        try clear hfz14_3
        try clear hfz16_0
        try clear hfz16_1
        try clear hfz16_2
        try clear hfz16_3
        try clear hfz8_0
        try clear hfz8_1
        try clear hfz8_2
        try clear hfz8_3
        try clear hx275_0
        try clear hx275_1
        try clear hx275_2
        try clear hx275_3
        try clear p2
        try clear p275
        try clear q275
        obtain ⟨kq, x30_5, rfl, HA, HJ5, BK276, HB⟩ := hcut
        cases kq with
        | zero => exact absurd HA.out (by simp [impl_IsHistory.j1])
        | succ kj5 =>
         have H := HA.out
         clear HA
         simp only [impl_IsHistory.j1] at H
         by_cases c18 : x30_5 = true
         ·subst c18
          have H1 : (some false) = some r := by rw [if_pos rfl] at H; exact H
          clear H
          have H := H1
          clear H1
          obtain rfl := Option.some.inj H
          go_wp2
          repeat (go_quiet (fail); try go_wp2)
          go_ret
          exact ⟨by first | rfl | (simp [errW_none, errW_some] <;> rfl) | (simp [*, errW_none, errW_some] <;> rfl), by repeat (first | (with_reducible first | exact HB.out | apply below_alloc | apply pw_below_drewN | apply below_drew1 | refine below_set ?_ GE276.out) | exact HB.out)⟩
         ·replace c18 := Bool.eq_false_iff.mpr c18
          subst c18
          have H1 : (if x15_1 > 0 then (if 0 ≤ (wrap64 (x15_1 - 1)) then (if (wrap64 (x15_1 - 1)) < (l0.length : Int) then (if ((rd_T126 l0 x15_1).f1) < ((rd_T126 l0 (wrap64 (x15_1 - 1))).f1) then (impl_IsHistory.j2 kj5 l0 x15_1 l0 (l0.length : Int) true) else (if ((rd_T126 l0 x15_1).f1) = ((rd_T126 l0 (wrap64 (x15_1 - 1))).f1) then (impl_IsHistory.j2 kj5 l0 x15_1 l0 (l0.length : Int) (decide ((((rd_T126 l0 x15_1).f3).length : Int) > 0))) else (impl_IsHistory.j2 kj5 l0 x15_1 l0 (l0.length : Int) false))) else (none)) else (none)) else (impl_IsHistory.j2 kj5 l0 x15_1 l0 (l0.length : Int) false)) = some r := by rw [if_neg (show ¬ (false = true) by decide)] at H; exact H
          clear H
          have H := H1
          clear H1
          have HC19 := Aside0.mk H
          clear H
          go_upto_region 8 with (fail)
          repeat (go_quiet (fail); go_upto_region 8 with (fail))
          go_cut [60] (fun v60 wc => ∃ (kq : Nat) (x60_18 : Bool), v60 = .bool x60_18 ∧ Aside0 (impl_IsHistory.j2 kq l0 x15_1 l0 (l0.length : Int) x60_18 = some r) ∧ Aside0 (kq ≤ kj5) ∧ Aside0 (wc.heap[gb276]? = some (.cells #[.int .i64 ((rd_T126 l0 x15_1).f0), .int .i64 ((rd_T126 l0 x15_1).f1), (.slice A275_2 ((rd_T126 l0 x15_1).f2).length c275_2), (.slice A275_3 ((rd_T126 l0 x15_1).f3).length c275_3)] 126 (0, 0))) ∧ Aside0 (Below w.heap.size w wc))
          case first =>
           have H := HC19.out
           clear HC19
           by_cases c20 : x15_1 > 0
           ·rw [if_pos c20] at H
            have c20b0 : decide (0 < x15_1) = true := decide_eq_true c20
            clear c20
            (first | rw [c20b0] | (simp only [i64_w, i32_w]; rw [c20b0]) | skip)
            obtain ⟨ji21, hji21⟩ : ∃ j_ : Int, (wrap64 (x15_1 - 1)) = j_ := ⟨_, rfl⟩
            replace H : (if 0 ≤ (ji21) then (if (ji21) < (l0.length : Int) then (if ((rd_T126 l0 x15_1).f1) < ((rd_T126 l0 (ji21)).f1) then (impl_IsHistory.j2 kj5 l0 x15_1 l0 (l0.length : Int) true) else (if ((rd_T126 l0 x15_1).f1) = ((rd_T126 l0 (ji21)).f1) then (impl_IsHistory.j2 kj5 l0 x15_1 l0 (l0.length : Int) (decide ((((rd_T126 l0 x15_1).f3).length : Int) > 0))) else (impl_IsHistory.j2 kj5 l0 x15_1 l0 (l0.length : Int) false))) else (none)) else (none)) = some r := by first | (rw [hji21] at H; exact H) | (simp only [hji21] at H ⊢; exact H)
            have hji21w : (IntKind.i64.wrap (x15_1 - 1)) = ji21 := (i64_w _).trans hji21
            by_cases c22 : 0 ≤ (ji21)
            ·rw [if_pos c22] at H
             have c22b0 : decide (0 ≤ (ji21)) = true := decide_eq_true c22
             clear c22
             by_cases c23 : (ji21) < (l0.length : Int)
             ·rw [if_pos c23] at H
              have c23b0 : decide ((ji21) < (l0.length : Int)) = true := decide_eq_true c23
              clear c23
              by_cases c24 : ((rd_T126 l0 x15_1).f1) < ((rd_T126 l0 (ji21)).f1)
              ·rw [if_pos c24] at H
               have c24b0 : decide (((rd_T126 l0 x15_1).f1) < ((rd_T126 l0 (ji21)).f1)) = true := decide_eq_true c24
               clear c24
               have H' := Aside0.mk H
               clear H
               have hcz25_0 : wc.cell? ⟨gb276, 0, none⟩ = some (.int .i64 ((rd_T126 l0 x15_1).f0)) := (blk_cell BK276.out 0).trans rfl
               have hcz25_1 : wc.cell? ⟨gb276, 1, none⟩ = some (.int .i64 ((rd_T126 l0 x15_1).f1)) := (blk_cell BK276.out 1).trans rfl
               have hcz25_2 : wc.cell? ⟨gb276, 2, none⟩ = some (.slice A275_2 ((rd_T126 l0 x15_1).f2).length c275_2) := (blk_cell BK276.out 2).trans rfl
               have hcz25_3 : wc.cell? ⟨gb276, 3, none⟩ = some (.slice A275_3 ((rd_T126 l0 x15_1).f3).length c275_3) := (blk_cell BK276.out 3).trans rfl
               have hfz25_0 := blk_frozen BK276.out 0
               have hfz25_1 := blk_frozen BK276.out 1
               have hfz25_2 := blk_frozen BK276.out 2
               have hfz25_3 := blk_frozen BK276.out 3
               have p279 : 0 ≤ ((ji21) : Int) := of_decide_eq_true (by first | (with_reducible assumption) | assumption)
               have q279 : (ji21) < (l0.length : Int) := of_decide_eq_true (by first | (with_reducible assumption) | assumption)
               obtain ⟨ad279, A279_2, c279_2, A279_3, c279_3, e279, hx279_0, hx279_1, hx279_2, hx279_3, hl279_2, hi279_2, hl279_3, hi279_3⟩ := at_T126 HR0.out (ji21) p279 q279
               obtain rfl : ad275 = ad279 := (by injection e279)
               replace hx279_0 := (HB.out.cell (World.block_lt_of_cell? w _ hx279_0)).trans hx279_0
               replace hx279_1 := (HB.out.cell (World.block_lt_of_cell? w _ hx279_1)).trans hx279_1
               replace hx279_2 := (HB.out.cell (World.block_lt_of_cell? w _ hx279_2)).trans hx279_2
               replace hx279_3 := (HB.out.cell (World.block_lt_of_cell? w _ hx279_3)).trans hx279_3
               have HR279_2 := Aside0.mk hi279_2
               have HC279_2 := Aside0.mk hl279_2
               clear hi279_2 hl279_2
               have HR279_3 := Aside0.mk hi279_3
               have HC279_3 := Aside0.mk hl279_3
               clear hi279_3 hl279_3
               replace p279 := eq_true p279
               replace q279 := eq_true q279
               go_wp2
               repeat (go_quiet (fail); try go_wp2)
               go_meet
               case rel => exact ⟨_, (true), (by first | rfl | (simp; done) | (simp [*]; done)), H', ⟨by have := HK1.out; have := HJ5.out; first | omega | exact Nat.le_refl _⟩, ⟨by (with_reducible repeat (first | refine blk_drewN ?_ _ | refine blk_drew ?_ | refine blk_alloc ?_ _)); exact BK276.out⟩, ⟨by repeat (first | (with_reducible first | exact HB.out | apply below_alloc | apply pw_below_drewN | apply below_drew1 | refine below_set ?_ GE276.out) | exact HB.out)⟩⟩
              ·rw [if_neg c24] at H
               have c24b0 : decide (((rd_T126 l0 x15_1).f1) < ((rd_T126 l0 (ji21)).f1)) = false := decide_eq_false c24
               clear c24
               by_cases c26 : ((rd_T126 l0 x15_1).f1) = ((rd_T126 l0 (ji21)).f1)
               ·rw [if_pos c26] at H
                have c26b0 : (((rd_T126 l0 x15_1).f1) == ((rd_T126 l0 (ji21)).f1)) = true := beq_iff_eq.mpr c26
                have c26b1 : (((rd_T126 l0 x15_1).f1) != ((rd_T126 l0 (ji21)).f1)) = false := bne_eq_false_iff_eq.mpr c26
                clear c26
                have H' := Aside0.mk H
                clear H
                have hcz27_0 : wc.cell? ⟨gb276, 0, none⟩ = some (.int .i64 ((rd_T126 l0 x15_1).f0)) := (blk_cell BK276.out 0).trans rfl
                have hcz27_1 : wc.cell? ⟨gb276, 1, none⟩ = some (.int .i64 ((rd_T126 l0 x15_1).f1)) := (blk_cell BK276.out 1).trans rfl
                have hcz27_2 : wc.cell? ⟨gb276, 2, none⟩ = some (.slice A275_2 ((rd_T126 l0 x15_1).f2).length c275_2) := (blk_cell BK276.out 2).trans rfl
                have hcz27_3 : wc.cell? ⟨gb276, 3, none⟩ = some (.slice A275_3 ((rd_T126 l0 x15_1).f3).length c275_3) := (blk_cell BK276.out 3).trans rfl
                have hfz27_0 := blk_frozen BK276.out 0
                have hfz27_1 := blk_frozen BK276.out 1
                have hfz27_2 := blk_frozen BK276.out 2
                have hfz27_3 := blk_frozen BK276.out 3
                have p279 : 0 ≤ ((ji21) : Int) := of_decide_eq_true (by first | (with_reducible assumption) | assumption)
                have q279 : (ji21) < (l0.length : Int) := of_decide_eq_true (by first | (with_reducible assumption) | assumption)
                obtain ⟨ad279, A279_2, c279_2, A279_3, c279_3, e279, hx279_0, hx279_1, hx279_2, hx279_3, hl279_2, hi279_2, hl279_3, hi279_3⟩ := at_T126 HR0.out (ji21) p279 q279
                obtain rfl : ad275 = ad279 := (by injection e279)
                replace hx279_0 := (HB.out.cell (World.block_lt_of_cell? w _ hx279_0)).trans hx279_0
                replace hx279_1 := (HB.out.cell (World.block_lt_of_cell? w _ hx279_1)).trans hx279_1
                replace hx279_2 := (HB.out.cell (World.block_lt_of_cell? w _ hx279_2)).trans hx279_2
                replace hx279_3 := (HB.out.cell (World.block_lt_of_cell? w _ hx279_3)).trans hx279_3
                have HR279_2 := Aside0.mk hi279_2
                have HC279_2 := Aside0.mk hl279_2
                clear hi279_2 hl279_2
                have HR279_3 := Aside0.mk hi279_3
                have HC279_3 := Aside0.mk hl279_3
                clear hi279_3 hl279_3
                replace p279 := eq_true p279
                replace q279 := eq_true q279
                have p280 : 0 ≤ ((ji21) : Int) := of_decide_eq_true (by first | (with_reducible assumption) | assumption)
                have q280 : (ji21) < (l0.length : Int) := of_decide_eq_true (by first | (with_reducible assumption) | assumption)
                obtain ⟨ad280, A280_2, c280_2, A280_3, c280_3, e280, hx280_0, hx280_1, hx280_2, hx280_3, hl280_2, hi280_2, hl280_3, hi280_3⟩ := at_T126 HR0.out (ji21) p280 q280
                obtain rfl : ad275 = ad280 := (by injection e280)
                replace hx280_0 := (HB.out.cell (World.block_lt_of_cell? w _ hx280_0)).trans hx280_0
                replace hx280_1 := (HB.out.cell (World.block_lt_of_cell? w _ hx280_1)).trans hx280_1
                replace hx280_2 := (HB.out.cell (World.block_lt_of_cell? w _ hx280_2)).trans hx280_2
                replace hx280_3 := (HB.out.cell (World.block_lt_of_cell? w _ hx280_3)).trans hx280_3
                have HR280_2 := Aside0.mk hi280_2
                have HC280_2 := Aside0.mk hl280_2
                clear hi280_2 hl280_2
                have HR280_3 := Aside0.mk hi280_3
                have HC280_3 := Aside0.mk hl280_3
                clear hi280_3 hl280_3
                replace p280 := eq_true p280
                replace q280 := eq_true q280
                have ea_ := Option.some.inj (hx279_2.symm.trans hx280_2)
                injection ea_ with ea_ en_ ec_
                subst ea_
                subst ec_
                clear en_
                have ea_ := Option.some.inj (hx279_3.symm.trans hx280_3)
                injection ea_ with ea_ en_ ec_
                subst ea_
                subst ec_
                clear en_
                go_wp2
                repeat (go_quiet (fail); try go_wp2)
                go_meet
                case rel => exact ⟨_, (decide ((((rd_T126 l0 x15_1).f3).length : Int) > 0)), (by first | rfl | (simp; done) | (simp [*]; done)), H', ⟨by have := HK1.out; have := HJ5.out; first | omega | exact Nat.le_refl _⟩, ⟨by (with_reducible repeat (first | refine blk_drewN ?_ _ | refine blk_drew ?_ | refine blk_alloc ?_ _)); exact BK276.out⟩, ⟨by repeat (first | (with_reducible first | exact HB.out | apply below_alloc | apply pw_below_drewN | apply below_drew1 | refine below_set ?_ GE276.out) | exact HB.out)⟩⟩
               ·rw [if_neg c26] at H
                have c26b0 : (((rd_T126 l0 x15_1).f1) == ((rd_T126 l0 (ji21)).f1)) = false := beq_eq_false_iff_ne.mpr c26
                have c26b1 : (((rd_T126 l0 x15_1).f1) != ((rd_T126 l0 (ji21)).f1)) = true := bne_iff_ne.mpr c26
                have H' := Aside0.mk H
                clear H
                have hcz28_0 : wc.cell? ⟨gb276, 0, none⟩ = some (.int .i64 ((rd_T126 l0 x15_1).f0)) := (blk_cell BK276.out 0).trans rfl
                have hcz28_1 : wc.cell? ⟨gb276, 1, none⟩ = some (.int .i64 ((rd_T126 l0 x15_1).f1)) := (blk_cell BK276.out 1).trans rfl
                have hcz28_2 : wc.cell? ⟨gb276, 2, none⟩ = some (.slice A275_2 ((rd_T126 l0 x15_1).f2).length c275_2) := (blk_cell BK276.out 2).trans rfl
                have hcz28_3 : wc.cell? ⟨gb276, 3, none⟩ = some (.slice A275_3 ((rd_T126 l0 x15_1).f3).length c275_3) := (blk_cell BK276.out 3).trans rfl
                have hfz28_0 := blk_frozen BK276.out 0
                have hfz28_1 := blk_frozen BK276.out 1
                have hfz28_2 := blk_frozen BK276.out 2
                have hfz28_3 := blk_frozen BK276.out 3
                have p279 : 0 ≤ ((ji21) : Int) := of_decide_eq_true (by first | (with_reducible assumption) | assumption)
                have q279 : (ji21) < (l0.length : Int) := of_decide_eq_true (by first | (with_reducible assumption) | assumption)
                obtain ⟨ad279, A279_2, c279_2, A279_3, c279_3, e279, hx279_0, hx279_1, hx279_2, hx279_3, hl279_2, hi279_2, hl279_3, hi279_3⟩ := at_T126 HR0.out (ji21) p279 q279
                obtain rfl : ad275 = ad279 := (by injection e279)
                replace hx279_0 := (HB.out.cell (World.block_lt_of_cell? w _ hx279_0)).trans hx279_0
                replace hx279_1 := (HB.out.cell (World.block_lt_of_cell? w _ hx279_1)).trans hx279_1
                replace hx279_2 := (HB.out.cell (World.block_lt_of_cell? w _ hx279_2)).trans hx279_2
                replace hx279_3 := (HB.out.cell (World.block_lt_of_cell? w _ hx279_3)).trans hx279_3
                have HR279_2 := Aside0.mk hi279_2
                have HC279_2 := Aside0.mk hl279_2
                clear hi279_2 hl279_2
                have HR279_3 := Aside0.mk hi279_3
                have HC279_3 := Aside0.mk hl279_3
                clear hi279_3 hl279_3
                replace p279 := eq_true p279
                replace q279 := eq_true q279
                have p280 : 0 ≤ ((ji21) : Int) := of_decide_eq_true (by first | (with_reducible assumption) | assumption)
                have q280 : (ji21) < (l0.length : Int) := of_decide_eq_true (by first | (with_reducible assumption) | assumption)
                obtain ⟨ad280, A280_2, c280_2, A280_3, c280_3, e280, hx280_0, hx280_1, hx280_2, hx280_3, hl280_2, hi280_2, hl280_3, hi280_3⟩ := at_T126 HR0.out (ji21) p280 q280
                obtain rfl : ad275 = ad280 := (by injection e280)
                replace hx280_0 := (HB.out.cell (World.block_lt_of_cell? w _ hx280_0)).trans hx280_0
                replace hx280_1 := (HB.out.cell (World.block_lt_of_cell? w _ hx280_1)).trans hx280_1
                replace hx280_2 := (HB.out.cell (World.block_lt_of_cell? w _ hx280_2)).trans hx280_2
                replace hx280_3 := (HB.out.cell (World.block_lt_of_cell? w _ hx280_3)).trans hx280_3
                have HR280_2 := Aside0.mk hi280_2
                have HC280_2 := Aside0.mk hl280_2
                clear hi280_2 hl280_2
                have HR280_3 := Aside0.mk hi280_3
                have HC280_3 := Aside0.mk hl280_3
                clear hi280_3 hl280_3
                replace p280 := eq_true p280
                replace q280 := eq_true q280
                have ea_ := Option.some.inj (hx279_2.symm.trans hx280_2)
                injection ea_ with ea_ en_ ec_
                subst ea_
                subst ec_
                clear en_
                have ea_ := Option.some.inj (hx279_3.symm.trans hx280_3)
                injection ea_ with ea_ en_ ec_
                subst ea_
                subst ec_
                clear en_
                go_wp2
                repeat (go_quiet (fail); try go_wp2)
                go_meet
                case rel => exact ⟨_, (false), (by first | rfl | (simp; done) | (simp [*]; done)), H', ⟨by have := HK1.out; have := HJ5.out; first | omega | exact Nat.le_refl _⟩, ⟨by (with_reducible repeat (first | refine blk_drewN ?_ _ | refine blk_drew ?_ | refine blk_alloc ?_ _)); exact BK276.out⟩, ⟨by repeat (first | (with_reducible first | exact HB.out | apply below_alloc | apply pw_below_drewN | apply below_drew1 | refine below_set ?_ GE276.out) | exact HB.out)⟩⟩
             ·rw [if_neg c23] at H
              exact absurd H (by simp)
            ·rw [if_neg c22] at H
             exact absurd H (by simp)
           ·rw [if_neg c20] at H
            have c20b0 : decide (0 < x15_1) = false := decide_eq_false c20
            clear c20
            (first | rw [c20b0] | (simp only [i64_w, i32_w]; rw [c20b0]) | skip)
            have H' := Aside0.mk H
            clear H
            go_wp2
            repeat (go_quiet (fail); try go_wp2)
            go_meet
            case rel => exact ⟨_, (false), (by first | rfl | (simp; done) | (simp [*]; done)), H', ⟨by have := HK1.out; have := HJ5.out; first | omega | exact Nat.le_refl _⟩, ⟨by (with_reducible repeat (first | refine blk_drewN ?_ _ | refine blk_drew ?_ | refine blk_alloc ?_ _)); exact BK276.out⟩, ⟨by repeat (first | (with_reducible first | exact HB.out | apply below_alloc | apply pw_below_drewN | apply below_drew1 | refine below_set ?_ GE276.out) | exact HB.out)⟩⟩
          case rest =>
           clear HC19
           try clear c1
           try clear c2
           try clear c2b0
           try clear c2b1
           try clear p2
           try clear q2
           try clear hx2
           try clear c3
           try clear c3b0
           try clear c4
           try clear c4b0
           try clear c5
           try clear c5b0
           try clear p6
           try clear c7
           try clear c10
           try clear c18
           try clear c20
           try clear c20b0
           try clear c22
           try clear c22b0
           try clear c23
           try clear c23b0
           try clear c24
           try clear c24b0
           try clear c26
           try clear c26b0
           try clear c26b1
           try clear c27
           try clear p27
           try clear q27
           try clear hx27
           try clear c28
           try clear p28
           try clear q28
           try clear hx28
           try clear hcz12_0
           try clear hcz12_1
           try clear hcz12_2
           try clear hcz12_3
           try clear hcz14_0
           try clear hcz14_1
           try clear hcz14_2
           try clear hcz14_3
           try clear hcz16_0
           try clear hcz16_1
           try clear hcz16_2
           try clear hcz16_3
           try clear hcz25_0
           try clear hcz25_1
           try clear hcz25_2
           try clear hcz25_3
           try clear hcz27_0
           try clear hcz27_1
           try clear hcz27_2
           try clear hcz27_3
           try clear hcz28_0
           try clear hcz28_1
           try clear hcz28_2
           try clear hcz28_3
           try clear hcz8_0
           try clear hcz8_1
           try clear hcz8_2
           try clear hcz8_3
           try clear hfz12_0
           try clear hfz12_1
           try clear hfz12_2
           try clear hfz12_3
           try clear hfz14_0
           try clear hfz14_1
           try clear hfz14_2
           try clear hfz14_3
           try clear hfz16_0
           try clear hfz16_1
           try clear hfz16_2
           try clear hfz16_3
           try clear hfz25_0
           try clear hfz25_1
           try clear hfz25_2
           try clear hfz25_3
           try clear hfz27_0
           try clear hfz27_1
           try clear hfz27_2
           try clear hfz27_3
           try clear hfz28_0
           try clear hfz28_1
           try clear hfz28_2
           try clear hfz28_3
           try clear hfz8_0
           try clear hfz8_1
           try clear hfz8_2
           try clear hfz8_3
           try clear hx275_0
           try clear hx275_1
           try clear hx275_2
           try clear hx275_3
           try clear hx279_0
           try clear hx279_1
           try clear hx279_2
           try clear hx279_3
           try clear hx280_0
           try clear hx280_1
           try clear hx280_2
           try clear hx280_3
           try clear p2
           try clear p275
           try clear p279
           try clear p280
           try clear q2
           try clear q275
           try clear q279
           try clear q280
           obtain ⟨kq, x60_18, rfl, HA, HJ18, BK276, HB⟩ := hcut
           cases kq with
           | zero => exact absurd HA.out (by simp [impl_IsHistory.j2])
           | succ kj18 =>
            have H := HA.out
            clear HA
            simp only [impl_IsHistory.j2] at H
            by_cases c29 : x60_18 = true
            ·subst c29
             have H1 : (some false) = some r := by rw [if_pos rfl] at H; exact H
             clear H
             have H := H1
             clear H1
             obtain rfl := Option.some.inj H
             go_wp2
             repeat (go_quiet (fail); try go_wp2)
             go_ret
             exact ⟨by first | rfl | (simp [errW_none, errW_some] <;> rfl) | (simp [*, errW_none, errW_some] <;> rfl), by repeat (first | (with_reducible first | exact HB.out | apply below_alloc | apply pw_below_drewN | apply below_drew1 | refine below_set ?_ GE276.out) | exact HB.out)⟩
            ·replace c29 := Bool.eq_false_iff.mpr c29
             subst c29
             have H1 : (impl_IsHistory.l0 kj18 l0 l0 (l0.length : Int) (wrap64 (x15_1 + 1))) = some r := by rw [if_neg (show ¬ (false = true) by decide)] at H; exact H
             clear H
             have H := H1
             clear H1
             have H' := Aside0.mk H
             clear H
             go_wp2
             repeat (go_quiet (fail); try go_wp2)
             go_roundg kj18
             case measure => have := HK1.out; have := HJ5.out; have := HJ18.out; omega
             case rel => exact ⟨(wrap64 (x15_1 + 1)), (by first | rfl | (simp; done) | (simp [*]; done)), H', ⟨by have := HK1.out; have := HJ5.out; have := HJ18.out; omega⟩, ⟨by repeat (first | (with_reducible first | exact HB.out | apply below_alloc | apply pw_below_drewN | apply below_drew1 | refine below_set ?_ GE276.out) | exact HB.out)⟩⟩
      ·rw [if_neg c5] at H
       exact absurd H (by simp)
     ·rw [if_neg c4] at H
      exact absurd H (by simp)
    ·rw [if_neg c3] at H
     have c3b0 : decide (x15_1 < (l0.length : Int)) = false := decide_eq_false c3
     clear c3
     have H' := Aside0.mk H
     clear H
     go_wp2
     repeat (go_quiet (fail); try go_wp2)
     go_loopg [64] k1 (fun kq v64 w' => ∃ (x64_2 : Int), v64 = .int .i64 x64_2 ∧ Aside0 (impl_IsHistory.l1 kq l0 l0 (l0.length : Int) x64_2 = some r) ∧ Aside0 (kq ≤ k1) ∧ Aside0 (Below w.heap.size w w'))
     case atStart => exact ⟨(0), (by first | rfl | (simp; done) | (simp [*]; done)), H', ⟨Nat.le_refl _⟩, ⟨by repeat (first | (with_reducible first | exact HB.out | apply below_alloc | apply pw_below_drewN | apply below_drew1) | exact HB.out)⟩⟩
     case round =>
      clear H'
      try clear c1
      try clear c2
      try clear c2b0
      try clear c2b1
      try clear p2
      try clear q2
      try clear hx2
      try clear c3
      try clear c3b0
      try clear c4
      try clear c4b0
      try clear c5
      try clear c5b0
      try clear p6
      try clear c7
      try clear c10
      try clear c18
      try clear c20
      try clear c20b0
      try clear c22
      try clear c22b0
      try clear c23
      try clear c23b0
      try clear c24
      try clear c24b0
      try clear c26
      try clear c26b0
      try clear c26b1
      try clear c27
      try clear p27
      try clear q27
      try clear hx27
      try clear c28
      try clear p28
      try clear q28
      try clear hx28
      try clear c29
      try clear hcz12_0
      try clear hcz12_1
      try clear hcz12_2
      try clear hcz12_3
      try clear hcz14_0
      try clear hcz14_1
      try clear hcz14_2
      try clear hcz14_3
      try clear hcz16_0
      try clear hcz16_1
      try clear hcz16_2
      try clear hcz16_3
      try clear hcz25_0
      try clear hcz25_1
      try clear hcz25_2
      try clear hcz25_3
      try clear hcz27_0
      try clear hcz27_1
      try clear hcz27_2
      try clear hcz27_3
      try clear hcz28_0
      try clear hcz28_1
      try clear hcz28_2
      try clear hcz28_3
      try clear hcz8_0
      try clear hcz8_1
      try clear hcz8_2
      try clear hcz8_3
      try clear hfz12_0
      try clear hfz12_1
      try clear hfz12_2
      try clear hfz12_3
      try clear hfz14_0
      try clear hfz14_1
      try clear hfz14_2
      try clear hfz14_3
      try clear hfz16_0
      try clear hfz16_1
      try clear hfz16_2
      try clear hfz16_3
      try clear hfz25_0
      try clear hfz25_1
      try clear hfz25_2
      try clear hfz25_3
      try clear hfz27_0
      try clear hfz27_1
      try clear hfz27_2
      try clear hfz27_3
      try clear hfz28_0
      try clear hfz28_1
      try clear hfz28_2
      try clear hfz28_3
      try clear hfz8_0
      try clear hfz8_1
      try clear hfz8_2
      try clear hfz8_3
      try clear hx275_0
      try clear hx275_1
      try clear hx275_2
      try clear hx275_3
      try clear hx279_0
      try clear hx279_1
      try clear hx279_2
      try clear hx279_3
      try clear hx280_0
      try clear hx280_1
      try clear hx280_2
      try clear hx280_3
      try clear p2
      try clear p27
      try clear p275
      try clear p279
      try clear p28
      try clear p280
      try clear p6
      try clear q2
      try clear q27
      try clear q275
      try clear q279
      try clear q28
      try clear q280
      obtain ⟨x64_2, rfl, HA, HK2, HB⟩ := hrel
      cases gk with
      | zero => exact absurd HA.out (by simp [impl_IsHistory.l1])
      | succ k2 =>
       have H := HA.out
       clear HA
       simp only [impl_IsHistory.l1] at H
       by_cases c30 : x64_2 < (l0.length : Int)
       ·rw [if_pos c30] at H
        have c30b0 : decide (x64_2 < (l0.length : Int)) = true := decide_eq_true c30
        clear c30
        by_cases c31 : 0 ≤ x64_2
        ·rw [if_pos c31] at H
         have c31b0 : decide (0 ≤ x64_2) = true := decide_eq_true c31
         clear c31
         by_cases c32 : x64_2 < (l0.length : Int)
         ·rw [if_pos c32] at H
          have c32b0 : decide (x64_2 < (l0.length : Int)) = true := decide_eq_true c32
          clear c32
          have H' := Aside0.mk H
          clear H
          have p281 : 0 ≤ (x64_2 : Int) := of_decide_eq_true (by first | (with_reducible assumption) | assumption)
          have q281 : x64_2 < (l0.length : Int) := of_decide_eq_true (by first | (with_reducible assumption) | assumption)
          obtain ⟨ad281, A281_2, c281_2, A281_3, c281_3, e281, hx281_0, hx281_1, hx281_2, hx281_3, hl281_2, hi281_2, hl281_3, hi281_3⟩ := at_T126 HR0.out x64_2 p281 q281
          cases e281
          replace hx281_0 := (HB.out.cell (World.block_lt_of_cell? w _ hx281_0)).trans hx281_0
          replace hx281_1 := (HB.out.cell (World.block_lt_of_cell? w _ hx281_1)).trans hx281_1
          replace hx281_2 := (HB.out.cell (World.block_lt_of_cell? w _ hx281_2)).trans hx281_2
          replace hx281_3 := (HB.out.cell (World.block_lt_of_cell? w _ hx281_3)).trans hx281_3
          have HR281_2 := Aside0.mk hi281_2
          have HC281_2 := Aside0.mk hl281_2
          clear hi281_2 hl281_2
          have HR281_3 := Aside0.mk hi281_3
          have HC281_3 := Aside0.mk hl281_3
          clear hi281_3 hl281_3
          replace p281 := eq_true p281
          replace q281 := eq_true q281
          go_wp2_with (first | ((with_reducible refine gate_dst (N := 6) rfl ?_); (try (refine gate_guard (by rfl) ?_; dsimp only)); refine box_event ?hg (N := 6) ?hd (cs := #[.int .i64 0, .int .i64 0, .slice none 0 0, .slice none 0 0]) (t := 126) ?hr ?_; (case hd => rfl); (case hg => rfl); (case hr => first | (go_simp; done) | (go_simp; rfl)); intro gb282 hg w33 hbox hb; have n0_ := Aside0.mk (below_step (by repeat (first | (with_reducible first | exact HB.out | apply below_alloc | apply pw_below_drewN | apply below_drew1) | exact HB.out)) hb); have n1_ := Aside0.mk (hbox); have n2_ := Aside0.mk ((by rw [hg]; exact (below_size (by repeat (first | (with_reducible first | exact HB.out | apply below_alloc | apply pw_below_drewN | apply below_drew1) | exact HB.out))) : w.heap.size ≤ gb282)); have n3_ := Aside0.mk ((by rw [hg]; exact (below_size (by repeat (first | (with_reducible first | exact HB.out | apply below_alloc | apply pw_below_drewN | apply below_drew1) | exact HB.out))) : w.heap.size ≤ gb282)); clear HB; have HB := n0_; have BK282 := n1_; have GW282 := n2_; have GE282 := n3_; clear n0_ n1_ n2_ n3_; clear hb hbox hg; have hcz34_0 : w33.cell? ⟨gb282, 0, none⟩ = some (.int .i64 0) := (blk_cell BK282.out 0).trans rfl; have hcz34_1 : w33.cell? ⟨gb282, 1, none⟩ = some (.int .i64 0) := (blk_cell BK282.out 1).trans rfl; have hcz34_2 : w33.cell? ⟨gb282, 2, none⟩ = some (.slice none 0 0) := (blk_cell BK282.out 2).trans rfl; have hcz34_3 : w33.cell? ⟨gb282, 3, none⟩ = some (.slice none 0 0) := (blk_cell BK282.out 3).trans rfl; have hfz34_0 := blk_frozen BK282.out 0; have hfz34_1 := blk_frozen BK282.out 1; have hfz34_2 := blk_frozen BK282.out 2; have hfz34_3 := blk_frozen BK282.out 3))
          repeat (go_quiet (first | ((with_reducible refine gate_dst (N := 6) rfl ?_); (try (refine gate_guard (by rfl) ?_; dsimp only)); refine box_event ?hg (N := 6) ?hd (cs := #[.int .i64 0, .int .i64 0, .slice none 0 0, .slice none 0 0]) (t := 126) ?hr ?_; (case hd => rfl); (case hg => rfl); (case hr => first | (go_simp; done) | (go_simp; rfl)); intro gb282 hg w33 hbox hb; have n0_ := Aside0.mk (below_step (by repeat (first | (with_reducible first | exact HB.out | apply below_alloc | apply pw_below_drewN | apply below_drew1) | exact HB.out)) hb); have n1_ := Aside0.mk (hbox); have n2_ := Aside0.mk ((by rw [hg]; exact (below_size (by repeat (first | (with_reducible first | exact HB.out | apply below_alloc | apply pw_below_drewN | apply below_drew1) | exact HB.out))) : w.heap.size ≤ gb282)); have n3_ := Aside0.mk ((by rw [hg]; exact (below_size (by repeat (first | (with_reducible first | exact HB.out | apply below_alloc | apply pw_below_drewN | apply below_drew1) | exact HB.out))) : w.heap.size ≤ gb282)); clear HB; have HB := n0_; have BK282 := n1_; have GW282 := n2_; have GE282 := n3_; clear n0_ n1_ n2_ n3_; clear hb hbox hg; have hcz34_0 : w33.cell? ⟨gb282, 0, none⟩ = some (.int .i64 0) := (blk_cell BK282.out 0).trans rfl; have hcz34_1 : w33.cell? ⟨gb282, 1, none⟩ = some (.int .i64 0) := (blk_cell BK282.out 1).trans rfl; have hcz34_2 : w33.cell? ⟨gb282, 2, none⟩ = some (.slice none 0 0) := (blk_cell BK282.out 2).trans rfl; have hcz34_3 : w33.cell? ⟨gb282, 3, none⟩ = some (.slice none 0 0) := (blk_cell BK282.out 3).trans rfl; have hfz34_0 := blk_frozen BK282.out 0; have hfz34_1 := blk_frozen BK282.out 1; have hfz34_2 := blk_frozen BK282.out 2; have hfz34_3 := blk_frozen BK282.out 3)); try go_wp2_with (first | ((with_reducible refine gate_dst (N := 6) rfl ?_); (try (refine gate_guard (by rfl) ?_; dsimp only)); refine box_event ?hg (N := 6) ?hd (cs := #[.int .i64 0, .int .i64 0, .slice none 0 0, .slice none 0 0]) (t := 126) ?hr ?_; (case hd => rfl); (case hg => rfl); (case hr => first | (go_simp; done) | (go_simp; rfl)); intro gb282 hg w33 hbox hb; have n0_ := Aside0.mk (below_step (by repeat (first | (with_reducible first | exact HB.out | apply below_alloc | apply pw_below_drewN | apply below_drew1) | exact HB.out)) hb); have n1_ := Aside0.mk (hbox); have n2_ := Aside0.mk ((by rw [hg]; exact (below_size (by repeat (first | (with_reducible first | exact HB.out | apply below_alloc | apply pw_below_drewN | apply below_drew1) | exact HB.out))) : w.heap.size ≤ gb282)); have n3_ := Aside0.mk ((by rw [hg]; exact (below_size (by repeat (first | (with_reducible first | exact HB.out | apply below_alloc | apply pw_below_drewN | apply below_drew1) | exact HB.out))) : w.heap.size ≤ gb282)); clear HB; have HB := n0_; have BK282 := n1_; have GW282 := n2_; have GE282 := n3_; clear n0_ n1_ n2_ n3_; clear hb hbox hg; have hcz34_0 : w33.cell? ⟨gb282, 0, none⟩ = some (.int .i64 0) := (blk_cell BK282.out 0).trans rfl; have hcz34_1 : w33.cell? ⟨gb282, 1, none⟩ = some (.int .i64 0) := (blk_cell BK282.out 1).trans rfl; have hcz34_2 : w33.cell? ⟨gb282, 2, none⟩ = some (.slice none 0 0) := (blk_cell BK282.out 2).trans rfl; have hcz34_3 : w33.cell? ⟨gb282, 3, none⟩ = some (.slice none 0 0) := (blk_cell BK282.out 3).trans rfl; have hfz34_0 := blk_frozen BK282.out 0; have hfz34_1 := blk_frozen BK282.out 1; have hfz34_2 := blk_frozen BK282.out 2; have hfz34_3 := blk_frozen BK282.out 3)))
          go_loopg [71] k2 (fun kq v71 w' => ∃ (x71_3 : Int), v71 = .int .i64 x71_3 ∧ Aside0 (impl_IsHistory.l2 kq l0 l0 (l0.length : Int) x64_2 ((rd_T126 l0 x64_2).f2) (((rd_T126 l0 x64_2).f2).length : Int) x71_3 ((rd_T126 l0 x64_2).f0) ((rd_T126 l0 x64_2).f1) ((rd_T126 l0 x64_2).f2) ((rd_T126 l0 x64_2).f3) = some r) ∧ Aside0 (kq ≤ k2) ∧ Aside0 (w'.heap[gb282]? = some (.cells #[.int .i64 ((rd_T126 l0 x64_2).f0), .int .i64 ((rd_T126 l0 x64_2).f1), (.slice A281_2 ((rd_T126 l0 x64_2).f2).length c281_2), (.slice A281_3 ((rd_T126 l0 x64_2).f3).length c281_3)] 126 (0, 0))) ∧ Aside0 (Below w.heap.size w w'))
          case atStart => exact ⟨(0), (by first | rfl | (simp; done) | (simp [*]; done)), H', ⟨Nat.le_refl _⟩, ⟨by (with_reducible repeat (first | refine blk_drewN ?_ _ | refine blk_drew ?_ | refine blk_alloc ?_ _)); refine blk_put (cs := #[.int .i64 ((rd_T126 l0 x64_2).f0), .int .i64 ((rd_T126 l0 x64_2).f1), .slice A281_2 ((rd_T126 l0 x64_2).f2).length c281_2, .slice none 0 0]) ?_ 3 _ rfl; (with_reducible repeat (first | refine blk_drewN ?_ _ | refine blk_drew ?_ | refine blk_alloc ?_ _)); refine blk_put (cs := #[.int .i64 ((rd_T126 l0 x64_2).f0), .int .i64 ((rd_T126 l0 x64_2).f1), .slice none 0 0, .slice none 0 0]) ?_ 2 _ rfl; (with_reducible repeat (first | refine blk_drewN ?_ _ | refine blk_drew ?_ | refine blk_alloc ?_ _)); refine blk_put (cs := #[.int .i64 ((rd_T126 l0 x64_2).f0), .int .i64 0, .slice none 0 0, .slice none 0 0]) ?_ 1 _ rfl; (with_reducible repeat (first | refine blk_drewN ?_ _ | refine blk_drew ?_ | refine blk_alloc ?_ _)); refine blk_put (cs := #[.int .i64 0, .int .i64 0, .slice none 0 0, .slice none 0 0]) ?_ 0 _ rfl; (with_reducible repeat (first | refine blk_drewN ?_ _ | refine blk_drew ?_ | refine blk_alloc ?_ _)); exact BK282.out⟩, ⟨by repeat (first | (with_reducible first | exact HB.out | apply below_alloc | apply pw_below_drewN | apply below_drew1 | refine below_set ?_ GE282.out) | exact HB.out)⟩⟩
          case round =>
           clear H'
           try clear c1
           try clear c2
           try clear c2b0
           try clear c2b1
           try clear p2
           try clear q2
           try clear hx2
           try clear c3
           try clear c3b0
           try clear c4
           try clear c4b0
           try clear c5
           try clear c5b0
           try clear p6
           try clear c7
           try clear c10
           try clear c18
           try clear c20
           try clear c20b0
           try clear c22
           try clear c22b0
           try clear c23
           try clear c23b0
           try clear c24
           try clear c24b0
           try clear c26
           try clear c26b0
           try clear c26b1
           try clear c27
           try clear p27
           try clear q27
           try clear hx27
           try clear c28
           try clear p28
           try clear q28
           try clear hx28
           try clear c29
           try clear c30
           try clear c30b0
           try clear c31
           try clear c31b0
           try clear c32
           try clear c32b0
           try clear hcz12_0
           try clear hcz12_1
           try clear hcz12_2
           try clear hcz12_3
           try clear hcz14_0
           try clear hcz14_1
           try clear hcz14_2
           try clear hcz14_3
           try clear hcz16_0
           try clear hcz16_1
           try clear hcz16_2
           try clear hcz16_3
           try clear hcz25_0
           try clear hcz25_1
           try clear hcz25_2
           try clear hcz25_3
           try clear hcz27_0
           try clear hcz27_1
           try clear hcz27_2
           try clear hcz27_3
           try clear hcz28_0
           try clear hcz28_1
           try clear hcz28_2
           try clear hcz28_3
           try clear hcz34_0
           try clear hcz34_1
           try clear hcz34_2
           try clear hcz34_3
           try clear hcz8_0
           try clear hcz8_1
           try clear hcz8_2
           try clear hcz8_3
           try clear hfz12_0
           try clear hfz12_1
           try clear hfz12_2
           try clear hfz12_3
           try clear hfz14_0
           try clear hfz14_1
           try clear hfz14_2
           try clear hfz14_3
           try clear hfz16_0
           try clear hfz16_1
           try clear hfz16_2
           try clear hfz16_3
           try clear hfz25_0
           try clear hfz25_1
           try clear hfz25_2
           try clear hfz25_3
           try clear hfz27_0
           try clear hfz27_1
           try clear hfz27_2
           try clear hfz27_3
           try clear hfz28_0
           try clear hfz28_1
           try clear hfz28_2
           try clear hfz28_3
           try clear hfz34_0
           try clear hfz34_1
           try clear hfz34_2
           try clear hfz34_3
           try clear hfz8_0
           try clear hfz8_1
           try clear hfz8_2
           try clear hfz8_3
           try clear hx275_0
           try clear hx275_1
           try clear hx275_2
           try clear hx275_3
           try clear hx279_0
           try clear hx279_1
           try clear hx279_2
           try clear hx279_3
           try clear hx280_0
           try clear hx280_1
           try clear hx280_2
           try clear hx280_3
           try clear hx281_0
           try clear hx281_1
           try clear hx281_2
           try clear hx281_3
           try clear p2
           try clear p27
           try clear p275
           try clear p279
           try clear p28
           try clear p280
           try clear p281
           try clear p6
           try clear q2
           try clear q27
           try clear q275
           try clear q279
           try clear q28
           try clear q280
           try clear q281
           obtain ⟨x71_3, rfl, HA, HK3, BK282, HB⟩ := hrel
           cases gk with
           | zero => exact absurd HA.out (by simp [impl_IsHistory.l2])
           | succ k3 =>
            have H := HA.out
            clear HA
            simp only [impl_IsHistory.l2] at H
            by_cases c35 : x71_3 < (((rd_T126 l0 x64_2).f2).length : Int)
            ·rw [if_pos c35] at H
             have c35b0 : decide (x71_3 < (((rd_T126 l0 x64_2).f2).length : Int)) = true := decide_eq_true c35
             clear c35
             by_cases c36 : 0 ≤ x71_3
             ·rw [if_pos c36] at H
              have c36b0 : decide (0 ≤ x71_3) = true := decide_eq_true c36
              clear c36
              by_cases c37 : x71_3 < (((rd_T126 l0 x64_2).f2).length : Int)
              ·rw [if_pos c37] at H
               have c37b0 : decide (x71_3 < (((rd_T126 l0 x64_2).f2).length : Int)) = true := decide_eq_true c37
               clear c37
               replace H := Option.bind_eq_some_iff.mp H
               obtain ⟨t285, A380, H⟩ := H
               replace H : (if t285 = ((rd_T126 l0 x64_2).f0) then (impl_IsHistory.j5 k3 l0 l0 (l0.length : Int) x64_2 ((rd_T126 l0 x64_2).f2) (((rd_T126 l0 x64_2).f2).length : Int) x71_3 true ((rd_T126 l0 x64_2).f0) ((rd_T126 l0 x64_2).f1) ((rd_T126 l0 x64_2).f2) ((rd_T126 l0 x64_2).f3)) else (if ((rd_T32 ((rd_T126 l0 x64_2).f2) x71_3).f1) > 0 then (impl_IsHistory.j5 k3 l0 l0 (l0.length : Int) x64_2 ((rd_T126 l0 x64_2).f2) (((rd_T126 l0 x64_2).f2).length : Int) x71_3 (t285 == 0) ((rd_T126 l0 x64_2).f0) ((rd_T126 l0 x64_2).f1) ((rd_T126 l0 x64_2).f2) ((rd_T126 l0 x64_2).f3)) else (impl_IsHistory.j5 k3 l0 l0 (l0.length : Int) x64_2 ((rd_T126 l0 x64_2).f2) (((rd_T126 l0 x64_2).f2).length : Int) x71_3 false ((rd_T126 l0 x64_2).f0) ((rd_T126 l0 x64_2).f1) ((rd_T126 l0 x64_2).f2) ((rd_T126 l0 x64_2).f3)))) = some r := H
               have A38 := Aside0.mk A380
               clear A380
               have HC39 := Aside0.mk H
               clear H
               have p283 : 0 ≤ (x71_3 : Int) := of_decide_eq_true (by first | (with_reducible assumption) | assumption)
               have q283 : x71_3 < (((rd_T126 l0 x64_2).f2).length : Int) := of_decide_eq_true (by first | (with_reducible assumption) | assumption)
               obtain ⟨ad283, e283, hx283_0, hx283_1⟩ := at_T32 HR281_2.out x71_3 p283 q283
               cases e283
               replace hx283_0 := (HB.out.cell (World.block_lt_of_cell? w _ hx283_0)).trans hx283_0
               replace hx283_1 := (HB.out.cell (World.block_lt_of_cell? w _ hx283_1)).trans hx283_1
               replace p283 := eq_true p283
               replace q283 := eq_true q283
               go_upto_region 18 with (first | ((with_reducible refine gate_dst (N := 8) rfl ?_); (try (refine gate_guard (by rfl) ?_; dsimp only)); refine box_event ?hg (N := 8) ?hd (cs := #[.int .i64 0, .int .i64 0]) (t := 32) ?hr ?_; (case hd => rfl); (case hg => rfl); (case hr => first | (go_simp; done) | (go_simp; rfl)); intro gb284 hg w40 hbox hb; have n0_ := Aside0.mk (blk_below (g := gb282) (o := .cells #[.int .i64 ((rd_T126 l0 x64_2).f0), .int .i64 ((rd_T126 l0 x64_2).f1), .slice (some ad283) ((rd_T126 l0 x64_2).f2).length c281_2, .slice A281_3 ((rd_T126 l0 x64_2).f3).length c281_3] 126 (0, 0)) (by (with_reducible repeat (first | refine blk_drewN ?_ _ | refine blk_drew ?_ | refine blk_alloc ?_ _)); exact BK282.out) hb); have n1_ := Aside0.mk (below_step (by repeat (first | (with_reducible first | exact HB.out | apply below_alloc | apply pw_below_drewN | apply below_drew1 | refine below_set ?_ GE282.out) | exact HB.out)) hb); have n2_ := Aside0.mk (hbox); have n3_ := Aside0.mk ((by rw [hg]; exact (below_size (by repeat (first | (with_reducible first | exact HB.out | apply below_alloc | apply pw_below_drewN | apply below_drew1 | refine below_set ?_ GE282.out) | exact HB.out))) : w.heap.size ≤ gb284)); have n4_ := Aside0.mk ((by rw [hg]; exact (below_size (by repeat (first | (with_reducible first | exact HB.out | apply below_alloc | apply pw_below_drewN | apply below_drew1 | refine below_set ?_ GE282.out) | exact HB.out))) : w.heap.size ≤ gb284)); have n5_ := Aside0.mk ((by rw [hg]; exact Nat.ne_of_lt (blk_lt (g := gb282) (o := .cells #[.int .i64 ((rd_T126 l0 x64_2).f0), .int .i64 ((rd_T126 l0 x64_2).f1), .slice (some ad283) ((rd_T126 l0 x64_2).f2).length c281_2, .slice A281_3 ((rd_T126 l0 x64_2).f3).length c281_3] 126 (0, 0)) (by (with_reducible repeat (first | refine blk_drewN ?_ _ | refine blk_drew ?_ | refine blk_alloc ?_ _)); exact BK282.out)) : gb282 ≠ gb284)); have n6_ := Aside0.mk ((by rw [hg]; exact Nat.ne_of_gt (blk_lt (g := gb282) (o := .cells #[.int .i64 ((rd_T126 l0 x64_2).f0), .int .i64 ((rd_T126 l0 x64_2).f1), .slice (some ad283) ((rd_T126 l0 x64_2).f2).length c281_2, .slice A281_3 ((rd_T126 l0 x64_2).f3).length c281_3] 126 (0, 0)) (by (with_reducible repeat (first | refine blk_drewN ?_ _ | refine blk_drew ?_ | refine blk_alloc ?_ _)); exact BK282.out)) : gb284 ≠ gb282)); clear BK282; clear HB; have BK282 := n0_; have HB := n1_; have BK284 := n2_; have GW284 := n3_; have GE284 := n4_; have NB282_284 := n5_; have NB284_282 := n6_; clear n0_ n1_ n2_ n3_ n4_ n5_ n6_; clear hb hbox hg; have hnb41 := NB284_282.out; have hnc41 := NB282_284.out; have hcz42_0 : w40.cell? ⟨gb284, 0, none⟩ = some (.int .i64 0) := (blk_cell BK284.out 0).trans rfl; have hcz42_1 : w40.cell? ⟨gb284, 1, none⟩ = some (.int .i64 0) := (blk_cell BK284.out 1).trans rfl; have hfz42_0 := blk_frozen BK284.out 0; have hfz42_1 := blk_frozen BK284.out 1) | (go_at_call 22; (with_reducible refine (impl_WriterOf.calls k3 _ _ l0 ((rd_T32 ((rd_T126 l0 x64_2).f2) x71_3).f0) ((rd_T32 ((rd_T126 l0 x64_2).f2) x71_3).f1) t285 _ ?side1 ?side2 A38.out).mono ?_); (case side1 => exact Kd.C_below HR0.out (by repeat (first | (with_reducible first | exact HB.out | apply below_alloc | apply pw_below_drewN | apply below_drew1 | refine below_set ?_ GE282.out | refine below_set ?_ GE284.out) | exact HB.out))); (case side2 => exact HC0.out); rintro e w43 ⟨rfl, hb⟩; have n0_ := Aside0.mk (blk_below (g := gb282) (o := .cells #[.int .i64 ((rd_T126 l0 x64_2).f0), .int .i64 ((rd_T126 l0 x64_2).f1), .slice (some ad283) ((rd_T126 l0 x64_2).f2).length c281_2, .slice A281_3 ((rd_T126 l0 x64_2).f3).length c281_3] 126 (0, 0)) (by (with_reducible repeat (first | refine blk_drewN ?_ _ | refine blk_drew ?_ | refine blk_alloc ?_ _)); refine blk_far ?_ NB282_284.out _; (with_reducible repeat (first | refine blk_drewN ?_ _ | refine blk_drew ?_ | refine blk_alloc ?_ _)); refine blk_far ?_ NB282_284.out _; (with_reducible repeat (first | refine blk_drewN ?_ _ | refine blk_drew ?_ | refine blk_alloc ?_ _)); exact BK282.out) hb); have n1_ := Aside0.mk (blk_below (g := gb284) (o := .cells #[.int .i64 ((rd_T32 ((rd_T126 l0 x64_2).f2) x71_3).f0), .int .i64 ((rd_T32 ((rd_T126 l0 x64_2).f2) x71_3).f1)] 32 (0, 0)) (by (with_reducible repeat (first | refine blk_drewN ?_ _ | refine blk_drew ?_ | refine blk_alloc ?_ _)); refine blk_put (cs := #[.int .i64 ((rd_T32 ((rd_T126 l0 x64_2).f2) x71_3).f0), .int .i64 0]) ?_ 1 _ rfl; (with_reducible repeat (first | refine blk_drewN ?_ _ | refine blk_drew ?_ | refine blk_alloc ?_ _)); refine blk_put (cs := #[.int .i64 0, .int .i64 0]) ?_ 0 _ rfl; (with_reducible repeat (first | refine blk_drewN ?_ _ | refine blk_drew ?_ | refine blk_alloc ?_ _)); exact BK284.out) hb); have n2_ := Aside0.mk (below_step (by repeat (first | (with_reducible first | exact HB.out | apply below_alloc | apply pw_below_drewN | apply below_drew1 | refine below_set ?_ GE282.out | refine below_set ?_ GE284.out) | exact HB.out)) hb); clear BK282; clear BK284; clear HB; have BK282 := n0_; have BK284 := n1_; have HB := n2_; clear n0_ n1_ n2_; (try clear hb); (try clear hb2); (try clear hk); (try clear hi)))
               repeat (go_quiet (first | ((with_reducible refine gate_dst (N := 8) rfl ?_); (try (refine gate_guard (by rfl) ?_; dsimp only)); refine box_event ?hg (N := 8) ?hd (cs := #[.int .i64 0, .int .i64 0]) (t := 32) ?hr ?_; (case hd => rfl); (case hg => rfl); (case hr => first | (go_simp; done) | (go_simp; rfl)); intro gb284 hg w40 hbox hb; have n0_ := Aside0.mk (blk_below (g := gb282) (o := .cells #[.int .i64 ((rd_T126 l0 x64_2).f0), .int .i64 ((rd_T126 l0 x64_2).f1), .slice (some ad283) ((rd_T126 l0 x64_2).f2).length c281_2, .slice A281_3 ((rd_T126 l0 x64_2).f3).length c281_3] 126 (0, 0)) (by (with_reducible repeat (first | refine blk_drewN ?_ _ | refine blk_drew ?_ | refine blk_alloc ?_ _)); exact BK282.out) hb); have n1_ := Aside0.mk (below_step (by repeat (first | (with_reducible first | exact HB.out | apply below_alloc | apply pw_below_drewN | apply below_drew1 | refine below_set ?_ GE282.out) | exact HB.out)) hb); have n2_ := Aside0.mk (hbox); have n3_ := Aside0.mk ((by rw [hg]; exact (below_size (by repeat (first | (with_reducible first | exact HB.out | apply below_alloc | apply pw_below_drewN | apply below_drew1 | refine below_set ?_ GE282.out) | exact HB.out))) : w.heap.size ≤ gb284)); have n4_ := Aside0.mk ((by rw [hg]; exact (below_size (by repeat (first | (with_reducible first | exact HB.out | apply below_alloc | apply pw_below_drewN | apply below_drew1 | refine below_set ?_ GE282.out) | exact HB.out))) : w.heap.size ≤ gb284)); have n5_ := Aside0.mk ((by rw [hg]; exact Nat.ne_of_lt (blk_lt (g := gb282) (o := .cells #[.int .i64 ((rd_T126 l0 x64_2).f0), .int .i64 ((rd_T126 l0 x64_2).f1), .slice (some ad283) ((rd_T126 l0 x64_2).f2).length c281_2, .slice A281_3 ((rd_T126 l0 x64_2).f3).length c281_3] 126 (0, 0)) (by (with_reducible repeat (first | refine blk_drewN ?_ _ | refine blk_drew ?_ | refine blk_alloc ?_ _)); exact BK282.out)) : gb282 ≠ gb284)); have n6_ := Aside0.mk ((by rw [hg]; exact Nat.ne_of_gt (blk_lt (g := gb282) (o := .cells #[.int .i64 ((rd_T126 l0 x64_2).f0), .int .i64 ((rd_T126 l0 x64_2).f1), .slice (some ad283) ((rd_T126 l0 x64_2).f2).length c281_2, .slice A281_3 ((rd_T126 l0 x64_2).f3).length c281_3] 126 (0, 0)) (by (with_reducible repeat (first | refine blk_drewN ?_ _ | refine blk_drew ?_ | refine blk_alloc ?_ _)); exact BK282.out)) : gb284 ≠ gb282)); clear BK282; clear HB; have BK282 := n0_; have HB := n1_; have BK284 := n2_; have GW284 := n3_; have GE284 := n4_; have NB282_284 := n5_; have NB284_282 := n6_; clear n0_ n1_ n2_ n3_ n4_ n5_ n6_; clear hb hbox hg; have hnb41 := NB284_282.out; have hnc41 := NB282_284.out; have hcz42_0 : w40.cell? ⟨gb284, 0, none⟩ = some (.int .i64 0) := (blk_cell BK284.out 0).trans rfl; have hcz42_1 : w40.cell? ⟨gb284, 1, none⟩ = some (.int .i64 0) := (blk_cell BK284.out 1).trans rfl; have hfz42_0 := blk_frozen BK284.out 0; have hfz42_1 := blk_frozen BK284.out 1) | (go_at_call 22; (with_reducible refine (impl_WriterOf.calls k3 _ _ l0 ((rd_T32 ((rd_T126 l0 x64_2).f2) x71_3).f0) ((rd_T32 ((rd_T126 l0 x64_2).f2) x71_3).f1) t285 _ ?side1 ?side2 A38.out).mono ?_); (case side1 => exact Kd.C_below HR0.out (by repeat (first | (with_reducible first | exact HB.out | apply below_alloc | apply pw_below_drewN | apply below_drew1 | refine below_set ?_ GE282.out | refine below_set ?_ GE284.out) | exact HB.out))); (case side2 => exact HC0.out); rintro e w43 ⟨rfl, hb⟩; have n0_ := Aside0.mk (blk_below (g := gb282) (o := .cells #[.int .i64 ((rd_T126 l0 x64_2).f0), .int .i64 ((rd_T126 l0 x64_2).f1), .slice (some ad283) ((rd_T126 l0 x64_2).f2).length c281_2, .slice A281_3 ((rd_T126 l0 x64_2).f3).length c281_3] 126 (0, 0)) (by (with_reducible repeat (first | refine blk_drewN ?_ _ | refine blk_drew ?_ | refine blk_alloc ?_ _)); refine blk_far ?_ NB282_284.out _; (with_reducible repeat (first | refine blk_drewN ?_ _ | refine blk_drew ?_ | refine blk_alloc ?_ _)); refine blk_far ?_ NB282_284.out _; (with_reducible repeat (first | refine blk_drewN ?_ _ | refine blk_drew ?_ | refine blk_alloc ?_ _)); exact BK282.out) hb); have n1_ := Aside0.mk (blk_below (g := gb284) (o := .cells #[.int .i64 ((rd_T32 ((rd_T126 l0 x64_2).f2) x71_3).f0), .int .i64 ((rd_T32 ((rd_T126 l0 x64_2).f2) x71_3).f1)] 32 (0, 0)) (by (with_reducible repeat (first | refine blk_drewN ?_ _ | refine blk_drew ?_ | refine blk_alloc ?_ _)); refine blk_put (cs := #[.int .i64 ((rd_T32 ((rd_T126 l0 x64_2).f2) x71_3).f0), .int .i64 0]) ?_ 1 _ rfl; (with_reducible repeat (first | refine blk_drewN ?_ _ | refine blk_drew ?_ | refine blk_alloc ?_ _)); refine blk_put (cs := #[.int .i64 0, .int .i64 0]) ?_ 0 _ rfl; (with_reducible repeat (first | refine blk_drewN ?_ _ | refine blk_drew ?_ | refine blk_alloc ?_ _)); exact BK284.out) hb); have n2_ := Aside0.mk (below_step (by repeat (first | (with_reducible first | exact HB.out | apply below_alloc | apply pw_below_drewN | apply below_drew1 | refine below_set ?_ GE282.out | refine below_set ?_ GE284.out) | exact HB.out)) hb); clear BK282; clear BK284; clear HB; have BK282 := n0_; have BK284 := n1_; have HB := n2_; clear n0_ n1_ n2_; (try clear hb); (try clear hb2); (try clear hk); (try clear hi))); go_upto_region 18 with (first | ((with_reducible refine gate_dst (N := 8) rfl ?_); (try (refine gate_guard (by rfl) ?_; dsimp only)); refine box_event ?hg (N := 8) ?hd (cs := #[.int .i64 0, .int .i64 0]) (t := 32) ?hr ?_; (case hd => rfl); (case hg => rfl); (case hr => first | (go_simp; done) | (go_simp; rfl)); intro gb284 hg w40 hbox hb; have n0_ := Aside0.mk (blk_below (g := gb282) (o := .cells #[.int .i64 ((rd_T126 l0 x64_2).f0), .int .i64 ((rd_T126 l0 x64_2).f1), .slice (some ad283) ((rd_T126 l0 x64_2).f2).length c281_2, .slice A281_3 ((rd_T126 l0 x64_2).f3).length c281_3] 126 (0, 0)) (by (with_reducible repeat (first | refine blk_drewN ?_ _ | refine blk_drew ?_ | refine blk_alloc ?_ _)); exact BK282.out) hb); have n1_ := Aside0.mk (below_step (by repeat (first | (with_reducible first | exact HB.out | apply below_alloc | apply pw_below_drewN | apply below_drew1 | refine below_set ?_ GE282.out) | exact HB.out)) hb); have n2_ := Aside0.mk (hbox); have n3_ := Aside0.mk ((by rw [hg]; exact (below_size (by repeat (first | (with_reducible first | exact HB.out | apply below_alloc | apply pw_below_drewN | apply below_drew1 | refine below_set ?_ GE282.out) | exact HB.out))) : w.heap.size ≤ gb284)); have n4_ := Aside0.mk ((by rw [hg]; exact (below_size (by repeat (first | (with_reducible first | exact HB.out | apply below_alloc | apply pw_below_drewN | apply below_drew1 | refine below_set ?_ GE282.out) | exact HB.out))) : w.heap.size ≤ gb284)); have n5_ := Aside0.mk ((by rw [hg]; exact Nat.ne_of_lt (blk_lt (g := gb282) (o := .cells #[.int .i64 ((rd_T126 l0 x64_2).f0), .int .i64 ((rd_T126 l0 x64_2).f1), .slice (some ad283) ((rd_T126 l0 x64_2).f2).length c281_2, .slice A281_3 ((rd_T126 l0 x64_2).f3).length c281_3] 126 (0, 0)) (by (with_reducible repeat (first | refine blk_drewN ?_ _ | refine blk_drew ?_ | refine blk_alloc ?_ _)); exact BK282.out)) : gb282 ≠ gb284)); have n6_ := Aside0.mk ((by rw [hg]; exact Nat.ne_of_gt (blk_lt (g := gb282) (o := .cells #[.int .i64 ((rd_T126 l0 x64_2).f0), .int .i64 ((rd_T126 l0 x64_2).f1), .slice (some ad283) ((rd_T126 l0 x64_2).f2).length c281_2, .slice A281_3 ((rd_T126 l0 x64_2).f3).length c281_3] 126 (0, 0)) (by (with_reducible repeat (first | refine blk_drewN ?_ _ | refine blk_drew ?_ | refine blk_alloc ?_ _)); exact BK282.out)) : gb284 ≠ gb282)); clear BK282; clear HB; have BK282 := n0_; have HB := n1_; have BK284 := n2_; have GW284 := n3_; have GE284 := n4_; have NB282_284 := n5_; have NB284_282 := n6_; clear n0_ n1_ n2_ n3_ n4_ n5_ n6_; clear hb hbox hg; have hnb41 := NB284_282.out; have hnc41 := NB282_284.out; have hcz42_0 : w40.cell? ⟨gb284, 0, none⟩ = some (.int .i64 0) := (blk_cell BK284.out 0).trans rfl; have hcz42_1 : w40.cell? ⟨gb284, 1, none⟩ = some (.int .i64 0) := (blk_cell BK284.out 1).trans rfl; have hfz42_0 := blk_frozen BK284.out 0; have hfz42_1 := blk_frozen BK284.out 1) | (go_at_call 22; (with_reducible refine (impl_WriterOf.calls k3 _ _ l0 ((rd_T32 ((rd_T126 l0 x64_2).f2) x71_3).f0) ((rd_T32 ((rd_T126 l0 x64_2).f2) x71_3).f1) t285 _ ?side1 ?side2 A38.out).mono ?_); (case side1 => exact Kd.C_below HR0.out (by repeat (first | (with_reducible first | exact HB.out | apply below_alloc | apply pw_below_drewN | apply below_drew1 | refine below_set ?_ GE282.out | refine below_set ?_ GE284.out) | exact HB.out))); (case side2 => exact HC0.out); rintro e w43 ⟨rfl, hb⟩; have n0_ := Aside0.mk (blk_below (g := gb282) (o := .cells #[.int .i64 ((rd_T126 l0 x64_2).f0), .int .i64 ((rd_T126 l0 x64_2).f1), .slice (some ad283) ((rd_T126 l0 x64_2).f2).length c281_2, .slice A281_3 ((rd_T126 l0 x64_2).f3).length c281_3] 126 (0, 0)) (by (with_reducible repeat (first | refine blk_drewN ?_ _ | refine blk_drew ?_ | refine blk_alloc ?_ _)); refine blk_far ?_ NB282_284.out _; (with_reducible repeat (first | refine blk_drewN ?_ _ | refine blk_drew ?_ | refine blk_alloc ?_ _)); refine blk_far ?_ NB282_284.out _; (with_reducible repeat (first | refine blk_drewN ?_ _ | refine blk_drew ?_ | refine blk_alloc ?_ _)); exact BK282.out) hb); have n1_ := Aside0.mk (blk_below (g := gb284) (o := .cells #[.int .i64 ((rd_T32 ((rd_T126 l0 x64_2).f2) x71_3).f0), .int .i64 ((rd_T32 ((rd_T126 l0 x64_2).f2) x71_3).f1)] 32 (0, 0)) (by (with_reducible repeat (first | refine blk_drewN ?_ _ | refine blk_drew ?_ | refine blk_alloc ?_ _)); refine blk_put (cs := #[.int .i64 ((rd_T32 ((rd_T126 l0 x64_2).f2) x71_3).f0), .int .i64 0]) ?_ 1 _ rfl; (with_reducible repeat (first | refine blk_drewN ?_ _ | refine blk_drew ?_ | refine blk_alloc ?_ _)); refine blk_put (cs := #[.int .i64 0, .int .i64 0]) ?_ 0 _ rfl; (with_reducible repeat (first | refine blk_drewN ?_ _ | refine blk_drew ?_ | refine blk_alloc ?_ _)); exact BK284.out) hb); have n2_ := Aside0.mk (below_step (by repeat (first | (with_reducible first | exact HB.out | apply below_alloc | apply pw_below_drewN | apply below_drew1 | refine below_set ?_ GE282.out | refine below_set ?_ GE284.out) | exact HB.out)) hb); clear BK282; clear BK284; clear HB; have BK282 := n0_; have BK284 := n1_; have HB := n2_; clear n0_ n1_ n2_; (try clear hb); (try clear hb2); (try clear hk); (try clear hi))))
               (try simp only [Act.put, List.setIfInBounds_toArray, List.set_cons_zero, List.set_cons_succ])
               go_cut [90] (fun v90 wc => ∃ (kq : Nat) (x90_38 : Bool), v90 = .bool x90_38 ∧ Aside0 (impl_IsHistory.j5 kq l0 l0 (l0.length : Int) x64_2 ((rd_T126 l0 x64_2).f2) (((rd_T126 l0 x64_2).f2).length : Int) x71_3 x90_38 ((rd_T126 l0 x64_2).f0) ((rd_T126 l0 x64_2).f1) ((rd_T126 l0 x64_2).f2) ((rd_T126 l0 x64_2).f3) = some r) ∧ Aside0 (kq ≤ k3) ∧ Aside0 (wc.heap[gb282]? = some (.cells #[.int .i64 ((rd_T126 l0 x64_2).f0), .int .i64 ((rd_T126 l0 x64_2).f1), (.slice (some ad283) ((rd_T126 l0 x64_2).f2).length c281_2), (.slice A281_3 ((rd_T126 l0 x64_2).f3).length c281_3)] 126 (0, 0))) ∧ Aside0 (wc.heap[gb284]? = some (.cells #[.int .i64 ((rd_T32 ((rd_T126 l0 x64_2).f2) x71_3).f0), .int .i64 ((rd_T32 ((rd_T126 l0 x64_2).f2) x71_3).f1)] 32 (0, 0))) ∧ Aside0 (Below w.heap.size w wc))
               case first =>
                have H := HC39.out
                clear HC39
                by_cases c44 : t285 = ((rd_T126 l0 x64_2).f0)
                ·rw [if_pos c44] at H
                 have c44b0 : (t285 == ((rd_T126 l0 x64_2).f0)) = true := beq_iff_eq.mpr c44
                 have c44b1 : (t285 != ((rd_T126 l0 x64_2).f0)) = false := bne_eq_false_iff_eq.mpr c44
                 clear c44
                 (first | rw [c44b0] | (simp only [i64_w, i32_w]; rw [c44b0]) | skip)
                 have H' := Aside0.mk H
                 clear H
                 have hnb45 := NB282_284.out
                 have hnc45 := NB284_282.out
                 have hcz46_0 : w43.cell? ⟨gb282, 0, none⟩ = some (.int .i64 ((rd_T126 l0 x64_2).f0)) := (blk_cell BK282.out 0).trans rfl
                 have hcz46_1 : w43.cell? ⟨gb282, 1, none⟩ = some (.int .i64 ((rd_T126 l0 x64_2).f1)) := (blk_cell BK282.out 1).trans rfl
                 have hcz46_2 : w43.cell? ⟨gb282, 2, none⟩ = some (.slice (some ad283) ((rd_T126 l0 x64_2).f2).length c281_2) := (blk_cell BK282.out 2).trans rfl
                 have hcz46_3 : w43.cell? ⟨gb282, 3, none⟩ = some (.slice A281_3 ((rd_T126 l0 x64_2).f3).length c281_3) := (blk_cell BK282.out 3).trans rfl
                 have hfz46_0 := blk_frozen BK282.out 0
                 have hfz46_1 := blk_frozen BK282.out 1
                 have hfz46_2 := blk_frozen BK282.out 2
                 have hfz46_3 := blk_frozen BK282.out 3
                 go_wp2
                 repeat (go_quiet (fail); try go_wp2)
                 go_meet
                 case rel => exact ⟨_, (true), (by first | rfl | (simp; done) | (simp [*]; done)), H', ⟨by have := HK1.out; have := HK2.out; have := HK3.out; first | omega | exact Nat.le_refl _⟩, ⟨by (with_reducible repeat (first | refine blk_drewN ?_ _ | refine blk_drew ?_ | refine blk_alloc ?_ _)); exact BK282.out⟩, ⟨by (with_reducible repeat (first | refine blk_drewN ?_ _ | refine blk_drew ?_ | refine blk_alloc ?_ _)); exact BK284.out⟩, ⟨by repeat (first | (with_reducible first | exact HB.out | apply below_alloc | apply pw_below_drewN | apply below_drew1 | refine below_set ?_ GE282.out | refine below_set ?_ GE284.out) | exact HB.out)⟩⟩
                ·rw [if_neg c44] at H
                 have c44b0 : (t285 == ((rd_T126 l0 x64_2).f0)) = false := beq_eq_false_iff_ne.mpr c44
                 have c44b1 : (t285 != ((rd_T126 l0 x64_2).f0)) = true := bne_iff_ne.mpr c44
                 (first | rw [c44b0] | (simp only [i64_w, i32_w]; rw [c44b0]) | skip)
                 by_cases c47 : ((rd_T32 ((rd_T126 l0 x64_2).f2) x71_3).f1) > 0
                 ·rw [if_pos c47] at H
                  have c47b0 : decide (0 < ((rd_T32 ((rd_T126 l0 x64_2).f2) x71_3).f1)) = true := decide_eq_true c47
                  clear c47
                  have H' := Aside0.mk H
                  clear H
                  have hnb48 := NB282_284.out
                  have hnc48 := NB284_282.out
                  have hcz49_0 : w43.cell? ⟨gb282, 0, none⟩ = some (.int .i64 ((rd_T126 l0 x64_2).f0)) := (blk_cell BK282.out 0).trans rfl
                  have hcz49_1 : w43.cell? ⟨gb282, 1, none⟩ = some (.int .i64 ((rd_T126 l0 x64_2).f1)) := (blk_cell BK282.out 1).trans rfl
                  have hcz49_2 : w43.cell? ⟨gb282, 2, none⟩ = some (.slice (some ad283) ((rd_T126 l0 x64_2).f2).length c281_2) := (blk_cell BK282.out 2).trans rfl
                  have hcz49_3 : w43.cell? ⟨gb282, 3, none⟩ = some (.slice A281_3 ((rd_T126 l0 x64_2).f3).length c281_3) := (blk_cell BK282.out 3).trans rfl
                  have hfz49_0 := blk_frozen BK282.out 0
                  have hfz49_1 := blk_frozen BK282.out 1
                  have hfz49_2 := blk_frozen BK282.out 2
                  have hfz49_3 := blk_frozen BK282.out 3
                  have hcz50_0 : w43.cell? ⟨gb284, 0, none⟩ = some (.int .i64 ((rd_T32 ((rd_T126 l0 x64_2).f2) x71_3).f0)) := (blk_cell BK284.out 0).trans rfl
                  have hcz50_1 : w43.cell? ⟨gb284, 1, none⟩ = some (.int .i64 ((rd_T32 ((rd_T126 l0 x64_2).f2) x71_3).f1)) := (blk_cell BK284.out 1).trans rfl
                  have hfz50_0 := blk_frozen BK284.out 0
                  have hfz50_1 := blk_frozen BK284.out 1
                  go_wp2
                  repeat (go_quiet (fail); try go_wp2)
                  go_meet
                  case rel => exact ⟨_, ((t285 == 0)), (by first | rfl | (simp; done) | (simp [*]; done)), H', ⟨by have := HK1.out; have := HK2.out; have := HK3.out; first | omega | exact Nat.le_refl _⟩, ⟨by (with_reducible repeat (first | refine blk_drewN ?_ _ | refine blk_drew ?_ | refine blk_alloc ?_ _)); exact BK282.out⟩, ⟨by (with_reducible repeat (first | refine blk_drewN ?_ _ | refine blk_drew ?_ | refine blk_alloc ?_ _)); exact BK284.out⟩, ⟨by repeat (first | (with_reducible first | exact HB.out | apply below_alloc | apply pw_below_drewN | apply below_drew1 | refine below_set ?_ GE282.out | refine below_set ?_ GE284.out) | exact HB.out)⟩⟩
                 ·rw [if_neg c47] at H
                  have c47b0 : decide (0 < ((rd_T32 ((rd_T126 l0 x64_2).f2) x71_3).f1)) = false := decide_eq_false c47
                  clear c47
                  have H' := Aside0.mk H
                  clear H
                  have hnb51 := NB282_284.out
                  have hnc51 := NB284_282.out
                  have hcz52_0 : w43.cell? ⟨gb282, 0, none⟩ = some (.int .i64 ((rd_T126 l0 x64_2).f0)) := (blk_cell BK282.out 0).trans rfl
                  have hcz52_1 : w43.cell? ⟨gb282, 1, none⟩ = some (.int .i64 ((rd_T126 l0 x64_2).f1)) := (blk_cell BK282.out 1).trans rfl
                  have hcz52_2 : w43.cell? ⟨gb282, 2, none⟩ = some (.slice (some ad283) ((rd_T126 l0 x64_2).f2).length c281_2) := (blk_cell BK282.out 2).trans rfl
                  have hcz52_3 : w43.cell? ⟨gb282, 3, none⟩ = some (.slice A281_3 ((rd_T126 l0 x64_2).f3).length c281_3) := (blk_cell BK282.out 3).trans rfl
                  have hfz52_0 := blk_frozen BK282.out 0
                  have hfz52_1 := blk_frozen BK282.out 1
                  have hfz52_2 := blk_frozen BK282.out 2
                  have hfz52_3 := blk_frozen BK282.out 3
                  have hcz53_0 : w43.cell? ⟨gb284, 0, none⟩ = some (.int .i64 ((rd_T32 ((rd_T126 l0 x64_2).f2) x71_3).f0)) := (blk_cell BK284.out 0).trans rfl
                  have hcz53_1 : w43.cell? ⟨gb284, 1, none⟩ = some (.int .i64 ((rd_T32 ((rd_T126 l0 x64_2).f2) x71_3).f1)) := (blk_cell BK284.out 1).trans rfl
                  have hfz53_0 := blk_frozen BK284.out 0
                  have hfz53_1 := blk_frozen BK284.out 1
                  go_wp2
                  repeat (go_quiet (fail); try go_wp2)
                  go_meet
                  case rel => exact ⟨_, (false), (by first | rfl | (simp; done) | (simp [*]; done)), H', ⟨by have := HK1.out; have := HK2.out; have := HK3.out; first | omega | exact Nat.le_refl _⟩, ⟨by (with_reducible repeat (first | refine blk_drewN ?_ _ | refine blk_drew ?_ | refine blk_alloc ?_ _)); exact BK282.out⟩, ⟨by (with_reducible repeat (first | refine blk_drewN ?_ _ | refine blk_drew ?_ | refine blk_alloc ?_ _)); exact BK284.out⟩, ⟨by repeat (first | (with_reducible first | exact HB.out | apply below_alloc | apply pw_below_drewN | apply below_drew1 | refine below_set ?_ GE282.out | refine below_set ?_ GE284.out) | exact HB.out)⟩⟩
               case rest =>
                clear HC39
                try clear c1
                try clear c2
                try clear c2b0
                try clear c2b1
                try clear p2
                try clear q2
                try clear hx2
                try clear c3
                try clear c3b0
                try clear c4
                try clear c4b0
                try clear c5
                try clear c5b0
                try clear p6
                try clear c7
                try clear c10
                try clear c18
                try clear c20
                try clear c20b0
                try clear c22
                try clear c22b0
                try clear c23
                try clear c23b0
                try clear c24
                try clear c24b0
                try clear c26
                try clear c26b0
                try clear c26b1
                try clear c27
                try clear p27
                try clear q27
                try clear hx27
                try clear c28
                try clear p28
                try clear q28
                try clear hx28
                try clear c29
                try clear c30
                try clear c30b0
                try clear c31
                try clear c31b0
                try clear c32
                try clear c32b0
                try clear c35
                try clear c35b0
                try clear c36
                try clear c36b0
                try clear c37
                try clear c37b0
                try clear c41
                try clear c44
                try clear c44b0
                try clear c44b1
                try clear c45
                try clear c47
                try clear c47b0
                try clear c48
                try clear c51
                try clear hcz12_0
                try clear hcz12_1
                try clear hcz12_2
                try clear hcz12_3
                try clear hcz14_0
                try clear hcz14_1
                try clear hcz14_2
                try clear hcz14_3
                try clear hcz16_0
                try clear hcz16_1
                try clear hcz16_2
                try clear hcz16_3
                try clear hcz25_0
                try clear hcz25_1
                try clear hcz25_2
                try clear hcz25_3
                try clear hcz27_0
                try clear hcz27_1
                try clear hcz27_2
                try clear hcz27_3
                try clear hcz28_0
                try clear hcz28_1
                try clear hcz28_2
                try clear hcz28_3
                try clear hcz34_0
                try clear hcz34_1
                try clear hcz34_2
                try clear hcz34_3
                try clear hcz42_0
                try clear hcz42_1
                try clear hcz46_0
                try clear hcz46_1
                try clear hcz46_2
                try clear hcz46_3
                try clear hcz49_0
                try clear hcz49_1
                try clear hcz49_2
                try clear hcz49_3
                try clear hcz50_0
                try clear hcz50_1
                try clear hcz52_0
                try clear hcz52_1
                try clear hcz52_2
                try clear hcz52_3
                try clear hcz53_0
                try clear hcz53_1
                try clear hcz8_0
                try clear hcz8_1
                try clear hcz8_2
                try clear hcz8_3
                try clear hfz12_0
                try clear hfz12_1
                try clear hfz12_2
                try clear hfz12_3
                try clear hfz14_0
                try clear hfz14_1
                try clear hfz14_2
                try clear hfz14_3
                try clear hfz16_0
                try clear hfz16_1
                try clear hfz16_2
                try clear hfz16_3
                try clear hfz25_0
                try clear hfz25_1
                try clear hfz25_2
                try clear hfz25_3
                try clear hfz27_0
                try clear hfz27_1
                try clear hfz27_2
                try clear hfz27_3
                try clear hfz28_0
                try clear hfz28_1
                try clear hfz28_2
                try clear hfz28_3
                try clear hfz34_0
                try clear hfz34_1
                try clear hfz34_2
                try clear hfz34_3
                try clear hfz42_0
                try clear hfz42_1
                try clear hfz46_0
                try clear hfz46_1
                try clear hfz46_2
                try clear hfz46_3
                try clear hfz49_0
                try clear hfz49_1
                try clear hfz49_2
                try clear hfz49_3
                try clear hfz50_0
                try clear hfz50_1
                try clear hfz52_0
                try clear hfz52_1
                try clear hfz52_2
                try clear hfz52_3
                try clear hfz53_0
                try clear hfz53_1
                try clear hfz8_0
                try clear hfz8_1
                try clear hfz8_2
                try clear hfz8_3
                try clear hx275_0
                try clear hx275_1
                try clear hx275_2
                try clear hx275_3
                try clear hx279_0
                try clear hx279_1
                try clear hx279_2
                try clear hx279_3
                try clear hx280_0
                try clear hx280_1
                try clear hx280_2
                try clear hx280_3
                try clear hx281_0
                try clear hx281_1
                try clear hx281_2
                try clear hx281_3
                try clear hx283_0
                try clear hx283_1
                try clear p2
                try clear p27
                try clear p275
                try clear p279
                try clear p28
                try clear p280
                try clear p281
                try clear p283
                try clear p6
                try clear q2
                try clear q27
                try clear q275
                try clear q279
                try clear q28
                try clear q280
                try clear q281
                try clear q283
                obtain ⟨kq, x90_38, rfl, HA, HJ38, BK282, BK284, HB⟩ := hcut
                cases kq with
                | zero => exact absurd HA.out (by simp [impl_IsHistory.j5])
                | succ kj38 =>
                 have H := HA.out
                 clear HA
                 simp only [impl_IsHistory.j5] at H
                 by_cases c54 : x90_38 = true
                 ·subst c54
                  have H1 : (some false) = some r := by rw [if_pos rfl] at H; exact H
                  clear H
                  have H := H1
                  clear H1
                  obtain rfl := Option.some.inj H
                  go_wp2
                  repeat (go_quiet (fail); try go_wp2)
                  go_ret
                  exact ⟨by first | rfl | (simp [errW_none, errW_some] <;> rfl) | (simp [*, errW_none, errW_some] <;> rfl), by repeat (first | (with_reducible first | exact HB.out | apply below_alloc | apply pw_below_drewN | apply below_drew1 | refine below_set ?_ GE282.out | refine below_set ?_ GE284.out) | exact HB.out)⟩
                 ·replace c54 := Bool.eq_false_iff.mpr c54
                  subst c54
                  have H1 : (impl_IsHistory.l2 kj38 l0 l0 (l0.length : Int) x64_2 ((rd_T126 l0 x64_2).f2) (((rd_T126 l0 x64_2).f2).length : Int) (wrap64 (x71_3 + 1)) ((rd_T126 l0 x64_2).f0) ((rd_T126 l0 x64_2).f1) ((rd_T126 l0 x64_2).f2) ((rd_T126 l0 x64_2).f3)) = some r := by rw [if_neg (show ¬ (false = true) by decide)] at H; exact H
                  clear H
                  have H := H1
                  clear H1
                  have H' := Aside0.mk H
                  clear H
                  go_wp2
                  repeat (go_quiet (fail); try go_wp2)
                  go_roundg kj38
                  case measure => have := HK1.out; have := HK2.out; have := HK3.out; have := HJ38.out; omega
                  case rel => exact ⟨(wrap64 (x71_3 + 1)), (by first | rfl | (simp; done) | (simp [*]; done)), H', ⟨by have := HK1.out; have := HK2.out; have := HK3.out; have := HJ38.out; omega⟩, ⟨by (with_reducible repeat (first | refine blk_drewN ?_ _ | refine blk_drew ?_ | refine blk_alloc ?_ _)); exact BK282.out⟩, ⟨by repeat (first | (with_reducible first | exact HB.out | apply below_alloc | apply pw_below_drewN | apply below_drew1 | refine below_set ?_ GE282.out | refine below_set ?_ GE284.out) | exact HB.out)⟩⟩
              ·rw [if_neg c37] at H
               exact absurd H (by simp)
             ·rw [if_neg c36] at H
              exact absurd H (by simp)
            ·rw [if_neg c35] at H
             have c35b0 : decide (x71_3 < (((rd_T126 l0 x64_2).f2).length : Int)) = false := decide_eq_false c35
             clear c35
             have H' := Aside0.mk H
             clear H
             go_wp2
             repeat (go_quiet (fail); try go_wp2)
             go_roundg k3
             case measure => have := HK1.out; have := HK2.out; have := HK3.out; omega
             case rel => exact ⟨(wrap64 (x64_2 + 1)), (by first | rfl | (simp; done) | (simp [*]; done)), H', ⟨by have := HK1.out; have := HK2.out; have := HK3.out; omega⟩, ⟨by repeat (first | (with_reducible first | exact HB.out | apply below_alloc | apply pw_below_drewN | apply below_drew1 | refine below_set ?_ GE282.out) | exact HB.out)⟩⟩
         ·rw [if_neg c32] at H
          exact absurd H (by simp)
        ·rw [if_neg c31] at H
         exact absurd H (by simp)
       ·rw [if_neg c30] at H
        have c30b0 : decide (x64_2 < (l0.length : Int)) = false := decide_eq_false c30
        clear c30
        obtain rfl := Option.some.inj H
        go_wp2
        repeat (go_quiet (fail); try go_wp2)
        go_ret
        exact ⟨by first | rfl | (simp [errW_none, errW_some] <;> rfl) | (simp [*, errW_none, errW_some] <;> rfl), by repeat (first | (with_reducible first | exact HB.out | apply below_alloc | apply pw_below_drewN | apply below_drew1) | exact HB.out)⟩

end Go.Proofs.Ytpiaeinfneoioaa.PFnExactIsHistory
