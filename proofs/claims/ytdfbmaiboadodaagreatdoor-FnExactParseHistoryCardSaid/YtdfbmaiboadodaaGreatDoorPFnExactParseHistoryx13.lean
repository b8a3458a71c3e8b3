-- Printed by wip/myprint.py.
import Derived.Test.YtdfbmaiboadodaaGreatDoorPFnExactParseHistoryx12
namespace Go.Proofs.YtdfbmaiboadodaaGreatDoor.PFnExactParseHistory
open Go.RowKit Go.Proofs.YtdfbmaiboadodaaGreatDoorW.PrintWords Go.Proofs.YtdfbmaiboadodaaGreatDoorW.PrintLast Go.Proofs.YtdfbmaiboadodaaGreatDoorW.PrintMore
set_option maxHeartbeats 8000000
set_option maxRecDepth 100000
set_option linter.unusedVariables false
set_option linter.unusedSimpArgs false

/-! ### impl_IsHistory: function 33 -/
mutual
def impl_IsHistory.l0 : Nat → List (S33) → List (S33) → Int → Int → Option (Bool)
 | 0, _, _, _, _ => none
 | k + 1, x0, x13, x14, x15 => if x15 < x14 then (if 0 ≤ x15 then (if x15 < (x13.length : Int) then ((impl_isEntry.f k ((rd_T33 x13 x15).f0) ((rd_T33 x13 x15).f1) ((rd_T33 x13 x15).f2) ((rd_T33 x13 x15).f3)).bind fun t357 => (if t357 = true then ((impl_FindEntry.f k x0 ((rd_T33 x13 x15).f0)).bind fun t358 => (impl_IsHistory.j1 k x0 x15 x13 x14 (t358 != x15) ((rd_T33 x13 x15).f0) ((rd_T33 x13 x15).f1) ((rd_T33 x13 x15).f2) ((rd_T33 x13 x15).f3))) else (impl_IsHistory.j1 k x0 x15 x13 x14 true ((rd_T33 x13 x15).f0) ((rd_T33 x13 x15).f1) ((rd_T33 x13 x15).f2) ((rd_T33 x13 x15).f3)))) else (none)) else (none)) else (impl_IsHistory.l1 k x0 x0 (x0.length : Int) 0)
def impl_IsHistory.j1 : Nat → List (S33) → Int → List (S33) → Int → Bool → Int → Int → List (S48) → List (S50) → Option (Bool)
 | 0, _, _, _, _, _, _, _, _, _ => none
 | k + 1, x0, x3, x13, x14, x30, x357000, x357001, x357002, x357003 => if x30 = true then (some false) else (if x3 > 0 then (if 0 ≤ (wrap64 (x3 - 1)) then (if (wrap64 (x3 - 1)) < (x0.length : Int) then (if x357001 < ((rd_T33 x0 (wrap64 (x3 - 1))).f1) then (impl_IsHistory.j2 k x0 x3 x13 x14 true) else (if x357001 = ((rd_T33 x0 (wrap64 (x3 - 1))).f1) then (impl_IsHistory.j2 k x0 x3 x13 x14 (decide ((x357003.length : Int) > 0))) else (impl_IsHistory.j2 k x0 x3 x13 x14 false))) else (none)) else (none)) else (impl_IsHistory.j2 k x0 x3 x13 x14 false))
def impl_IsHistory.j2 : Nat → List (S33) → Int → List (S33) → Int → Bool → Option (Bool)
 | 0, _, _, _, _, _ => none
 | k + 1, x0, x3, x13, x14, x60 => if x60 = true then (some false) else (impl_IsHistory.l0 k x0 x13 x14 (wrap64 (x3 + 1)))
def impl_IsHistory.l1 : Nat → List (S33) → List (S33) → Int → Int → Option (Bool)
 | 0, _, _, _, _ => none
 | k + 1, x0, x62, x63, x64 => if x64 < x63 then (if 0 ≤ x64 then (if x64 < (x62.length : Int) then (impl_IsHistory.l2 k x0 x62 x63 x64 ((rd_T33 x62 x64).f2) (((rd_T33 x62 x64).f2).length : Int) 0 ((rd_T33 x62 x64).f0) ((rd_T33 x62 x64).f1) ((rd_T33 x62 x64).f2) ((rd_T33 x62 x64).f3)) else (none)) else (none)) else (some true)
def impl_IsHistory.l2 : Nat → List (S33) → List (S33) → Int → Int → List (S48) → Int → Int → Int → Int → List (S48) → List (S50) → Option (Bool)
 | 0, _, _, _, _, _, _, _, _, _, _, _ => none
 | k + 1, x0, x62, x63, x64, x69, x70, x71, x363000, x363001, x363002, x363003 => if x71 < x70 then (if 0 ≤ x71 then (if x71 < (x69.length : Int) then ((impl_WriterOf.f k x0 ((rd_T48 x69 x71).f0) ((rd_T48 x69 x71).f1)).bind fun t365 => (if t365 = x363000 then (impl_IsHistory.j5 k x0 x62 x63 x64 x69 x70 x71 true x363000 x363001 x363002 x363003) else (if ((rd_T48 x69 x71).f1) > 0 then (impl_IsHistory.j5 k x0 x62 x63 x64 x69 x70 x71 (t365 == 0) x363000 x363001 x363002 x363003) else (impl_IsHistory.j5 k x0 x62 x63 x64 x69 x70 x71 false x363000 x363001 x363002 x363003)))) else (none)) else (none)) else (impl_IsHistory.l1 k x0 x62 x63 (wrap64 (x64 + 1)))
def impl_IsHistory.j5 : Nat → List (S33) → List (S33) → Int → Int → List (S48) → Int → Int → Bool → Int → Int → List (S48) → List (S50) → Option (Bool)
 | 0, _, _, _, _, _, _, _, _, _, _, _, _ => none
 | k + 1, x0, x62, x63, x64, x69, x70, x71, x90, x363000, x363001, x363002, x363003 => if x90 = true then (some false) else (impl_IsHistory.l2 k x0 x62 x63 x64 x69 x70 (wrap64 (x71 + 1)) x363000 x363001 x363002 x363003)
end
def impl_IsHistory.f (k : Nat) (l0 : List (S33)) : Option (Bool) := if (l0.length : Int) > 9 then (some false) else (impl_IsHistory.l0 k l0 l0 (l0.length : Int) 0)
theorem impl_IsHistory.mono_l : ∀ k, (∀ y0 y1 y2 y3, LeO (impl_IsHistory.l0 k y0 y1 y2 y3) (impl_IsHistory.l0 (k + 1) y0 y1 y2 y3)) ∧ (∀ y0 y1 y2 y3 y4 y5 y6 y7 y8, LeO (impl_IsHistory.j1 k y0 y1 y2 y3 y4 y5 y6 y7 y8) (impl_IsHistory.j1 (k + 1) y0 y1 y2 y3 y4 y5 y6 y7 y8)) ∧ (∀ y0 y1 y2 y3 y4, LeO (impl_IsHistory.j2 k y0 y1 y2 y3 y4) (impl_IsHistory.j2 (k + 1) y0 y1 y2 y3 y4)) ∧ (∀ y0 y1 y2 y3, LeO (impl_IsHistory.l1 k y0 y1 y2 y3) (impl_IsHistory.l1 (k + 1) y0 y1 y2 y3)) ∧ (∀ y0 y1 y2 y3 y4 y5 y6 y7 y8 y9 y10, LeO (impl_IsHistory.l2 k y0 y1 y2 y3 y4 y5 y6 y7 y8 y9 y10) (impl_IsHistory.l2 (k + 1) y0 y1 y2 y3 y4 y5 y6 y7 y8 y9 y10)) ∧ (∀ y0 y1 y2 y3 y4 y5 y6 y7 y8 y9 y10 y11, LeO (impl_IsHistory.j5 k y0 y1 y2 y3 y4 y5 y6 y7 y8 y9 y10 y11) (impl_IsHistory.j5 (k + 1) y0 y1 y2 y3 y4 y5 y6 y7 y8 y9 y10 y11))
 | 0 => ⟨fun _ _ _ _ r h => by simp [impl_IsHistory.l0] at h, fun _ _ _ _ _ _ _ _ _ r h => by simp [impl_IsHistory.j1] at h, fun _ _ _ _ _ r h => by simp [impl_IsHistory.j2] at h, fun _ _ _ _ r h => by simp [impl_IsHistory.l1] at h, fun _ _ _ _ _ _ _ _ _ _ _ r h => by simp [impl_IsHistory.l2] at h, fun _ _ _ _ _ _ _ _ _ _ _ _ r h => by simp [impl_IsHistory.j5] at h⟩
 | k + 1 => by
  obtain ⟨ih0, ih1, ih2, ih3, ih4, ih5⟩ := impl_IsHistory.mono_l k
  refine ⟨?_, ?_, ?_, ?_, ?_, ?_⟩
  ·intro y0 y1 y2 y3
   unfold impl_IsHistory.l0
   repeat' first
   | (with_reducible exact ih0 _ _ _ _)
   | (with_reducible exact ih1 _ _ _ _ _ _ _ _ _)
   | (with_reducible exact ih2 _ _ _ _ _)
   | (with_reducible exact ih3 _ _ _ _)
   | (with_reducible exact ih4 _ _ _ _ _ _ _ _ _ _ _)
   | (with_reducible exact ih5 _ _ _ _ _ _ _ _ _ _ _ _)
   | (with_reducible exact impl_FindEntry.mono _ _ _)
   | (with_reducible exact impl_WriterOf.mono _ _ _ _)
   | (with_reducible exact impl_isEntry.mono _ _ _ _ _)
   | (with_reducible first | exact LeO.refl _ | exact LeO.none _ | refine LeO.ite ?_ ?_ | refine LeO.bind ?_ (fun _ => ?_))
   | exact ih0 _ _ _ _
   | exact ih1 _ _ _ _ _ _ _ _ _
   | exact ih2 _ _ _ _ _
   | exact ih3 _ _ _ _
   | exact ih4 _ _ _ _ _ _ _ _ _ _ _
   | exact ih5 _ _ _ _ _ _ _ _ _ _ _ _
   | exact impl_FindEntry.mono _ _ _
   | exact impl_WriterOf.mono _ _ _ _
   | exact impl_isEntry.mono _ _ _ _ _
   | exact LeO.none _ | refine LeO.ite ?_ ?_ | refine LeO.bind ?_ (fun _ => ?_)
  ·intro y0 y1 y2 y3 y4 y5 y6 y7 y8
   unfold impl_IsHistory.j1
   repeat' first
   | (with_reducible exact ih0 _ _ _ _)
   | (with_reducible exact ih1 _ _ _ _ _ _ _ _ _)
   | (with_reducible exact ih2 _ _ _ _ _)
   | (with_reducible exact ih3 _ _ _ _)
   | (with_reducible exact ih4 _ _ _ _ _ _ _ _ _ _ _)
   | (with_reducible exact ih5 _ _ _ _ _ _ _ _ _ _ _ _)
   | (with_reducible exact impl_FindEntry.mono _ _ _)
   | (with_reducible exact impl_WriterOf.mono _ _ _ _)
   | (with_reducible exact impl_isEntry.mono _ _ _ _ _)
   | (with_reducible first | exact LeO.refl _ | exact LeO.none _ | refine LeO.ite ?_ ?_ | refine LeO.bind ?_ (fun _ => ?_))
   | exact ih0 _ _ _ _
   | exact ih1 _ _ _ _ _ _ _ _ _
   | exact ih2 _ _ _ _ _
   | exact ih3 _ _ _ _
   | exact ih4 _ _ _ _ _ _ _ _ _ _ _
   | exact ih5 _ _ _ _ _ _ _ _ _ _ _ _
   | exact impl_FindEntry.mono _ _ _
   | exact impl_WriterOf.mono _ _ _ _
   | exact impl_isEntry.mono _ _ _ _ _
   | exact LeO.none _ | refine LeO.ite ?_ ?_ | refine LeO.bind ?_ (fun _ => ?_)
  ·intro y0 y1 y2 y3 y4
   unfold impl_IsHistory.j2
   repeat' first
   | (with_reducible exact ih0 _ _ _ _)
   | (with_reducible exact ih1 _ _ _ _ _ _ _ _ _)
   | (with_reducible exact ih2 _ _ _ _ _)
   | (with_reducible exact ih3 _ _ _ _)
   | (with_reducible exact ih4 _ _ _ _ _ _ _ _ _ _ _)
   | (with_reducible exact ih5 _ _ _ _ _ _ _ _ _ _ _ _)
   | (with_reducible exact impl_FindEntry.mono _ _ _)
   | (with_reducible exact impl_WriterOf.mono _ _ _ _)
   | (with_reducible exact impl_isEntry.mono _ _ _ _ _)
   | (with_reducible first | exact LeO.refl _ | exact LeO.none _ | refine LeO.ite ?_ ?_ | refine LeO.bind ?_ (fun _ => ?_))
   | exact ih0 _ _ _ _
   | exact ih1 _ _ _ _ _ _ _ _ _
   | exact ih2 _ _ _ _ _
   | exact ih3 _ _ _ _
   | exact ih4 _ _ _ _ _ _ _ _ _ _ _
   | exact ih5 _ _ _ _ _ _ _ _ _ _ _ _
   | exact impl_FindEntry.mono _ _ _
   | exact impl_WriterOf.mono _ _ _ _
   | exact impl_isEntry.mono _ _ _ _ _
   | exact LeO.none _ | refine LeO.ite ?_ ?_ | refine LeO.bind ?_ (fun _ => ?_)
  ·intro y0 y1 y2 y3
   unfold impl_IsHistory.l1
   repeat' first
   | (with_reducible exact ih0 _ _ _ _)
   | (with_reducible exact ih1 _ _ _ _ _ _ _ _ _)
   | (with_reducible exact ih2 _ _ _ _ _)
   | (with_reducible exact ih3 _ _ _ _)
   | (with_reducible exact ih4 _ _ _ _ _ _ _ _ _ _ _)
   | (with_reducible exact ih5 _ _ _ _ _ _ _ _ _ _ _ _)
   | (with_reducible exact impl_FindEntry.mono _ _ _)
   | (with_reducible exact impl_WriterOf.mono _ _ _ _)
   | (with_reducible exact impl_isEntry.mono _ _ _ _ _)
   | (with_reducible first | exact LeO.refl _ | exact LeO.none _ | refine LeO.ite ?_ ?_ | refine LeO.bind ?_ (fun _ => ?_))
   | exact ih0 _ _ _ _
   | exact ih1 _ _ _ _ _ _ _ _ _
   | exact ih2 _ _ _ _ _
   | exact ih3 _ _ _ _
   | exact ih4 _ _ _ _ _ _ _ _ _ _ _
   | exact ih5 _ _ _ _ _ _ _ _ _ _ _ _
   | exact impl_FindEntry.mono _ _ _
   | exact impl_WriterOf.mono _ _ _ _
   | exact impl_isEntry.mono _ _ _ _ _
   | exact LeO.none _ | refine LeO.ite ?_ ?_ | refine LeO.bind ?_ (fun _ => ?_)
  ·intro y0 y1 y2 y3 y4 y5 y6 y7 y8 y9 y10
   unfold impl_IsHistory.l2
   repeat' first
   | (with_reducible exact ih0 _ _ _ _)
   | (with_reducible exact ih1 _ _ _ _ _ _ _ _ _)
   | (with_reducible exact ih2 _ _ _ _ _)
   | (with_reducible exact ih3 _ _ _ _)
   | (with_reducible exact ih4 _ _ _ _ _ _ _ _ _ _ _)
   | (with_reducible exact ih5 _ _ _ _ _ _ _ _ _ _ _ _)
   | (with_reducible exact impl_FindEntry.mono _ _ _)
   | (with_reducible exact impl_WriterOf.mono _ _ _ _)
   | (with_reducible exact impl_isEntry.mono _ _ _ _ _)
   | (with_reducible first | exact LeO.refl _ | exact LeO.none _ | refine LeO.ite ?_ ?_ | refine LeO.bind ?_ (fun _ => ?_))
   | exact ih0 _ _ _ _
   | exact ih1 _ _ _ _ _ _ _ _ _
   | exact ih2 _ _ _ _ _
   | exact ih3 _ _ _ _
   | exact ih4 _ _ _ _ _ _ _ _ _ _ _
   | exact ih5 _ _ _ _ _ _ _ _ _ _ _ _
   | exact impl_FindEntry.mono _ _ _
   | exact impl_WriterOf.mono _ _ _ _
   | exact impl_isEntry.mono _ _ _ _ _
   | exact LeO.none _ | refine LeO.ite ?_ ?_ | refine LeO.bind ?_ (fun _ => ?_)
  ·intro y0 y1 y2 y3 y4 y5 y6 y7 y8 y9 y10 y11
   unfold impl_IsHistory.j5
   repeat' first
   | (with_reducible exact ih0 _ _ _ _)
   | (with_reducible exact ih1 _ _ _ _ _ _ _ _ _)
   | (with_reducible exact ih2 _ _ _ _ _)
   | (with_reducible exact ih3 _ _ _ _)
   | (with_reducible exact ih4 _ _ _ _ _ _ _ _ _ _ _)
   | (with_reducible exact ih5 _ _ _ _ _ _ _ _ _ _ _ _)
   | (with_reducible exact impl_FindEntry.mono _ _ _)
   | (with_reducible exact impl_WriterOf.mono _ _ _ _)
   | (with_reducible exact impl_isEntry.mono _ _ _ _ _)
   | (with_reducible first | exact LeO.refl _ | exact LeO.none _ | refine LeO.ite ?_ ?_ | refine LeO.bind ?_ (fun _ => ?_))
   | exact ih0 _ _ _ _
   | exact ih1 _ _ _ _ _ _ _ _ _
   | exact ih2 _ _ _ _ _
   | exact ih3 _ _ _ _
   | exact ih4 _ _ _ _ _ _ _ _ _ _ _
   | exact ih5 _ _ _ _ _ _ _ _ _ _ _ _
   | exact impl_FindEntry.mono _ _ _
   | exact impl_WriterOf.mono _ _ _ _
   | exact impl_isEntry.mono _ _ _ _ _
   | exact LeO.none _ | refine LeO.ite ?_ ?_ | refine LeO.bind ?_ (fun _ => ?_)
theorem impl_IsHistory.mono : ∀ a0 k, LeO (impl_IsHistory.f k a0) (impl_IsHistory.f (k + 1) a0) := by
 intro a0 k
 obtain ⟨ih0, ih1, ih2, ih3, ih4, ih5⟩ := impl_IsHistory.mono_l k
 unfold impl_IsHistory.f
 repeat' first
   | (with_reducible exact ih0 _ _ _ _)
   | (with_reducible exact ih1 _ _ _ _ _ _ _ _ _)
   | (with_reducible exact ih2 _ _ _ _ _)
   | (with_reducible exact ih3 _ _ _ _)
   | (with_reducible exact ih4 _ _ _ _ _ _ _ _ _ _ _)
   | (with_reducible exact ih5 _ _ _ _ _ _ _ _ _ _ _ _)
   | (with_reducible exact impl_FindEntry.mono _ _ _)
   | (with_reducible exact impl_WriterOf.mono _ _ _ _)
   | (with_reducible exact impl_isEntry.mono _ _ _ _ _)
   | (with_reducible first | exact LeO.refl _ | exact LeO.none _ | refine LeO.ite ?_ ?_ | refine LeO.bind ?_ (fun _ => ?_))
   | exact ih0 _ _ _ _
   | exact ih1 _ _ _ _ _ _ _ _ _
   | exact ih2 _ _ _ _ _
   | exact ih3 _ _ _ _
   | exact ih4 _ _ _ _ _ _ _ _ _ _ _
   | exact ih5 _ _ _ _ _ _ _ _ _ _ _ _
   | exact impl_FindEntry.mono _ _ _
   | exact impl_WriterOf.mono _ _ _ _
   | exact impl_isEntry.mono _ _ _ _ _
   | exact LeO.none _ | refine LeO.ite ?_ ?_ | refine LeO.bind ?_ (fun _ => ?_)
theorem impl_IsHistory.calls (k : Nat) (A0 : Option Addr) (c0 : Nat) (l0 : List (S33)) (r : Bool) (w : World) (hr0 : Kd.C k33 w A0 l0.length l0) (hc0 : l0.length ≤ c0) (h : impl_IsHistory.f k l0 = some r) :
  Calls Tryz.prog 33 #[.slice A0 l0.length c0] w fun e w' => e = .returned (.bool r) ∧ Below w.heap.size w w' := by
 have hu33 := Tryz.underlying33
 have hu48 := Tryz.underlying48
 have HR0 := AM_ hr0
 have HC0 := AM_ hc0
 clear hr0 hc0
 have HB := AM_ (Below.refl w.heap.size w)
 have H : (if (l0.length : Int) > 9 then (some false) else (impl_IsHistory.l0 k l0 l0 (l0.length : Int) 0)) = some r := h
 clear h
 by_cases c2 : (l0.length : Int) > 9
 ·rw [if_pos c2] at H
  have c2b0 : decide (9 < (l0.length : Int)) = true := decide_eq_true c2
  have c2b1 : decide (9 < l0.length) = true := decide_eq_true (by omega)
  clear c2
  obtain rfl := Option.some.inj H
  go_enter Tryz.func33, Tryz.ntmps33
  go_wp2
  repeat (go_quiet (fail); try go_wp2)
  go_ret
  exact QT (BT HB.out)
 rw [if_neg c2] at H
 have c2b0 : decide (9 < (l0.length : Int)) = false := decide_eq_false c2
 have c2b1 : decide (9 < l0.length) = false := decide_eq_false (by omega)
 clear c2
 have H' := AM_ H
 clear H
 go_enter Tryz.func33, Tryz.ntmps33
 go_wp2
 repeat (go_quiet (fail); try go_wp2)
 go_loopg [15] k (fun kq v15 w' => ∃ (x15_1 : Int), v15 = .int .i64 x15_1 ∧ Aside0 (impl_IsHistory.l0 kq l0 l0 (l0.length : Int) x15_1 = some r) ∧ Aside0 (kq ≤ k) ∧ Aside0 (Below w.heap.size w w'))
 case atStart => exact ⟨(0), (by first | rfl | (simp; done) | (simp [*]; done)), H', ⟨Nat.le_refl _⟩, ⟨BT HB.out⟩⟩
 case round =>
  clear H'
  try clear c2
  try clear c2b0
  try clear c2b1
  try clear p2
  obtain ⟨x15_1, rfl, HA, HK1, HB⟩ := hrel
  cases gk with
  | zero => exact absurd HA.out (by simp [impl_IsHistory.l0])
  | succ k1 =>
   have H := HA.out
   clear HA
   simp only [impl_IsHistory.l0] at H
   by_cases c3 : x15_1 < (l0.length : Int)
   ·rw [if_pos c3] at H
    have c3b0 : decide (x15_1 < (l0.length : Int)) = true := decide_eq_true c3
    clear c3
    replace H := HI H
    obtain ⟨c4, H⟩ := H
    have c4b0 : decide (0 ≤ x15_1) = true := decide_eq_true c4
    clear c4
    replace H := HI H
    obtain ⟨c5, H⟩ := H
    have c5b0 : decide (x15_1 < (l0.length : Int)) = true := decide_eq_true c5
    clear c5
    have HC6 := AM_ H
    clear H
    have p355 : 0 ≤ (x15_1 : Int) := DT
    have q355 : x15_1 < (l0.length : Int) := DT
    obtain ⟨ad355, A355_2, c355_2, A355_3, c355_3, e355, hx355_0, hx355_1, hx355_2, hx355_3, hl355_2, hi355_2, hl355_3, hi355_3⟩ := at_T33 HR0.out x15_1 p355 q355
    cases e355
    replace hx355_0 := BC HB.out hx355_0
    replace hx355_1 := BC HB.out hx355_1
    replace hx355_2 := BC HB.out hx355_2
    replace hx355_3 := BC HB.out hx355_3
    have HR355_2 := AM_ hi355_2
    have HC355_2 := AM_ hl355_2
    clear hi355_2 hl355_2
    have HR355_3 := AM_ hi355_3
    have HC355_3 := AM_ hl355_3
    clear hi355_3 hl355_3
    replace p355 := eq_true p355
    replace q355 := eq_true q355
    go_upto_region 6 with (first | ((with_reducible refine gate_dst (N := 4) rfl ?_); (try (refine gate_guard (by rfl) ?_; dsimp only)); refine box_event ?hg (N := 4) ?hd (cs := #[.int .i64 0, .int .i64 0, .slice none 0 0, .slice none 0 0]) (t := 33) ?hr ?_; (case hd => rfl); (case hg => rfl); (case hr => first | (go_simp; done) | (go_simp; rfl)); intro gb356 hg w7 hbox hb; have BK356 := AM_ (hbox); have GW356 := AM_ ((GS HB.out hg)); have GE356 := AM_ ((GS HB.out hg)); replace HB := AM_ (below_step (BT HB.out) hb); clear hb hbox hg; obtain ⟨hcz8_0, hcz8_1, hcz8_2, hcz8_3, hfz8_0, hfz8_1, hfz8_2, hfz8_3⟩ := bk4 BK356.out))
    repeat (go_quiet (first | ((with_reducible refine gate_dst (N := 4) rfl ?_); (try (refine gate_guard (by rfl) ?_; dsimp only)); refine box_event ?hg (N := 4) ?hd (cs := #[.int .i64 0, .int .i64 0, .slice none 0 0, .slice none 0 0]) (t := 33) ?hr ?_; (case hd => rfl); (case hg => rfl); (case hr => first | (go_simp; done) | (go_simp; rfl)); intro gb356 hg w7 hbox hb; have BK356 := AM_ (hbox); have GW356 := AM_ ((GS HB.out hg)); have GE356 := AM_ ((GS HB.out hg)); replace HB := AM_ (below_step (BT HB.out) hb); clear hb hbox hg; obtain ⟨hcz8_0, hcz8_1, hcz8_2, hcz8_3, hfz8_0, hfz8_1, hfz8_2, hfz8_3⟩ := bk4 BK356.out)); go_upto_region 6 with (first | ((with_reducible refine gate_dst (N := 4) rfl ?_); (try (refine gate_guard (by rfl) ?_; dsimp only)); refine box_event ?hg (N := 4) ?hd (cs := #[.int .i64 0, .int .i64 0, .slice none 0 0, .slice none 0 0]) (t := 33) ?hr ?_; (case hd => rfl); (case hg => rfl); (case hr => first | (go_simp; done) | (go_simp; rfl)); intro gb356 hg w7 hbox hb; have BK356 := AM_ (hbox); have GW356 := AM_ ((GS HB.out hg)); have GE356 := AM_ ((GS HB.out hg)); replace HB := AM_ (below_step (BT HB.out) hb); clear hb hbox hg; obtain ⟨hcz8_0, hcz8_1, hcz8_2, hcz8_3, hfz8_0, hfz8_1, hfz8_2, hfz8_3⟩ := bk4 BK356.out)))
    (try simp only [pA, pS, pZ, pK])
    go_cut [30] (fun v30 wc => ∃ (kq : Nat) (x30_5 : Bool), v30 = .bool x30_5 ∧ Aside0 (impl_IsHistory.j1 kq l0 x15_1 l0 (l0.length : Int) x30_5 ((rd_T33 l0 x15_1).f0) ((rd_T33 l0 x15_1).f1) ((rd_T33 l0 x15_1).f2) ((rd_T33 l0 x15_1).f3) = some r) ∧ Aside0 (kq ≤ k1) ∧ Aside0 (wc.heap[gb356]? = some (.cells #[.int .i64 ((rd_T33 l0 x15_1).f0), .int .i64 ((rd_T33 l0 x15_1).f1), (.slice A355_2 ((rd_T33 l0 x15_1).f2).length c355_2), (.slice A355_3 ((rd_T33 l0 x15_1).f3).length c355_3)] 33 (0, 0))) ∧ Aside0 (Below w.heap.size w wc))
    case first =>
     have H := HC6.out
     clear HC6
     replace H := Option.bind_eq_some_iff.mp H
     obtain ⟨t357, A90, H⟩ := H
     replace H : (if t357 = true then ((impl_FindEntry.f k1 l0 ((rd_T33 l0 x15_1).f0)).bind fun t358 => (impl_IsHistory.j1 k1 l0 x15_1 l0 (l0.length : Int) (t358 != x15_1) ((rd_T33 l0 x15_1).f0) ((rd_T33 l0 x15_1).f1) ((rd_T33 l0 x15_1).f2) ((rd_T33 l0 x15_1).f3))) else (impl_IsHistory.j1 k1 l0 x15_1 l0 (l0.length : Int) true ((rd_T33 l0 x15_1).f0) ((rd_T33 l0 x15_1).f1) ((rd_T33 l0 x15_1).f2) ((rd_T33 l0 x15_1).f3))) = some r := H
     have A9 := AM_ A90
     clear A90
     by_cases c10 : t357 = true
     rotate_left
     ·replace c10 := Bool.eq_false_iff.mpr c10
      subst c10
      have H1 : (impl_IsHistory.j1 k1 l0 x15_1 l0 (l0.length : Int) true ((rd_T33 l0 x15_1).f0) ((rd_T33 l0 x15_1).f1) ((rd_T33 l0 x15_1).f2) ((rd_T33 l0 x15_1).f3)) = some r := by rw [if_neg (show ¬ (false = true) by decide)] at H; exact H
      clear H
      have H := H1
      clear H1
      have H' := AM_ H
      clear H
      obtain ⟨hcz16_0, hcz16_1, hcz16_2, hcz16_3, hfz16_0, hfz16_1, hfz16_2, hfz16_3⟩ := bk4 BK356.out
      go_wp2_with (first | (go_at_call 50; (with_reducible refine (impl_isEntry.calls k1 ((rd_T33 l0 x15_1).f0) ((rd_T33 l0 x15_1).f1) _ _ ((rd_T33 l0 x15_1).f2) _ _ ((rd_T33 l0 x15_1).f3) false _ ?side1 ?side2 ?side3 ?side4 A9.out).mono ?_); (case side1 => exact Kd.C_below HR355_2.out (BT HB.out)); (case side2 => exact HC355_2.out); (case side3 => exact Kd.C_below HR355_3.out (BT HB.out)); (case side4 => exact HC355_3.out); rintro e w17 ⟨rfl, hb⟩; replace BK356 := AM_ (BP #[.int .i64 ((rd_T33 l0 x15_1).f0), .int .i64 ((rd_T33 l0 x15_1).f1), .slice A355_2 ((rd_T33 l0 x15_1).f2).length c355_2, .slice A355_3 ((rd_T33 l0 x15_1).f3).length c355_3] BK356.out hb); replace HB := AM_ (below_step (BT HB.out) hb); (try clear hb); (try clear hb2); (try clear hk); (try clear hi)))
      repeat (go_quiet (first | (go_at_call 50; (with_reducible refine (impl_isEntry.calls k1 ((rd_T33 l0 x15_1).f0) ((rd_T33 l0 x15_1).f1) _ _ ((rd_T33 l0 x15_1).f2) _ _ ((rd_T33 l0 x15_1).f3) false _ ?side1 ?side2 ?side3 ?side4 A9.out).mono ?_); (case side1 => exact Kd.C_below HR355_2.out (BT HB.out)); (case side2 => exact HC355_2.out); (case side3 => exact Kd.C_below HR355_3.out (BT HB.out)); (case side4 => exact HC355_3.out); rintro e w17 ⟨rfl, hb⟩; replace BK356 := AM_ (BP #[.int .i64 ((rd_T33 l0 x15_1).f0), .int .i64 ((rd_T33 l0 x15_1).f1), .slice A355_2 ((rd_T33 l0 x15_1).f2).length c355_2, .slice A355_3 ((rd_T33 l0 x15_1).f3).length c355_3] BK356.out hb); replace HB := AM_ (below_step (BT HB.out) hb); (try clear hb); (try clear hb2); (try clear hk); (try clear hi))); try go_wp2_with (first | (go_at_call 50; (with_reducible refine (impl_isEntry.calls k1 ((rd_T33 l0 x15_1).f0) ((rd_T33 l0 x15_1).f1) _ _ ((rd_T33 l0 x15_1).f2) _ _ ((rd_T33 l0 x15_1).f3) false _ ?side1 ?side2 ?side3 ?side4 A9.out).mono ?_); (case side1 => exact Kd.C_below HR355_2.out (BT HB.out)); (case side2 => exact HC355_2.out); (case side3 => exact Kd.C_below HR355_3.out (BT HB.out)); (case side4 => exact HC355_3.out); rintro e w17 ⟨rfl, hb⟩; replace BK356 := AM_ (BP #[.int .i64 ((rd_T33 l0 x15_1).f0), .int .i64 ((rd_T33 l0 x15_1).f1), .slice A355_2 ((rd_T33 l0 x15_1).f2).length c355_2, .slice A355_3 ((rd_T33 l0 x15_1).f3).length c355_3] BK356.out hb); replace HB := AM_ (below_step (BT HB.out) hb); (try clear hb); (try clear hb2); (try clear hk); (try clear hi))))
      go_meet
      case rel => exact ⟨_, (true), (by first | rfl | (simp; done) | (simp [*]; done)), H', ⟨by have := HK1.out; first | omega | exact Nat.le_refl _⟩, ⟨BH BK356.out⟩, ⟨BT HB.out⟩⟩
     subst c10
     have H1 : ((impl_FindEntry.f k1 l0 ((rd_T33 l0 x15_1).f0)).bind fun t358 => (impl_IsHistory.j1 k1 l0 x15_1 l0 (l0.length : Int) (t358 != x15_1) ((rd_T33 l0 x15_1).f0) ((rd_T33 l0 x15_1).f1) ((rd_T33 l0 x15_1).f2) ((rd_T33 l0 x15_1).f3))) = some r := by rw [if_pos rfl] at H; exact H
     clear H
     have H := H1
     clear H1
     replace H := Option.bind_eq_some_iff.mp H
     obtain ⟨t358, A110, H⟩ := H
     replace H : (impl_IsHistory.j1 k1 l0 x15_1 l0 (l0.length : Int) (t358 != x15_1) ((rd_T33 l0 x15_1).f0) ((rd_T33 l0 x15_1).f1) ((rd_T33 l0 x15_1).f2) ((rd_T33 l0 x15_1).f3)) = some r := H
     have A11 := AM_ A110
     clear A110
     have H' := AM_ H
     clear H
     obtain ⟨hcz12_0, hcz12_1, hcz12_2, hcz12_3, hfz12_0, hfz12_1, hfz12_2, hfz12_3⟩ := bk4 BK356.out
     go_wp2_with (first | (go_at_call 50; (with_reducible refine (impl_isEntry.calls k1 ((rd_T33 l0 x15_1).f0) ((rd_T33 l0 x15_1).f1) _ _ ((rd_T33 l0 x15_1).f2) _ _ ((rd_T33 l0 x15_1).f3) true _ ?side1 ?side2 ?side3 ?side4 A9.out).mono ?_); (case side1 => exact Kd.C_below HR355_2.out (BT HB.out)); (case side2 => exact HC355_2.out); (case side3 => exact Kd.C_below HR355_3.out (BT HB.out)); (case side4 => exact HC355_3.out); rintro e w13 ⟨rfl, hb⟩; replace BK356 := AM_ (BP #[.int .i64 ((rd_T33 l0 x15_1).f0), .int .i64 ((rd_T33 l0 x15_1).f1), .slice A355_2 ((rd_T33 l0 x15_1).f2).length c355_2, .slice A355_3 ((rd_T33 l0 x15_1).f3).length c355_3] BK356.out hb); replace HB := AM_ (below_step (BT HB.out) hb); (try clear hb); (try clear hb2); (try clear hk); (try clear hi); obtain ⟨hcz14_0, hcz14_1, hcz14_2, hcz14_3, hfz14_0, hfz14_1, hfz14_2, hfz14_3⟩ := bk4 BK356.out) | (go_at_call 51; (with_reducible refine (impl_FindEntry.calls k1 _ _ l0 ((rd_T33 l0 x15_1).f0) t358 _ ?side1 ?side2 A11.out).mono ?_); (case side1 => exact CB HR0.out HB.out); (case side2 => exact HC0.out); rintro e w15 ⟨rfl, hb⟩; replace BK356 := AM_ (BB BK356.out hb); replace HB := AM_ (below_step (BT HB.out) hb); (try clear hb); (try clear hb2); (try clear hk); (try clear hi)))
     repeat (go_quiet (first | (go_at_call 50; (with_reducible refine (impl_isEntry.calls k1 ((rd_T33 l0 x15_1).f0) ((rd_T33 l0 x15_1).f1) _ _ ((rd_T33 l0 x15_1).f2) _ _ ((rd_T33 l0 x15_1).f3) true _ ?side1 ?side2 ?side3 ?side4 A9.out).mono ?_); (case side1 => exact Kd.C_below HR355_2.out (BT HB.out)); (case side2 => exact HC355_2.out); (case side3 => exact Kd.C_below HR355_3.out (BT HB.out)); (case side4 => exact HC355_3.out); rintro e w13 ⟨rfl, hb⟩; replace BK356 := AM_ (BP #[.int .i64 ((rd_T33 l0 x15_1).f0), .int .i64 ((rd_T33 l0 x15_1).f1), .slice A355_2 ((rd_T33 l0 x15_1).f2).length c355_2, .slice A355_3 ((rd_T33 l0 x15_1).f3).length c355_3] BK356.out hb); replace HB := AM_ (below_step (BT HB.out) hb); (try clear hb); (try clear hb2); (try clear hk); (try clear hi); obtain ⟨hcz14_0, hcz14_1, hcz14_2, hcz14_3, hfz14_0, hfz14_1, hfz14_2, hfz14_3⟩ := bk4 BK356.out) | (go_at_call 51; (with_reducible refine (impl_FindEntry.calls k1 _ _ l0 ((rd_T33 l0 x15_1).f0) t358 _ ?side1 ?side2 A11.out).mono ?_); (case side1 => exact CB HR0.out HB.out); (case side2 => exact HC0.out); rintro e w15 ⟨rfl, hb⟩; replace BK356 := AM_ (BB BK356.out hb); replace HB := AM_ (below_step (BT HB.out) hb); (try clear hb); (try clear hb2); (try clear hk); (try clear hi))); try go_wp2_with (first | (go_at_call 50; (with_reducible refine (impl_isEntry.calls k1 ((rd_T33 l0 x15_1).f0) ((rd_T33 l0 x15_1).f1) _ _ ((rd_T33 l0 x15_1).f2) _ _ ((rd_T33 l0 x15_1).f3) true _ ?side1 ?side2 ?side3 ?side4 A9.out).mono ?_); (case side1 => exact Kd.C_below HR355_2.out (BT HB.out)); (case side2 => exact HC355_2.out); (case side3 => exact Kd.C_below HR355_3.out (BT HB.out)); (case side4 => exact HC355_3.out); rintro e w13 ⟨rfl, hb⟩; replace BK356 := AM_ (BP #[.int .i64 ((rd_T33 l0 x15_1).f0), .int .i64 ((rd_T33 l0 x15_1).f1), .slice A355_2 ((rd_T33 l0 x15_1).f2).length c355_2, .slice A355_3 ((rd_T33 l0 x15_1).f3).length c355_3] BK356.out hb); replace HB := AM_ (below_step (BT HB.out) hb); (try clear hb); (try clear hb2); (try clear hk); (try clear hi); obtain ⟨hcz14_0, hcz14_1, hcz14_2, hcz14_3, hfz14_0, hfz14_1, hfz14_2, hfz14_3⟩ := bk4 BK356.out) | (go_at_call 51; (with_reducible refine (impl_FindEntry.calls k1 _ _ l0 ((rd_T33 l0 x15_1).f0) t358 _ ?side1 ?side2 A11.out).mono ?_); (case side1 => exact CB HR0.out HB.out); (case side2 => exact HC0.out); rintro e w15 ⟨rfl, hb⟩; replace BK356 := AM_ (BB BK356.out hb); replace HB := AM_ (below_step (BT HB.out) hb); (try clear hb); (try clear hb2); (try clear hk); (try clear hi))))
     go_meet
     case rel => exact ⟨_, ((t358 != x15_1)), (by first | rfl | (simp; done) | (simp [*]; done)), H', ⟨by have := HK1.out; first | omega | exact Nat.le_refl _⟩, ⟨BH BK356.out⟩, ⟨BT HB.out⟩⟩
    case rest =>
     clear HC6
     try clear c1
     try clear c2
     try clear c2b0
     try clear c2b1
     try clear p2
     try clear c3
     try clear c3b0
     try clear p3
     try clear q3
     try clear hx3
     try clear c4
     try clear c4b0
     try clear c5
     try clear c5b0
     try clear c10
     try clear hcz12_0
     try clear hcz12_1
     try clear hcz12_2
     try clear hcz12_3
     try clear hcz14_0
     try clear hcz14_1
     try clear hcz14_2
     try clear hcz14_3
     try clear hcz16_0
     try clear hcz16_1
     try clear hcz16_2
     try clear hcz16_3
     try clear hcz8_0
     try clear hcz8_1
     try clear hcz8_2
     try clear hcz8_3
     try clear hfz12_0
     try clear hfz12_1
     try clear hfz12_2
     try clear hfz12_3
     try clear hfz14_0
     try clear hfz14_1
     try clear hfz14_2
     try clear hfz14_3
     try clear hfz16_0
     try clear hfz16_1
     try clear hfz16_2
     try clear hfz16_3
     try clear hfz8_0
     try clear hfz8_1
     try clear hfz8_2
     try clear hfz8_3
     try clear hx355_0
     try clear hx355_1
     try clear hx355_2
     try clear hx355_3
     try clear p355
     try clear q355
     obtain ⟨kq, x30_5, rfl, HA, HJ5, BK356, HB⟩ := hcut
     cases kq with
     | zero => exact absurd HA.out (by simp [impl_IsHistory.j1])
     | succ kj5 =>
      have H := HA.out
      clear HA
      simp only [impl_IsHistory.j1] at H
      by_cases c18 : x30_5 = true
      ·subst c18
       have H1 : (some false) = some r := by rw [if_pos rfl] at H; exact H
       clear H
       have H := H1
       clear H1
       obtain rfl := Option.some.inj H
       go_wp2
       repeat (go_quiet (fail); try go_wp2)
       go_ret
       exact QT (BT HB.out)
      replace c18 := Bool.eq_false_iff.mpr c18
      subst c18
      have H1 : (if x15_1 > 0 then (if 0 ≤ (wrap64 (x15_1 - 1)) then (if (wrap64 (x15_1 - 1)) < (l0.length : Int) then (if ((rd_T33 l0 x15_1).f1) < ((rd_T33 l0 (wrap64 (x15_1 - 1))).f1) then (impl_IsHistory.j2 kj5 l0 x15_1 l0 (l0.length : Int) true) else (if ((rd_T33 l0 x15_1).f1) = ((rd_T33 l0 (wrap64 (x15_1 - 1))).f1) then (impl_IsHistory.j2 kj5 l0 x15_1 l0 (l0.length : Int) (decide ((((rd_T33 l0 x15_1).f3).length : Int) > 0))) else (impl_IsHistory.j2 kj5 l0 x15_1 l0 (l0.length : Int) false))) else (none)) else (none)) else (impl_IsHistory.j2 kj5 l0 x15_1 l0 (l0.length : Int) false)) = some r := by rw [if_neg (show ¬ (false = true) by decide)] at H; exact H
      clear H
      have H := H1
      clear H1
      have HC19 := AM_ H
      clear H
      go_upto_region 8 with (fail)
      repeat (go_quiet (fail); go_upto_region 8 with (fail))
      go_cut [60] (fun v60 wc => ∃ (kq : Nat) (x60_18 : Bool), v60 = .bool x60_18 ∧ Aside0 (impl_IsHistory.j2 kq l0 x15_1 l0 (l0.length : Int) x60_18 = some r) ∧ Aside0 (kq ≤ kj5) ∧ Aside0 (wc.heap[gb356]? = some (.cells #[.int .i64 ((rd_T33 l0 x15_1).f0), .int .i64 ((rd_T33 l0 x15_1).f1), (.slice A355_2 ((rd_T33 l0 x15_1).f2).length c355_2), (.slice A355_3 ((rd_T33 l0 x15_1).f3).length c355_3)] 33 (0, 0))) ∧ Aside0 (Below w.heap.size w wc))
      case first =>
       have H := HC19.out
       clear HC19
       by_cases c20 : x15_1 > 0
       rotate_left
       ·rw [if_neg c20] at H
        have c20b0 : decide (0 < x15_1) = false := decide_eq_false c20
        clear c20
        (first | rw [c20b0] | (simp only [i64_w, i32_w]; rw [c20b0]) | skip)
        have H' := AM_ H
        clear H
        go_wp2
        repeat (go_quiet (fail); try go_wp2)
        go_meet
        case rel => exact ⟨_, (false), (by first | rfl | (simp; done) | (simp [*]; done)), H', ⟨by have := HK1.out; have := HJ5.out; first | omega | exact Nat.le_refl _⟩, ⟨BH BK356.out⟩, ⟨BT HB.out⟩⟩
       rw [if_pos c20] at H
       have c20b0 : decide (0 < x15_1) = true := decide_eq_true c20
       clear c20
       (first | rw [c20b0] | (simp only [i64_w, i32_w]; rw [c20b0]) | skip)
       obtain ⟨ji21, hji21⟩ : ∃ j_ : Int, (wrap64 (x15_1 - 1)) = j_ := ⟨_, rfl⟩
       replace H : (if 0 ≤ (ji21) then (if (ji21) < (l0.length : Int) then (if ((rd_T33 l0 x15_1).f1) < ((rd_T33 l0 (ji21)).f1) then (impl_IsHistory.j2 kj5 l0 x15_1 l0 (l0.length : Int) true) else (if ((rd_T33 l0 x15_1).f1) = ((rd_T33 l0 (ji21)).f1) then (impl_IsHistory.j2 kj5 l0 x15_1 l0 (l0.length : Int) (decide ((((rd_T33 l0 x15_1).f3).length : Int) > 0))) else (impl_IsHistory.j2 kj5 l0 x15_1 l0 (l0.length : Int) false))) else (none)) else (none)) = some r := by first | (rw [hji21] at H; exact H) | (simp only [hji21] at H ⊢; exact H)
       have hji21w : (IntKind.i64.wrap (x15_1 - 1)) = ji21 := (i64_w _).trans hji21
       replace H := HI H
       obtain ⟨c22, H⟩ := H
       have c22b0 : decide (0 ≤ (ji21)) = true := decide_eq_true c22
       clear c22
       replace H := HI H
       obtain ⟨c23, H⟩ := H
       have c23b0 : decide ((ji21) < (l0.length : Int)) = true := decide_eq_true c23
       clear c23
       by_cases c24 : ((rd_T33 l0 x15_1).f1) < ((rd_T33 l0 (ji21)).f1)
       ·rw [if_pos c24] at H
        have c24b0 : decide (((rd_T33 l0 x15_1).f1) < ((rd_T33 l0 (ji21)).f1)) = true := decide_eq_true c24
        clear c24
        have H' := AM_ H
        clear H
        obtain ⟨hcz25_0, hcz25_1, hcz25_2, hcz25_3, hfz25_0, hfz25_1, hfz25_2, hfz25_3⟩ := bk4 BK356.out
        have p359 : 0 ≤ ((ji21) : Int) := DT
        have q359 : (ji21) < (l0.length : Int) := DT
        obtain ⟨ad359, A359_2, c359_2, A359_3, c359_3, e359, hx359_0, hx359_1, hx359_2, hx359_3, hl359_2, hi359_2, hl359_3, hi359_3⟩ := at_T33 HR0.out (ji21) p359 q359
        obtain rfl : ad355 = ad359 := (by injection e359)
        replace hx359_0 := BC HB.out hx359_0
        replace hx359_1 := BC HB.out hx359_1
        replace hx359_2 := BC HB.out hx359_2
        replace hx359_3 := BC HB.out hx359_3
        have HR359_2 := AM_ hi359_2
        have HC359_2 := AM_ hl359_2
        clear hi359_2 hl359_2
        have HR359_3 := AM_ hi359_3
        have HC359_3 := AM_ hl359_3
        clear hi359_3 hl359_3
        replace p359 := eq_true p359
        replace q359 := eq_true q359
        go_wp2
        repeat (go_quiet (fail); try go_wp2)
        go_meet
        case rel => exact ⟨_, (true), (by first | rfl | (simp; done) | (simp [*]; done)), H', ⟨by have := HK1.out; have := HJ5.out; first | omega | exact Nat.le_refl _⟩, ⟨BH BK356.out⟩, ⟨BT HB.out⟩⟩
       rw [if_neg c24] at H
       have c24b0 : decide (((rd_T33 l0 x15_1).f1) < ((rd_T33 l0 (ji21)).f1)) = false := decide_eq_false c24
       clear c24
       by_cases c26 : ((rd_T33 l0 x15_1).f1) = ((rd_T33 l0 (ji21)).f1)
       rotate_left
       ·rw [if_neg c26] at H
        have c26b0 : (((rd_T33 l0 x15_1).f1) == ((rd_T33 l0 (ji21)).f1)) = false := beq_eq_false_iff_ne.mpr c26
        have c26b1 : (((rd_T33 l0 x15_1).f1) != ((rd_T33 l0 (ji21)).f1)) = true := bne_iff_ne.mpr c26
        have H' := AM_ H
        clear H
        obtain ⟨hcz28_0, hcz28_1, hcz28_2, hcz28_3, hfz28_0, hfz28_1, hfz28_2, hfz28_3⟩ := bk4 BK356.out
        have p359 : 0 ≤ ((ji21) : Int) := DT
        have q359 : (ji21) < (l0.length : Int) := DT
        obtain ⟨ad359, A359_2, c359_2, A359_3, c359_3, e359, hx359_0, hx359_1, hx359_2, hx359_3, hl359_2, hi359_2, hl359_3, hi359_3⟩ := at_T33 HR0.out (ji21) p359 q359
        obtain rfl : ad355 = ad359 := (by injection e359)
        replace hx359_0 := BC HB.out hx359_0
        replace hx359_1 := BC HB.out hx359_1
        replace hx359_2 := BC HB.out hx359_2
        replace hx359_3 := BC HB.out hx359_3
        have HR359_2 := AM_ hi359_2
        have HC359_2 := AM_ hl359_2
        clear hi359_2 hl359_2
        have HR359_3 := AM_ hi359_3
        have HC359_3 := AM_ hl359_3
        clear hi359_3 hl359_3
        replace p359 := eq_true p359
        replace q359 := eq_true q359
        have p360 : 0 ≤ ((ji21) : Int) := DT
        have q360 : (ji21) < (l0.length : Int) := DT
        obtain ⟨ad360, A360_2, c360_2, A360_3, c360_3, e360, hx360_0, hx360_1, hx360_2, hx360_3, hl360_2, hi360_2, hl360_3, hi360_3⟩ := at_T33 HR0.out (ji21) p360 q360
        obtain rfl : ad355 = ad360 := (by injection e360)
        replace hx360_0 := BC HB.out hx360_0
        replace hx360_1 := BC HB.out hx360_1
        replace hx360_2 := BC HB.out hx360_2
        replace hx360_3 := BC HB.out hx360_3
        have HR360_2 := AM_ hi360_2
        have HC360_2 := AM_ hl360_2
        clear hi360_2 hl360_2
        have HR360_3 := AM_ hi360_3
        have HC360_3 := AM_ hl360_3
        clear hi360_3 hl360_3
        replace p360 := eq_true p360
        replace q360 := eq_true q360
        have ea_ := Option.some.inj (hx359_2.symm.trans hx360_2)
        injection ea_ with ea_ en_ ec_
        subst ea_
        subst ec_
        clear en_
        have ea_ := Option.some.inj (hx359_3.symm.trans hx360_3)
        injection ea_ with ea_ en_ ec_
        subst ea_
        subst ec_
        clear en_
        go_wp2
        repeat (go_quiet (fail); try go_wp2)
        go_meet
        case rel => exact ⟨_, (false), (by first | rfl | (simp; done) | (simp [*]; done)), H', ⟨by have := HK1.out; have := HJ5.out; first | omega | exact Nat.le_refl _⟩, ⟨BH BK356.out⟩, ⟨BT HB.out⟩⟩
       rw [if_pos c26] at H
       have c26b0 : (((rd_T33 l0 x15_1).f1) == ((rd_T33 l0 (ji21)).f1)) = true := beq_iff_eq.mpr c26
       have c26b1 : (((rd_T33 l0 x15_1).f1) != ((rd_T33 l0 (ji21)).f1)) = false := bne_eq_false_iff_eq.mpr c26
       clear c26
       have H' := AM_ H
       clear H
       obtain ⟨hcz27_0, hcz27_1, hcz27_2, hcz27_3, hfz27_0, hfz27_1, hfz27_2, hfz27_3⟩ := bk4 BK356.out
       have p359 : 0 ≤ ((ji21) : Int) := DT
       have q359 : (ji21) < (l0.length : Int) := DT
       obtain ⟨ad359, A359_2, c359_2, A359_3, c359_3, e359, hx359_0, hx359_1, hx359_2, hx359_3, hl359_2, hi359_2, hl359_3, hi359_3⟩ := at_T33 HR0.out (ji21) p359 q359
       obtain rfl : ad355 = ad359 := (by injection e359)
       replace hx359_0 := BC HB.out hx359_0
       replace hx359_1 := BC HB.out hx359_1
       replace hx359_2 := BC HB.out hx359_2
       replace hx359_3 := BC HB.out hx359_3
       have HR359_2 := AM_ hi359_2
       have HC359_2 := AM_ hl359_2
       clear hi359_2 hl359_2
       have HR359_3 := AM_ hi359_3
       have HC359_3 := AM_ hl359_3
       clear hi359_3 hl359_3
       replace p359 := eq_true p359
       replace q359 := eq_true q359
       have p360 : 0 ≤ ((ji21) : Int) := DT
       have q360 : (ji21) < (l0.length : Int) := DT
       obtain ⟨ad360, A360_2, c360_2, A360_3, c360_3, e360, hx360_0, hx360_1, hx360_2, hx360_3, hl360_2, hi360_2, hl360_3, hi360_3⟩ := at_T33 HR0.out (ji21) p360 q360
       obtain rfl : ad355 = ad360 := (by injection e360)
       replace hx360_0 := BC HB.out hx360_0
       replace hx360_1 := BC HB.out hx360_1
       replace hx360_2 := BC HB.out hx360_2
       replace hx360_3 := BC HB.out hx360_3
       have HR360_2 := AM_ hi360_2
       have HC360_2 := AM_ hl360_2
       clear hi360_2 hl360_2
       have HR360_3 := AM_ hi360_3
       have HC360_3 := AM_ hl360_3
       clear hi360_3 hl360_3
       replace p360 := eq_true p360
       replace q360 := eq_true q360
       have ea_ := Option.some.inj (hx359_2.symm.trans hx360_2)
       injection ea_ with ea_ en_ ec_
       subst ea_
       subst ec_
       clear en_
       have ea_ := Option.some.inj (hx359_3.symm.trans hx360_3)
       injection ea_ with ea_ en_ ec_
       subst ea_
       subst ec_
       clear en_
       go_wp2
       repeat (go_quiet (fail); try go_wp2)
       go_meet
       case rel => exact ⟨_, (decide ((((rd_T33 l0 x15_1).f3).length : Int) > 0)), (by first | rfl | (simp; done) | (simp [*]; done)), H', ⟨by have := HK1.out; have := HJ5.out; first | omega | exact Nat.le_refl _⟩, ⟨BH BK356.out⟩, ⟨BT HB.out⟩⟩
      case rest =>
       clear HC19
       try clear c1
       try clear c2
       try clear c2b0
       try clear c2b1
       try clear p2
       try clear c3
       try clear c3b0
       try clear p3
       try clear q3
       try clear hx3
       try clear c4
       try clear c4b0
       try clear c5
       try clear c5b0
       try clear p6
       try clear c10
       try clear c18
       try clear c20
       try clear c20b0
       try clear c22
       try clear c22b0
       try clear c23
       try clear c23b0
       try clear c24
       try clear c24b0
       try clear c26
       try clear c26b0
       try clear c26b1
       try clear hcz12_0
       try clear hcz12_1
       try clear hcz12_2
       try clear hcz12_3
       try clear hcz14_0
       try clear hcz14_1
       try clear hcz14_2
       try clear hcz14_3
       try clear hcz16_0
       try clear hcz16_1
       try clear hcz16_2
       try clear hcz16_3
       try clear hcz25_0
       try clear hcz25_1
       try clear hcz25_2
       try clear hcz25_3
       try clear hcz27_0
       try clear hcz27_1
       try clear hcz27_2
       try clear hcz27_3
       try clear hcz28_0
       try clear hcz28_1
       try clear hcz28_2
       try clear hcz28_3
       try clear hcz8_0
       try clear hcz8_1
       try clear hcz8_2
       try clear hcz8_3
       try clear hfz12_0
       try clear hfz12_1
       try clear hfz12_2
       try clear hfz12_3
       try clear hfz14_0
       try clear hfz14_1
       try clear hfz14_2
       try clear hfz14_3
       try clear hfz16_0
       try clear hfz16_1
       try clear hfz16_2
       try clear hfz16_3
       try clear hfz25_0
       try clear hfz25_1
       try clear hfz25_2
       try clear hfz25_3
       try clear hfz27_0
       try clear hfz27_1
       try clear hfz27_2
       try clear hfz27_3
       try clear hfz28_0
       try clear hfz28_1
       try clear hfz28_2
       try clear hfz28_3
       try clear hfz8_0
       try clear hfz8_1
       try clear hfz8_2
       try clear hfz8_3
       try clear hx355_0
       try clear hx355_1
       try clear hx355_2
       try clear hx355_3
       try clear hx359_0
       try clear hx359_1
       try clear hx359_2
       try clear hx359_3
       try clear hx360_0
       try clear hx360_1
       try clear hx360_2
       try clear hx360_3
       try clear p355
       try clear p359
       try clear p360
       try clear q355
       try clear q359
       try clear q360
       obtain ⟨kq, x60_18, rfl, HA, HJ18, BK356, HB⟩ := hcut
       cases kq with
       | zero => exact absurd HA.out (by simp [impl_IsHistory.j2])
       | succ kj18 =>
        have H := HA.out
        clear HA
        simp only [impl_IsHistory.j2] at H
        by_cases c29 : x60_18 = true
        ·subst c29
         have H1 : (some false) = some r := by rw [if_pos rfl] at H; exact H
         clear H
         have H := H1
         clear H1
         obtain rfl := Option.some.inj H
         go_wp2
         repeat (go_quiet (fail); try go_wp2)
         go_ret
         exact QT (BT HB.out)
        replace c29 := Bool.eq_false_iff.mpr c29
        subst c29
        have H1 : (impl_IsHistory.l0 kj18 l0 l0 (l0.length : Int) (wrap64 (x15_1 + 1))) = some r := by rw [if_neg (show ¬ (false = true) by decide)] at H; exact H
        clear H
        have H := H1
        clear H1
        have H' := AM_ H
        clear H
        go_wp2
        repeat (go_quiet (fail); try go_wp2)
        go_roundg kj18
        case measure => have := HK1.out; have := HJ5.out; have := HJ18.out; omega
        case rel => exact ⟨(wrap64 (x15_1 + 1)), (by first | rfl | (simp; done) | (simp [*]; done)), H', ⟨by have := HK1.out; have := HJ5.out; have := HJ18.out; omega⟩, ⟨BT HB.out⟩⟩
   rw [if_neg c3] at H
   have c3b0 : decide (x15_1 < (l0.length : Int)) = false := decide_eq_false c3
   clear c3
   have H' := AM_ H
   clear H
   go_wp2
   repeat (go_quiet (fail); try go_wp2)
   go_loopg [64] k1 (fun kq v64 w' => ∃ (x64_2 : Int), v64 = .int .i64 x64_2 ∧ Aside0 (impl_IsHistory.l1 kq l0 l0 (l0.length : Int) x64_2 = some r) ∧ Aside0 (kq ≤ k1) ∧ Aside0 (Below w.heap.size w w'))
   case atStart => exact ⟨(0), (by first | rfl | (simp; done) | (simp [*]; done)), H', ⟨Nat.le_refl _⟩, ⟨BT HB.out⟩⟩
   case round =>
    clear H'
    try clear c1
    try clear c2
    try clear c2b0
    try clear c2b1
    try clear p2
    try clear c3
    try clear c3b0
    try clear p3
    try clear q3
    try clear hx3
    try clear c4
    try clear c4b0
    try clear c5
    try clear c5b0
    try clear p6
    try clear c10
    try clear c18
    try clear c20
    try clear c20b0
    try clear c22
    try clear c22b0
    try clear c23
    try clear c23b0
    try clear c24
    try clear c24b0
    try clear c26
    try clear c26b0
    try clear c26b1
    try clear c29
    try clear hcz12_0
    try clear hcz12_1
    try clear hcz12_2
    try clear hcz12_3
    try clear hcz14_0
    try clear hcz14_1
    try clear hcz14_2
    try clear hcz14_3
    try clear hcz16_0
    try clear hcz16_1
    try clear hcz16_2
    try clear hcz16_3
    try clear hcz25_0
    try clear hcz25_1
    try clear hcz25_2
    try clear hcz25_3
    try clear hcz27_0
    try clear hcz27_1
    try clear hcz27_2
    try clear hcz27_3
    try clear hcz28_0
    try clear hcz28_1
    try clear hcz28_2
    try clear hcz28_3
    try clear hcz8_0
    try clear hcz8_1
    try clear hcz8_2
    try clear hcz8_3
    try clear hfz12_0
    try clear hfz12_1
    try clear hfz12_2
    try clear hfz12_3
    try clear hfz14_0
    try clear hfz14_1
    try clear hfz14_2
    try clear hfz14_3
    try clear hfz16_0
    try clear hfz16_1
    try clear hfz16_2
    try clear hfz16_3
    try clear hfz25_0
    try clear hfz25_1
    try clear hfz25_2
    try clear hfz25_3
    try clear hfz27_0
    try clear hfz27_1
    try clear hfz27_2
    try clear hfz27_3
    try clear hfz28_0
    try clear hfz28_1
    try clear hfz28_2
    try clear hfz28_3
    try clear hfz8_0
    try clear hfz8_1
    try clear hfz8_2
    try clear hfz8_3
    try clear hx355_0
    try clear hx355_1
    try clear hx355_2
    try clear hx355_3
    try clear hx359_0
    try clear hx359_1
    try clear hx359_2
    try clear hx359_3
    try clear hx360_0
    try clear hx360_1
    try clear hx360_2
    try clear hx360_3
    try clear p355
    try clear p359
    try clear p360
    try clear q355
    try clear q359
    try clear q360
    obtain ⟨x64_2, rfl, HA, HK2, HB⟩ := hrel
    cases gk with
    | zero => exact absurd HA.out (by simp [impl_IsHistory.l1])
    | succ k2 =>
     have H := HA.out
     clear HA
     simp only [impl_IsHistory.l1] at H
     by_cases c30 : x64_2 < (l0.length : Int)
     rotate_left
     ·rw [if_neg c30] at H
      have c30b0 : decide (x64_2 < (l0.length : Int)) = false := decide_eq_false c30
      clear c30
      obtain rfl := Option.some.inj H
      go_wp2
      repeat (go_quiet (fail); try go_wp2)
      go_ret
      exact QT (BT HB.out)
     rw [if_pos c30] at H
     have c30b0 : decide (x64_2 < (l0.length : Int)) = true := decide_eq_true c30
     clear c30
     replace H := HI H
     obtain ⟨c31, H⟩ := H
     have c31b0 : decide (0 ≤ x64_2) = true := decide_eq_true c31
     clear c31
     replace H := HI H
     obtain ⟨c32, H⟩ := H
     have c32b0 : decide (x64_2 < (l0.length : Int)) = true := decide_eq_true c32
     clear c32
     have H' := AM_ H
     clear H
     have p361 : 0 ≤ (x64_2 : Int) := DT
     have q361 : x64_2 < (l0.length : Int) := DT
     obtain ⟨ad361, A361_2, c361_2, A361_3, c361_3, e361, hx361_0, hx361_1, hx361_2, hx361_3, hl361_2, hi361_2, hl361_3, hi361_3⟩ := at_T33 HR0.out x64_2 p361 q361
     cases e361
     replace hx361_0 := BC HB.out hx361_0
     replace hx361_1 := BC HB.out hx361_1
     replace hx361_2 := BC HB.out hx361_2
     replace hx361_3 := BC HB.out hx361_3
     have HR361_2 := AM_ hi361_2
     have HC361_2 := AM_ hl361_2
     clear hi361_2 hl361_2
     have HR361_3 := AM_ hi361_3
     have HC361_3 := AM_ hl361_3
     clear hi361_3 hl361_3
     replace p361 := eq_true p361
     replace q361 := eq_true q361
     go_wp2_with (first | ((with_reducible refine gate_dst (N := 6) rfl ?_); (try (refine gate_guard (by rfl) ?_; dsimp only)); refine box_event ?hg (N := 6) ?hd (cs := #[.int .i64 0, .int .i64 0, .slice none 0 0, .slice none 0 0]) (t := 33) ?hr ?_; (case hd => rfl); (case hg => rfl); (case hr => first | (go_simp; done) | (go_simp; rfl)); intro gb362 hg w33 hbox hb; have BK362 := AM_ (hbox); have GW362 := AM_ ((GS HB.out hg)); have GE362 := AM_ ((GS HB.out hg)); replace HB := AM_ (below_step (BT HB.out) hb); clear hb hbox hg; obtain ⟨hcz34_0, hcz34_1, hcz34_2, hcz34_3, hfz34_0, hfz34_1, hfz34_2, hfz34_3⟩ := bk4 BK362.out))
     repeat (go_quiet (first | ((with_reducible refine gate_dst (N := 6) rfl ?_); (try (refine gate_guard (by rfl) ?_; dsimp only)); refine box_event ?hg (N := 6) ?hd (cs := #[.int .i64 0, .int .i64 0, .slice none 0 0, .slice none 0 0]) (t := 33) ?hr ?_; (case hd => rfl); (case hg => rfl); (case hr => first | (go_simp; done) | (go_simp; rfl)); intro gb362 hg w33 hbox hb; have BK362 := AM_ (hbox); have GW362 := AM_ ((GS HB.out hg)); have GE362 := AM_ ((GS HB.out hg)); replace HB := AM_ (below_step (BT HB.out) hb); clear hb hbox hg; obtain ⟨hcz34_0, hcz34_1, hcz34_2, hcz34_3, hfz34_0, hfz34_1, hfz34_2, hfz34_3⟩ := bk4 BK362.out)); try go_wp2_with (first | ((with_reducible refine gate_dst (N := 6) rfl ?_); (try (refine gate_guard (by rfl) ?_; dsimp only)); refine box_event ?hg (N := 6) ?hd (cs := #[.int .i64 0, .int .i64 0, .slice none 0 0, .slice none 0 0]) (t := 33) ?hr ?_; (case hd => rfl); (case hg => rfl); (case hr => first | (go_simp; done) | (go_simp; rfl)); intro gb362 hg w33 hbox hb; have BK362 := AM_ (hbox); have GW362 := AM_ ((GS HB.out hg)); have GE362 := AM_ ((GS HB.out hg)); replace HB := AM_ (below_step (BT HB.out) hb); clear hb hbox hg; obtain ⟨hcz34_0, hcz34_1, hcz34_2, hcz34_3, hfz34_0, hfz34_1, hfz34_2, hfz34_3⟩ := bk4 BK362.out)))
     go_loopg [71] k2 (fun kq v71 w' => ∃ (x71_3 : Int), v71 = .int .i64 x71_3 ∧ Aside0 (impl_IsHistory.l2 kq l0 l0 (l0.length : Int) x64_2 ((rd_T33 l0 x64_2).f2) (((rd_T33 l0 x64_2).f2).length : Int) x71_3 ((rd_T33 l0 x64_2).f0) ((rd_T33 l0 x64_2).f1) ((rd_T33 l0 x64_2).f2) ((rd_T33 l0 x64_2).f3) = some r) ∧ Aside0 (kq ≤ k2) ∧ Aside0 (w'.heap[gb362]? = some (.cells #[.int .i64 ((rd_T33 l0 x64_2).f0), .int .i64 ((rd_T33 l0 x64_2).f1), (.slice A361_2 ((rd_T33 l0 x64_2).f2).length c361_2), (.slice A361_3 ((rd_T33 l0 x64_2).f3).length c361_3)] 33 (0, 0))) ∧ Aside0 (Below w.heap.size w w'))
     case atStart => exact ⟨(0), (by first | rfl | (simp; done) | (simp [*]; done)), H', ⟨Nat.le_refl _⟩, ⟨BQ BK362.out⟩, ⟨BT HB.out⟩⟩
     case round =>
      clear H'
      try clear c1
      try clear c2
      try clear c2b0
      try clear c2b1
      try clear p2
      try clear c3
      try clear c3b0
      try clear p3
      try clear q3
      try clear hx3
      try clear c4
      try clear c4b0
      try clear c5
      try clear c5b0
      try clear p6
      try clear c10
      try clear c18
      try clear c20
      try clear c20b0
      try clear c22
      try clear c22b0
      try clear c23
      try clear c23b0
      try clear c24
      try clear c24b0
      try clear c26
      try clear c26b0
      try clear c26b1
      try clear c29
      try clear c30
      try clear c30b0
      try clear c31
      try clear c31b0
      try clear c32
      try clear c32b0
      try clear hcz12_0
      try clear hcz12_1
      try clear hcz12_2
      try clear hcz12_3
      try clear hcz14_0
      try clear hcz14_1
      try clear hcz14_2
      try clear hcz14_3
      try clear hcz16_0
      try clear hcz16_1
      try clear hcz16_2
      try clear hcz16_3
      try clear hcz25_0
      try clear hcz25_1
      try clear hcz25_2
      try clear hcz25_3
      try clear hcz27_0
      try clear hcz27_1
      try clear hcz27_2
      try clear hcz27_3
      try clear hcz28_0
      try clear hcz28_1
      try clear hcz28_2
      try clear hcz28_3
      try clear hcz34_0
      try clear hcz34_1
      try clear hcz34_2
      try clear hcz34_3
      try clear hcz8_0
      try clear hcz8_1
      try clear hcz8_2
      try clear hcz8_3
      try clear hfz12_0
      try clear hfz12_1
      try clear hfz12_2
      try clear hfz12_3
      try clear hfz14_0
      try clear hfz14_1
      try clear hfz14_2
      try clear hfz14_3
      try clear hfz16_0
      try clear hfz16_1
      try clear hfz16_2
      try clear hfz16_3
      try clear hfz25_0
      try clear hfz25_1
      try clear hfz25_2
      try clear hfz25_3
      try clear hfz27_0
      try clear hfz27_1
      try clear hfz27_2
      try clear hfz27_3
      try clear hfz28_0
      try clear hfz28_1
      try clear hfz28_2
      try clear hfz28_3
      try clear hfz34_0
      try clear hfz34_1
      try clear hfz34_2
      try clear hfz34_3
      try clear hfz8_0
      try clear hfz8_1
      try clear hfz8_2
      try clear hfz8_3
      try clear hx355_0
      try clear hx355_1
      try clear hx355_2
      try clear hx355_3
      try clear hx359_0
      try clear hx359_1
      try clear hx359_2
      try clear hx359_3
      try clear hx360_0
      try clear hx360_1
      try clear hx360_2
      try clear hx360_3
      try clear hx361_0
      try clear hx361_1
      try clear hx361_2
      try clear hx361_3
      try clear p355
      try clear p359
      try clear p360
      try clear p361
      try clear q355
      try clear q359
      try clear q360
      try clear q361
      obtain ⟨x71_3, rfl, HA, HK3, BK362, HB⟩ := hrel
      cases gk with
      | zero => exact absurd HA.out (by simp [impl_IsHistory.l2])
      | succ k3 =>
       have H := HA.out
       clear HA
       simp only [impl_IsHistory.l2] at H
       by_cases c35 : x71_3 < (((rd_T33 l0 x64_2).f2).length : Int)
       rotate_left
       ·rw [if_neg c35] at H
        have c35b0 : decide (x71_3 < (((rd_T33 l0 x64_2).f2).length : Int)) = false := decide_eq_false c35
        clear c35
        have H' := AM_ H
        clear H
        go_wp2
        repeat (go_quiet (fail); try go_wp2)
        go_roundg k3
        case measure => have := HK1.out; have := HK2.out; have := HK3.out; omega
        case rel => exact ⟨(wrap64 (x64_2 + 1)), (by first | rfl | (simp; done) | (simp [*]; done)), H', ⟨by have := HK1.out; have := HK2.out; have := HK3.out; omega⟩, ⟨BT HB.out⟩⟩
       rw [if_pos c35] at H
       have c35b0 : decide (x71_3 < (((rd_T33 l0 x64_2).f2).length : Int)) = true := decide_eq_true c35
       clear c35
       replace H := HI H
       obtain ⟨c36, H⟩ := H
       have c36b0 : decide (0 ≤ x71_3) = true := decide_eq_true c36
       clear c36
       replace H := HI H
       obtain ⟨c37, H⟩ := H
       have c37b0 : decide (x71_3 < (((rd_T33 l0 x64_2).f2).length : Int)) = true := decide_eq_true c37
       clear c37
       replace H := Option.bind_eq_some_iff.mp H
       obtain ⟨t365, A380, H⟩ := H
       replace H : (if t365 = ((rd_T33 l0 x64_2).f0) then (impl_IsHistory.j5 k3 l0 l0 (l0.length : Int) x64_2 ((rd_T33 l0 x64_2).f2) (((rd_T33 l0 x64_2).f2).length : Int) x71_3 true ((rd_T33 l0 x64_2).f0) ((rd_T33 l0 x64_2).f1) ((rd_T33 l0 x64_2).f2) ((rd_T33 l0 x64_2).f3)) else (if ((rd_T48 ((rd_T33 l0 x64_2).f2) x71_3).f1) > 0 then (impl_IsHistory.j5 k3 l0 l0 (l0.length : Int) x64_2 ((rd_T33 l0 x64_2).f2) (((rd_T33 l0 x64_2).f2).length : Int) x71_3 (t365 == 0) ((rd_T33 l0 x64_2).f0) ((rd_T33 l0 x64_2).f1) ((rd_T33 l0 x64_2).f2) ((rd_T33 l0 x64_2).f3)) else (impl_IsHistory.j5 k3 l0 l0 (l0.length : Int) x64_2 ((rd_T33 l0 x64_2).f2) (((rd_T33 l0 x64_2).f2).length : Int) x71_3 false ((rd_T33 l0 x64_2).f0) ((rd_T33 l0 x64_2).f1) ((rd_T33 l0 x64_2).f2) ((rd_T33 l0 x64_2).f3)))) = some r := H
       have A38 := AM_ A380
       clear A380
       have HC39 := AM_ H
       clear H
       have p363 : 0 ≤ (x71_3 : Int) := DT
       have q363 : x71_3 < (((rd_T33 l0 x64_2).f2).length : Int) := DT
       obtain ⟨ad363, e363, hx363_0, hx363_1⟩ := at_T48 HR361_2.out x71_3 p363 q363
       cases e363
       replace hx363_0 := BC HB.out hx363_0
       replace hx363_1 := BC HB.out hx363_1
       replace p363 := eq_true p363
       replace q363 := eq_true q363
       go_upto_region 18 with (first | ((with_reducible refine gate_dst (N := 8) rfl ?_); (try (refine gate_guard (by rfl) ?_; dsimp only)); refine box_event ?hg (N := 8) ?hd (cs := #[.int .i64 0, .int .i64 0]) (t := 48) ?hr ?_; (case hd => rfl); (case hg => rfl); (case hr => first | (go_simp; done) | (go_simp; rfl)); intro gb364 hg w40 hbox hb; have BK364 := AM_ (hbox); have GW364 := AM_ ((GS HB.out hg)); have GE364 := AM_ ((GS HB.out hg)); replace HB := AM_ (below_step (BT HB.out) hb); have NB362_364 := AM_ ((NL BK362.out hg)); have NB364_362 := AM_ ((NG BK362.out hg)); replace BK362 := AM_ (BB BK362.out hb); clear hb hbox hg; have hnb41 := NB364_362.out; have hnc41 := NB362_364.out; obtain ⟨hcz42_0, hcz42_1, hfz42_0, hfz42_1⟩ := bk2 BK364.out) | (go_at_call 52; (with_reducible refine (impl_WriterOf.calls k3 _ _ l0 ((rd_T48 ((rd_T33 l0 x64_2).f2) x71_3).f0) ((rd_T48 ((rd_T33 l0 x64_2).f2) x71_3).f1) t365 _ ?side1 ?side2 A38.out).mono ?_); (case side1 => exact Kd.C_below HR0.out (BT HB.out)); (case side2 => exact HC0.out); rintro e w43 ⟨rfl, hb⟩; replace BK362 := AM_ (BF BK362.out NB362_364.out hb); replace BK364 := AM_ (BP #[.int .i64 ((rd_T48 ((rd_T33 l0 x64_2).f2) x71_3).f0), .int .i64 ((rd_T48 ((rd_T33 l0 x64_2).f2) x71_3).f1)] BK364.out hb); replace HB := AM_ (below_step (BT HB.out) hb); (try clear hb); (try clear hb2); (try clear hk); (try clear hi)))
       repeat (go_quiet (first | ((with_reducible refine gate_dst (N := 8) rfl ?_); (try (refine gate_guard (by rfl) ?_; dsimp only)); refine box_event ?hg (N := 8) ?hd (cs := #[.int .i64 0, .int .i64 0]) (t := 48) ?hr ?_; (case hd => rfl); (case hg => rfl); (case hr => first | (go_simp; done) | (go_simp; rfl)); intro gb364 hg w40 hbox hb; have BK364 := AM_ (hbox); have GW364 := AM_ ((GS HB.out hg)); have GE364 := AM_ ((GS HB.out hg)); replace HB := AM_ (below_step (BT HB.out) hb); have NB362_364 := AM_ ((NL BK362.out hg)); have NB364_362 := AM_ ((NG BK362.out hg)); replace BK362 := AM_ (BB BK362.out hb); clear hb hbox hg; have hnb41 := NB364_362.out; have hnc41 := NB362_364.out; obtain ⟨hcz42_0, hcz42_1, hfz42_0, hfz42_1⟩ := bk2 BK364.out) | (go_at_call 52; (with_reducible refine (impl_WriterOf.calls k3 _ _ l0 ((rd_T48 ((rd_T33 l0 x64_2).f2) x71_3).f0) ((rd_T48 ((rd_T33 l0 x64_2).f2) x71_3).f1) t365 _ ?side1 ?side2 A38.out).mono ?_); (case side1 => exact Kd.C_below HR0.out (BT HB.out)); (case side2 => exact HC0.out); rintro e w43 ⟨rfl, hb⟩; replace BK362 := AM_ (BF BK362.out NB362_364.out hb); replace BK364 := AM_ (BP #[.int .i64 ((rd_T48 ((rd_T33 l0 x64_2).f2) x71_3).f0), .int .i64 ((rd_T48 ((rd_T33 l0 x64_2).f2) x71_3).f1)] BK364.out hb); replace HB := AM_ (below_step (BT HB.out) hb); (try clear hb); (try clear hb2); (try clear hk); (try clear hi))); go_upto_region 18 with (first | ((with_reducible refine gate_dst (N := 8) rfl ?_); (try (refine gate_guard (by rfl) ?_; dsimp only)); refine box_event ?hg (N := 8) ?hd (cs := #[.int .i64 0, .int .i64 0]) (t := 48) ?hr ?_; (case hd => rfl); (case hg => rfl); (case hr => first | (go_simp; done) | (go_simp; rfl)); intro gb364 hg w40 hbox hb; have BK364 := AM_ (hbox); have GW364 := AM_ ((GS HB.out hg)); have GE364 := AM_ ((GS HB.out hg)); replace HB := AM_ (below_step (BT HB.out) hb); have NB362_364 := AM_ ((NL BK362.out hg)); have NB364_362 := AM_ ((NG BK362.out hg)); replace BK362 := AM_ (BB BK362.out hb); clear hb hbox hg; have hnb41 := NB364_362.out; have hnc41 := NB362_364.out; obtain ⟨hcz42_0, hcz42_1, hfz42_0, hfz42_1⟩ := bk2 BK364.out) | (go_at_call 52; (with_reducible refine (impl_WriterOf.calls k3 _ _ l0 ((rd_T48 ((rd_T33 l0 x64_2).f2) x71_3).f0) ((rd_T48 ((rd_T33 l0 x64_2).f2) x71_3).f1) t365 _ ?side1 ?side2 A38.out).mono ?_); (case side1 => exact Kd.C_below HR0.out (BT HB.out)); (case side2 => exact HC0.out); rintro e w43 ⟨rfl, hb⟩; replace BK362 := AM_ (BF BK362.out NB362_364.out hb); replace BK364 := AM_ (BP #[.int .i64 ((rd_T48 ((rd_T33 l0 x64_2).f2) x71_3).f0), .int .i64 ((rd_T48 ((rd_T33 l0 x64_2).f2) x71_3).f1)] BK364.out hb); replace HB := AM_ (below_step (BT HB.out) hb); (try clear hb); (try clear hb2); (try clear hk); (try clear hi))))
       (try simp only [pA, pS, pZ, pK])
       go_cut [90] (fun v90 wc => ∃ (kq : Nat) (x90_38 : Bool), v90 = .bool x90_38 ∧ Aside0 (impl_IsHistory.j5 kq l0 l0 (l0.length : Int) x64_2 ((rd_T33 l0 x64_2).f2) (((rd_T33 l0 x64_2).f2).length : Int) x71_3 x90_38 ((rd_T33 l0 x64_2).f0) ((rd_T33 l0 x64_2).f1) ((rd_T33 l0 x64_2).f2) ((rd_T33 l0 x64_2).f3) = some r) ∧ Aside0 (kq ≤ k3) ∧ Aside0 (wc.heap[gb362]? = some (.cells #[.int .i64 ((rd_T33 l0 x64_2).f0), .int .i64 ((rd_T33 l0 x64_2).f1), (.slice (some ad363) ((rd_T33 l0 x64_2).f2).length c361_2), (.slice A361_3 ((rd_T33 l0 x64_2).f3).length c361_3)] 33 (0, 0))) ∧ Aside0 (wc.heap[gb364]? = some (.cells #[.int .i64 ((rd_T48 ((rd_T33 l0 x64_2).f2) x71_3).f0), .int .i64 ((rd_T48 ((rd_T33 l0 x64_2).f2) x71_3).f1)] 48 (0, 0))) ∧ Aside0 (Below w.heap.size w wc))
       case first =>
        have H := HC39.out
        clear HC39
        by_cases c44 : t365 = ((rd_T33 l0 x64_2).f0)
        ·rw [if_pos c44] at H
         have c44b0 : (t365 == ((rd_T33 l0 x64_2).f0)) = true := beq_iff_eq.mpr c44
         have c44b1 : (t365 != ((rd_T33 l0 x64_2).f0)) = false := bne_eq_false_iff_eq.mpr c44
         clear c44
         (first | rw [c44b0] | (simp only [i64_w, i32_w]; rw [c44b0]) | skip)
         have H' := AM_ H
         clear H
         have hnb45 := NB362_364.out
         have hnc45 := NB364_362.out
         obtain ⟨hcz46_0, hcz46_1, hcz46_2, hcz46_3, hfz46_0, hfz46_1, hfz46_2, hfz46_3⟩ := bk4 BK362.out
         go_wp2
         repeat (go_quiet (fail); try go_wp2)
         go_meet
         case rel => exact ⟨_, (true), (by first | rfl | (simp; done) | (simp [*]; done)), H', ⟨by have := HK1.out; have := HK2.out; have := HK3.out; first | omega | exact Nat.le_refl _⟩, ⟨BH BK362.out⟩, ⟨BH BK364.out⟩, ⟨BT HB.out⟩⟩
        rw [if_neg c44] at H
        have c44b0 : (t365 == ((rd_T33 l0 x64_2).f0)) = false := beq_eq_false_iff_ne.mpr c44
        have c44b1 : (t365 != ((rd_T33 l0 x64_2).f0)) = true := bne_iff_ne.mpr c44
        (first | rw [c44b0] | (simp only [i64_w, i32_w]; rw [c44b0]) | skip)
        by_cases c47 : ((rd_T48 ((rd_T33 l0 x64_2).f2) x71_3).f1) > 0
        rotate_left
        ·rw [if_neg c47] at H
         have c47b0 : decide (0 < ((rd_T48 ((rd_T33 l0 x64_2).f2) x71_3).f1)) = false := decide_eq_false c47
         clear c47
         have H' := AM_ H
         clear H
         have hnb51 := NB362_364.out
         have hnc51 := NB364_362.out
         obtain ⟨hcz52_0, hcz52_1, hcz52_2, hcz52_3, hfz52_0, hfz52_1, hfz52_2, hfz52_3⟩ := bk4 BK362.out
         obtain ⟨hcz53_0, hcz53_1, hfz53_0, hfz53_1⟩ := bk2 BK364.out
         go_wp2
         repeat (go_quiet (fail); try go_wp2)
         go_meet
         case rel => exact ⟨_, (false), (by first | rfl | (simp; done) | (simp [*]; done)), H', ⟨by have := HK1.out; have := HK2.out; have := HK3.out; first | omega | exact Nat.le_refl _⟩, ⟨BH BK362.out⟩, ⟨BH BK364.out⟩, ⟨BT HB.out⟩⟩
        rw [if_pos c47] at H
        have c47b0 : decide (0 < ((rd_T48 ((rd_T33 l0 x64_2).f2) x71_3).f1)) = true := decide_eq_true c47
        clear c47
        have H' := AM_ H
        clear H
        have hnb48 := NB362_364.out
        have hnc48 := NB364_362.out
        obtain ⟨hcz49_0, hcz49_1, hcz49_2, hcz49_3, hfz49_0, hfz49_1, hfz49_2, hfz49_3⟩ := bk4 BK362.out
        obtain ⟨hcz50_0, hcz50_1, hfz50_0, hfz50_1⟩ := bk2 BK364.out
        go_wp2
        repeat (go_quiet (fail); try go_wp2)
        go_meet
        case rel => exact ⟨_, ((t365 == 0)), (by first | rfl | (simp; done) | (simp [*]; done)), H', ⟨by have := HK1.out; have := HK2.out; have := HK3.out; first | omega | exact Nat.le_refl _⟩, ⟨BH BK362.out⟩, ⟨BH BK364.out⟩, ⟨BT HB.out⟩⟩
       case rest =>
        clear HC39
        try clear c1
        try clear c2
        try clear c2b0
        try clear c2b1
        try clear p2
        try clear c3
        try clear c3b0
        try clear p3
        try clear q3
        try clear hx3
        try clear c4
        try clear c4b0
        try clear c5
        try clear c5b0
        try clear p6
        try clear c10
        try clear c18
        try clear c20
        try clear c20b0
        try clear c22
        try clear c22b0
        try clear c23
        try clear c23b0
        try clear c24
        try clear c24b0
        try clear c26
        try clear c26b0
        try clear c26b1
        try clear c29
        try clear c30
        try clear c30b0
        try clear c31
        try clear c31b0
        try clear c32
        try clear c32b0
        try clear c35
        try clear c35b0
        try clear p35
        try clear q35
        try clear hx35
        try clear c36
        try clear c36b0
        try clear p36
        try clear q36
        try clear hx36
        try clear c37
        try clear c37b0
        try clear c41
        try clear c44
        try clear c44b0
        try clear c44b1
        try clear c45
        try clear c47
        try clear c47b0
        try clear c48
        try clear c51
        try clear hcz12_0
        try clear hcz12_1
        try clear hcz12_2
        try clear hcz12_3
        try clear hcz14_0
        try clear hcz14_1
        try clear hcz14_2
        try clear hcz14_3
        try clear hcz16_0
        try clear hcz16_1
        try clear hcz16_2
        try clear hcz16_3
        try clear hcz25_0
        try clear hcz25_1
        try clear hcz25_2
        try clear hcz25_3
        try clear hcz27_0
        try clear hcz27_1
        try clear hcz27_2
        try clear hcz27_3
        try clear hcz28_0
        try clear hcz28_1
        try clear hcz28_2
        try clear hcz28_3
        try clear hcz34_0
        try clear hcz34_1
        try clear hcz34_2
        try clear hcz34_3
        try clear hcz42_0
        try clear hcz42_1
        try clear hcz46_0
        try clear hcz46_1
        try clear hcz46_2
        try clear hcz46_3
        try clear hcz49_0
        try clear hcz49_1
        try clear hcz49_2
        try clear hcz49_3
        try clear hcz50_0
        try clear hcz50_1
        try clear hcz52_0
        try clear hcz52_1
        try clear hcz52_2
        try clear hcz52_3
        try clear hcz53_0
        try clear hcz53_1
        try clear hcz8_0
        try clear hcz8_1
        try clear hcz8_2
        try clear hcz8_3
        try clear hfz12_0
        try clear hfz12_1
        try clear hfz12_2
        try clear hfz12_3
        try clear hfz14_0
        try clear hfz14_1
        try clear hfz14_2
        try clear hfz14_3
        try clear hfz16_0
        try clear hfz16_1
        try clear hfz16_2
        try clear hfz16_3
        try clear hfz25_0
        try clear hfz25_1
        try clear hfz25_2
        try clear hfz25_3
        try clear hfz27_0
        try clear hfz27_1
        try clear hfz27_2
        try clear hfz27_3
        try clear hfz28_0
        try clear hfz28_1
        try clear hfz28_2
        try clear hfz28_3
        try clear hfz34_0
        try clear hfz34_1
        try clear hfz34_2
        try clear hfz34_3
        try clear hfz42_0
        try clear hfz42_1
        try clear hfz46_0
        try clear hfz46_1
        try clear hfz46_2
        try clear hfz46_3
        try clear hfz49_0
        try clear hfz49_1
        try clear hfz49_2
        try clear hfz49_3
        try clear hfz50_0
        try clear hfz50_1
        try clear hfz52_0
        try clear hfz52_1
        try clear hfz52_2
        try clear hfz52_3
        try clear hfz53_0
        try clear hfz53_1
        try clear hfz8_0
        try clear hfz8_1
        try clear hfz8_2
        try clear hfz8_3
        try clear hx355_0
        try clear hx355_1
        try clear hx355_2
        try clear hx355_3
        try clear hx359_0
        try clear hx359_1
        try clear hx359_2
        try clear hx359_3
        try clear hx360_0
        try clear hx360_1
        try clear hx360_2
        try clear hx360_3
        try clear hx361_0
        try clear hx361_1
        try clear hx361_2
        try clear hx361_3
        try clear hx363_0
        try clear hx363_1
        try clear p355
        try clear p359
        try clear p360
        try clear p361
        try clear p363
        try clear q355
        try clear q359
        try clear q360
        try clear q361
        try clear q363
        obtain ⟨kq, x90_38, rfl, HA, HJ38, BK362, BK364, HB⟩ := hcut
        cases kq with
        | zero => exact absurd HA.out (by simp [impl_IsHistory.j5])
        | succ kj38 =>
         have H := HA.out
         clear HA
         simp only [impl_IsHistory.j5] at H
         by_cases c54 : x90_38 = true
         ·subst c54
          have H1 : (some false) = some r := by rw [if_pos rfl] at H; exact H
          clear H
          have H := H1
          clear H1
          obtain rfl := Option.some.inj H
          go_wp2
          repeat (go_quiet (fail); try go_wp2)
          go_ret
          exact QT (BT HB.out)
         replace c54 := Bool.eq_false_iff.mpr c54
         subst c54
         have H1 : (impl_IsHistory.l2 kj38 l0 l0 (l0.length : Int) x64_2 ((rd_T33 l0 x64_2).f2) (((rd_T33 l0 x64_2).f2).length : Int) (wrap64 (x71_3 + 1)) ((rd_T33 l0 x64_2).f0) ((rd_T33 l0 x64_2).f1) ((rd_T33 l0 x64_2).f2) ((rd_T33 l0 x64_2).f3)) = some r := by rw [if_neg (show ¬ (false = true) by decide)] at H; exact H
         clear H
         have H := H1
         clear H1
         have H' := AM_ H
         clear H
         go_wp2
         repeat (go_quiet (fail); try go_wp2)
         go_roundg kj38
         case measure => have := HK1.out; have := HK2.out; have := HK3.out; have := HJ38.out; omega
         case rel => exact ⟨(wrap64 (x71_3 + 1)), (by first | rfl | (simp; done) | (simp [*]; done)), H', ⟨by have := HK1.out; have := HK2.out; have := HK3.out; have := HJ38.out; omega⟩, ⟨BH BK362.out⟩, ⟨BT HB.out⟩⟩

end Go.Proofs.YtdfbmaiboadodaaGreatDoor.PFnExactParseHistory
