-- Printed by a program of mine (wip/myprint.py), which runs the printer of the kit with contracts of mine beside it.
import Derived.Test.YtakpkmlbklahhaaPFnExactInstalledVersionsx0
import Derived.Test.YtakpkmlbklahhaaPFnExactInstalledVersionsx6
namespace Go.Proofs.Ytakpkmlbklahhaa.PFnExactInstalledVersions
open Go.RowKit Go.Proofs.YtakpkmlbklahhaaW.PrintWords Go.Proofs.YtakpkmlbklahhaaW.PrintLast Go.Proofs.YtakpkmlbklahhaaW.PrintMore
attribute [local go_sem] max2_int min2_int max_two min_two max_three min_three max_four min_four   -- for this text's walks alone
set_option linter.unusedVariables false
set_option linter.unusedSimpArgs false

/-! ### spec_FindVersion: function 141 -/
def spec_FindVersion.l0 : Nat → List (S76) → Int → Int → Option (Int)
 | 0, _, _, _ => none
 | k + 1, x0, x1, x5 => if x5 < (x0.length : Int) then (if 0 ≤ x5 then (if ((rd_T76 x0 x5).f2) = x1 then (some x5) else (spec_FindVersion.l0 k x0 x1 (wrap64 (x5 + 1)))) else (none)) else (some (-1))
def spec_FindVersion.f (k : Nat) (l0 : List (S76)) (a1 : Int) : Option (Int) := spec_FindVersion.l0 k l0 a1 0
theorem spec_FindVersion.mono_l : ∀ k, (∀ y0 y1 y2, LeO (spec_FindVersion.l0 k y0 y1 y2) (spec_FindVersion.l0 (k + 1) y0 y1 y2))
 | 0 => fun _ _ _ r h => by simp [spec_FindVersion.l0] at h
 | k + 1 => by
  have ih0 := spec_FindVersion.mono_l k
  ·intro y0 y1 y2
   unfold spec_FindVersion.l0
   repeat' first
   | (with_reducible exact ih0 _ _ _)
   | (with_reducible exact LeO.refl _)
   | (with_reducible exact LeO.none _)
   | (with_reducible refine LeO.ite ?_ ?_)
   | (with_reducible refine LeO.bind ?_ (fun _ => ?_))
   | exact ih0 _ _ _
   | exact LeO.none _
   | refine LeO.ite ?_ ?_
   | refine LeO.bind ?_ (fun _ => ?_)
theorem spec_FindVersion.mono : ∀ a0 a1 k, LeO (spec_FindVersion.f k a0 a1) (spec_FindVersion.f (k + 1) a0 a1) := by
 intro a0 a1 k
 have ih0 := spec_FindVersion.mono_l k
 unfold spec_FindVersion.f
 repeat' first
   | (with_reducible exact ih0 _ _ _)
   | (with_reducible exact LeO.refl _)
   | (with_reducible exact LeO.none _)
   | (with_reducible refine LeO.ite ?_ ?_)
   | (with_reducible refine LeO.bind ?_ (fun _ => ?_))
   | exact ih0 _ _ _
   | exact LeO.none _
   | refine LeO.ite ?_ ?_
   | refine LeO.bind ?_ (fun _ => ?_)
set_option maxHeartbeats 8000000 in
set_option maxRecDepth 100000 in
theorem spec_FindVersion.calls (k : Nat) (A0 : Option Addr) (c0 : Nat) (l0 : List (S76)) (a1 : Int) (r : Int) (w : World) (hr0 : Kd.C k76 w A0 l0.length l0) (hc0 : l0.length ≤ c0) (h : spec_FindVersion.f k l0 a1 = some r) :
  Calls Try.prog 141 #[.slice A0 l0.length c0, .int .i64 a1] w fun e w' => e = .returned (.int .i64 r) ∧ Drawn0 w w' := by
 have HR0 := AM_ hr0
 have HC0 := AM_ hc0
 clear hr0 hc0
 have H : (spec_FindVersion.l0 k l0 a1 0) = some r := h
 clear h
 have H' := AM_ H
 clear H
 go_enter Try.func141, Try.ntmps141
 go_wp2
 go_loopg [5] k (fun kq v5 w' => ∃ (x5_1 : Int), v5 = .int .i64 x5_1 ∧ Aside0 (spec_FindVersion.l0 kq l0 a1 x5_1 = some r) ∧ Aside0 (kq ≤ k) ∧ Drawn0 w w')
 case atStart => exact ⟨(0), (by first | rfl | (simp; done) | (simp [*]; done)), H', ⟨Nat.le_refl _⟩, by repeat (first | exact Drawn0.refl _ | apply Drawn0.step)⟩
 case round =>
  clear H'
  try clear c1
  try clear p2
  obtain ⟨x5_1, rfl, HA, HK1, ⟨m1, rfl⟩⟩ := hrel
  cases gk with
  | zero => exact absurd HA.out (by simp [spec_FindVersion.l0])
  | succ k1 =>
   have H := HA.out
   clear HA
   simp only [spec_FindVersion.l0] at H
   by_cases c3 : x5_1 < (l0.length : Int)
   rotate_left
   ·rw [if_neg c3] at H
    have c3b0 : decide (x5_1 < (l0.length : Int)) = false := decide_eq_false c3
    clear c3
    obtain rfl := Option.some.inj H
    go_wp2
    go_ret
    exact ⟨by first | rfl | (simp; done) | (simp [*]; done), by repeat (first | exact Drawn0.refl _ | apply Drawn0.step)⟩
   rw [if_pos c3] at H
   have c3b0 : decide (x5_1 < (l0.length : Int)) = true := decide_eq_true c3
   clear c3
   by_cases c4 : 0 ≤ x5_1
   rotate_left
   ·rw [if_neg c4] at H
    exact absurd H (by simp)
   rw [if_pos c4] at H
   have c4b0 : decide (0 ≤ x5_1) = true := decide_eq_true c4
   clear c4
   by_cases c5 : ((rd_T76 l0 x5_1).f2) = a1
   ·rw [if_pos c5] at H
    have c5b0 : (((rd_T76 l0 x5_1).f2) == a1) = true := beq_iff_eq.mpr c5
    have c5b1 : (((rd_T76 l0 x5_1).f2) != a1) = false := bne_eq_false_iff_eq.mpr c5
    clear c5
    obtain rfl := Option.some.inj H
    have p233 : 0 ≤ (x5_1 : Int) := DT
    have q233 : x5_1 < (l0.length : Int) := DT
    obtain ⟨ad233, e233, hx233_0, hx233_1, hx233_2, hx233_3, hx233_4⟩ := at_T76 HR0.out x5_1 p233 q233
    cases e233
    replace p233 := eq_true p233
    replace q233 := eq_true q233
    go_wp2
    go_ret
    exact ⟨by first | rfl | (simp; done) | (simp [*]; done), by repeat (first | exact Drawn0.refl _ | apply Drawn0.step)⟩
   rw [if_neg c5] at H
   have c5b0 : (((rd_T76 l0 x5_1).f2) == a1) = false := beq_eq_false_iff_ne.mpr c5
   have c5b1 : (((rd_T76 l0 x5_1).f2) != a1) = true := bne_iff_ne.mpr c5
   have H' := AM_ H
   clear H
   have p233 : 0 ≤ (x5_1 : Int) := DT
   have q233 : x5_1 < (l0.length : Int) := DT
   obtain ⟨ad233, e233, hx233_0, hx233_1, hx233_2, hx233_3, hx233_4⟩ := at_T76 HR0.out x5_1 p233 q233
   cases e233
   replace p233 := eq_true p233
   replace q233 := eq_true q233
   go_wp2
   go_roundg k1
   case measure => have := HK1.out; omega
   case rel => exact ⟨(wrap64 (x5_1 + 1)), (by first | rfl | (simp; done) | (simp [*]; done)), H', ⟨by have := HK1.out; omega⟩, by repeat (first | exact Drawn0.refl _ | apply Drawn0.step)⟩

/-! ### spec_InstalledVersions: function 59 -/
mutual
def spec_InstalledVersions.l0 : Nat → List (S76) → Int → Int → List (List (S76)) → Int → Int → Int → Int → Int → Int → Int → List (S165) → List (S133) → Option ((List (S76)))
 | 0, _, _, _, _, _, _, _, _, _, _, _, _, _ => none
 | k + 1, x5, x6, x7, x235000, x236000, x236001, x236002, x236003, x236004, x236005, x236006, x236007, x236008 => if x7 < (x235000.length : Int) then (if x6 > 0 then ((spec_IsValidStore.f k x235000).bind fun t240 => (spec_InstalledVersions.j1 k x5 x6 x7 t240 x235000 x236000 x236001 x236002 x236003 x236004 x236005 x236006 x236007 x236008)) else (spec_InstalledVersions.j1 k x5 x6 x7 false x235000 x236000 x236001 x236002 x236003 x236004 x236005 x236006 x236007 x236008)) else (spec_InstalledVersions.j1 k x5 x6 x7 false x235000 x236000 x236001 x236002 x236003 x236004 x236005 x236006 x236007 x236008)
def spec_InstalledVersions.j1 : Nat → List (S76) → Int → Int → Bool → List (List (S76)) → Int → Int → Int → Int → Int → Int → Int → List (S165) → List (S133) → Option ((List (S76)))
 | 0, _, _, _, _, _, _, _, _, _, _, _, _, _, _ => none
 | k + 1, x5, x6, x7, x24, x235000, x236000, x236001, x236002, x236003, x236004, x236005, x236006, x236007, x236008 => if x24 = true then (if 0 ≤ x7 then (if x7 < (x235000.length : Int) then ((spec_FindVersion.f k (rd_L6 x235000 x7) x6).bind fun t242 => (if t242 ≥ 0 then (if 0 ≤ t242 then (if t242 < ((rd_L6 x235000 x7).length : Int) then (if ((rd_T76 (rd_L6 x235000 x7) t242).f0) = x236000 then (if x5.length < 3518437208883 then (spec_InstalledVersions.l0 k (x5 ++ [(⟨(rd_T76 (rd_L6 x235000 x7) t242).f0, (rd_T76 (rd_L6 x235000 x7) t242).f1, (rd_T76 (rd_L6 x235000 x7) t242).f2, (rd_T76 (rd_L6 x235000 x7) t242).f3, (rd_T76 (rd_L6 x235000 x7) t242).f4⟩ : S76)]) x6 (wrap64 (x7 + 1)) x235000 x236000 x236001 x236002 x236003 x236004 x236005 x236006 x236007 x236008) else (none)) else (spec_InstalledVersions.l0 k x5 x6 (wrap64 (x7 + 1)) x235000 x236000 x236001 x236002 x236003 x236004 x236005 x236006 x236007 x236008)) else (none)) else (none)) else (spec_InstalledVersions.l0 k x5 x6 (wrap64 (x7 + 1)) x235000 x236000 x236001 x236002 x236003 x236004 x236005 x236006 x236007 x236008))) else (none)) else (none)) else (some x5)
end
def spec_InstalledVersions.f (k : Nat) (l0_0 : List (List (S76))) (a1_0 : Int) (a1_1 : Int) (a1_2 : Int) (a1_3 : Int) (a1_4 : Int) (a1_5 : Int) (a1_6 : Int) (l1_7 : List (S165)) (l1_8 : List (S133)) : Option ((List (S76))) := (spec_CommittedStamp.f k a1_0 a1_1 a1_2 a1_3 a1_4 a1_5 a1_6 l1_7 l1_8).bind fun t239 => (spec_InstalledVersions.l0 k (([] : List (S76))) t239 0 l0_0 a1_0 a1_1 a1_2 a1_3 a1_4 a1_5 a1_6 l1_7 l1_8)
theorem spec_InstalledVersions.mono_l : ∀ k, (∀ y0 y1 y2 y3 y4 y5 y6 y7 y8 y9 y10 y11 y12, LeO (spec_InstalledVersions.l0 k y0 y1 y2 y3 y4 y5 y6 y7 y8 y9 y10 y11 y12) (spec_InstalledVersions.l0 (k + 1) y0 y1 y2 y3 y4 y5 y6 y7 y8 y9 y10 y11 y12)) ∧ (∀ y0 y1 y2 y3 y4 y5 y6 y7 y8 y9 y10 y11 y12 y13, LeO (spec_InstalledVersions.j1 k y0 y1 y2 y3 y4 y5 y6 y7 y8 y9 y10 y11 y12 y13) (spec_InstalledVersions.j1 (k + 1) y0 y1 y2 y3 y4 y5 y6 y7 y8 y9 y10 y11 y12 y13))
 | 0 => ⟨fun _ _ _ _ _ _ _ _ _ _ _ _ _ r h => by simp [spec_InstalledVersions.l0] at h, fun _ _ _ _ _ _ _ _ _ _ _ _ _ _ r h => by simp [spec_InstalledVersions.j1] at h⟩
 | k + 1 => by
  obtain ⟨ih0, ih1⟩ := spec_InstalledVersions.mono_l k
  refine ⟨?_, ?_⟩
  ·intro y0 y1 y2 y3 y4 y5 y6 y7 y8 y9 y10 y11 y12
   unfold spec_InstalledVersions.l0
   repeat' first
   | (with_reducible exact ih0 _ _ _ _ _ _ _ _ _ _ _ _ _)
   | (with_reducible exact ih1 _ _ _ _ _ _ _ _ _ _ _ _ _ _)
   | (with_reducible exact spec_CommittedStamp.mono _ _ _ _ _ _ _ _ _ _)
   | (with_reducible exact spec_FindVersion.mono _ _ _)
   | (with_reducible exact spec_IsValidStore.mono _ _)
   | (with_reducible exact LeO.refl _)
   | (with_reducible exact LeO.none _)
   | (with_reducible refine LeO.ite ?_ ?_)
   | (with_reducible refine LeO.bind ?_ (fun _ => ?_))
   | exact ih0 _ _ _ _ _ _ _ _ _ _ _ _ _
   | exact ih1 _ _ _ _ _ _ _ _ _ _ _ _ _ _
   | exact spec_CommittedStamp.mono _ _ _ _ _ _ _ _ _ _
   | exact spec_FindVersion.mono _ _ _
   | exact spec_IsValidStore.mono _ _
   | exact LeO.none _
   | refine LeO.ite ?_ ?_
   | refine LeO.bind ?_ (fun _ => ?_)
  ·intro y0 y1 y2 y3 y4 y5 y6 y7 y8 y9 y10 y11 y12 y13
   unfold spec_InstalledVersions.j1
   repeat' first
   | (with_reducible exact ih0 _ _ _ _ _ _ _ _ _ _ _ _ _)
   | (with_reducible exact ih1 _ _ _ _ _ _ _ _ _ _ _ _ _ _)
   | (with_reducible exact spec_CommittedStamp.mono _ _ _ _ _ _ _ _ _ _)
   | (with_reducible exact spec_FindVersion.mono _ _ _)
   | (with_reducible exact spec_IsValidStore.mono _ _)
   | (with_reducible exact LeO.refl _)
   | (with_reducible exact LeO.none _)
   | (with_reducible refine LeO.ite ?_ ?_)
   | (with_reducible refine LeO.bind ?_ (fun _ => ?_))
   | exact ih0 _ _ _ _ _ _ _ _ _ _ _ _ _
   | exact ih1 _ _ _ _ _ _ _ _ _ _ _ _ _ _
   | exact spec_CommittedStamp.mono _ _ _ _ _ _ _ _ _ _
   | exact spec_FindVersion.mono _ _ _
   | exact spec_IsValidStore.mono _ _
   | exact LeO.none _
   | refine LeO.ite ?_ ?_
   | refine LeO.bind ?_ (fun _ => ?_)
theorem spec_InstalledVersions.mono : ∀ a0 a1 a2 a3 a4 a5 a6 a7 a8 a9 k, LeO (spec_InstalledVersions.f k a0 a1 a2 a3 a4 a5 a6 a7 a8 a9) (spec_InstalledVersions.f (k + 1) a0 a1 a2 a3 a4 a5 a6 a7 a8 a9) := by
 intro a0 a1 a2 a3 a4 a5 a6 a7 a8 a9 k
 obtain ⟨ih0, ih1⟩ := spec_InstalledVersions.mono_l k
 unfold spec_InstalledVersions.f
 repeat' first
   | (with_reducible exact ih0 _ _ _ _ _ _ _ _ _ _ _ _ _)
   | (with_reducible exact ih1 _ _ _ _ _ _ _ _ _ _ _ _ _ _)
   | (with_reducible exact spec_CommittedStamp.mono _ _ _ _ _ _ _ _ _ _)
   | (with_reducible exact spec_FindVersion.mono _ _ _)
   | (with_reducible exact spec_IsValidStore.mono _ _)
   | (with_reducible exact LeO.refl _)
   | (with_reducible exact LeO.none _)
   | (with_reducible refine LeO.ite ?_ ?_)
   | (with_reducible refine LeO.bind ?_ (fun _ => ?_))
   | exact ih0 _ _ _ _ _ _ _ _ _ _ _ _ _
   | exact ih1 _ _ _ _ _ _ _ _ _ _ _ _ _ _
   | exact spec_CommittedStamp.mono _ _ _ _ _ _ _ _ _ _
   | exact spec_FindVersion.mono _ _ _
   | exact spec_IsValidStore.mono _ _
   | exact LeO.none _
   | refine LeO.ite ?_ ?_
   | refine LeO.bind ?_ (fun _ => ?_)
set_option maxHeartbeats 8000000 in
set_option maxRecDepth 100000 in
theorem spec_InstalledVersions.calls (k : Nat) (A0_0 : Option Addr) (c0_0 : Nat) (l0_0 : List (List (S76))) (a1_0 : Int) (a1_1 : Int) (a1_2 : Int) (a1_3 : Int) (a1_4 : Int) (a1_5 : Int) (a1_6 : Int) (A1_7 : Option Addr) (c1_7 : Nat) (l1_7 : List (S165)) (A1_8 : Option Addr) (c1_8 : Nat) (l1_8 : List (S133)) (r : List (S76)) (w : World) (hr0_0 : Kd.C (Kd.slice 76 k76) w A0_0 l0_0.length l0_0) (hc0_0 : l0_0.length ≤ c0_0) (hr1_7 : Kd.C k165 w A1_7 l1_7.length l1_7) (hc1_7 : l1_7.length ≤ c1_7) (hr1_8 : Kd.C k133 w A1_8 l1_8.length l1_8) (hc1_8 : l1_8.length ≤ c1_8) (h : spec_InstalledVersions.f k l0_0 a1_0 a1_1 a1_2 a1_3 a1_4 a1_5 a1_6 l1_7 l1_8 = some r) :
  Calls Try.prog 59 #[.agg #[.slice A0_0 l0_0.length c0_0], .agg #[.int .i64 a1_0, .int .i64 a1_1, .int .i64 a1_2, .int .i64 a1_3, .int .i64 a1_4, .int .i64 a1_5, .int .i64 a1_6, .slice A1_7 l1_7.length c1_7, .slice A1_8 l1_8.length c1_8]] w fun e w' => ∃ v0_ : Value, e = .returned (v0_) ∧ Kd.R k76 76 w' w.heap.size (fun _ => True) v0_ r ∧ Below w.heap.size w w' := by
 have hu49 := Try.underlying49
 have hu68 := Try.underlying68
 have hu76 := Try.underlying76
 have HR0_0 := AM_ hr0_0
 have HC0_0 := AM_ hc0_0
 clear hr0_0 hc0_0
 have HR1_7 := AM_ hr1_7
 have HC1_7 := AM_ hc1_7
 clear hr1_7 hc1_7
 have HR1_8 := AM_ hr1_8
 have HC1_8 := AM_ hc1_8
 clear hr1_8 hc1_8
 have HB := AM_ (Below.refl w.heap.size w)
 have H : ((spec_CommittedStamp.f k a1_0 a1_1 a1_2 a1_3 a1_4 a1_5 a1_6 l1_7 l1_8).bind fun t239 => (spec_InstalledVersions.l0 k (([] : List (S76))) t239 0 l0_0 a1_0 a1_1 a1_2 a1_3 a1_4 a1_5 a1_6 l1_7 l1_8)) = some r := h
 clear h
 obtain ⟨y236, hy236⟩ : ∃ y_ : List (S76), y_ = (([] : List (S76))) := ⟨_, rfl⟩
 replace H : ((spec_CommittedStamp.f k a1_0 a1_1 a1_2 a1_3 a1_4 a1_5 a1_6 l1_7 l1_8).bind fun t239 => (spec_InstalledVersions.l0 k y236 t239 0 l0_0 a1_0 a1_1 a1_2 a1_3 a1_4 a1_5 a1_6 l1_7 l1_8)) = some r := by first | (rw [hy236]; with_reducible exact H) | (have H2_ := (Option.bind_some _ _).symm.trans H; rw [hy236]; with_reducible exact H2_) | (have H2_ := (Option.bind_some _ _).symm.trans H; with_reducible exact H2_) | with_reducible exact H | (rw [hy236]; exact H) | exact H
 have Ny236 := AM_ hy236
 clear hy236
 replace H := Option.bind_eq_some_iff.mp H
 obtain ⟨t239, A30, H⟩ := H
 replace H : (spec_InstalledVersions.l0 k y236 t239 0 l0_0 a1_0 a1_1 a1_2 a1_3 a1_4 a1_5 a1_6 l1_7 l1_8) = some r := H
 have A3 := AM_ A30
 clear A30
 have H' := AM_ H
 clear H
 go_enter Try.func59, Try.ntmps59
 go_wp2_with (first | ((with_reducible refine gate_dst (N := 2) rfl ?_); refine box_event ?hg (N := 2) ?hd (cs := #[.slice A0_0 l0_0.length c0_0]) (t := 49) ?hr ?_; (case hd => rfl); (case hg => rfl); (case hr => first | (go_simp; done) | (go_simp; rfl)); intro gb234 hg w4 hbox hb; have BK234 := AM_ (hbox); have GW234 := AM_ ((GS HB.out hg)); have GE234 := AM_ ((GS HB.out hg)); replace HB := AM_ (below_step (BT HB.out) hb); clear hb hbox hg) | ((with_reducible refine gate_dst (N := 3) rfl ?_); refine box_event ?hg (N := 3) ?hd (cs := #[.int .i64 a1_0, .int .i64 a1_1, .int .i64 a1_2, .int .i64 a1_3, .int .i64 a1_4, .int .i64 a1_5, .int .i64 a1_6, .slice A1_7 l1_7.length c1_7, .slice A1_8 l1_8.length c1_8]) (t := 68) ?hr ?_; (case hd => rfl); (case hg => rfl); (case hr => first | (go_simp; done) | (go_simp; rfl)); intro gb235 hg w5 hbox hb; have BK235 := AM_ (hbox); have GW235 := AM_ ((GS HB.out hg)); have GE235 := AM_ ((GS HB.out hg)); replace HB := AM_ (below_step (BT HB.out) hb); have NB234_235 := AM_ ((NL BK234.out hg)); have NB235_234 := AM_ ((NG BK234.out hg)); replace BK234 := AM_ (BB BK234.out hb); clear hb hbox hg) | ((with_reducible refine gate_dst (N := 9) rfl ?_); refine Kd.R_lit k76 _ 76 ?hg (N := 9) ?hd (xs := ([] : List (S76))) (inner := []) (ok := fun _ => True) (okp := fun _ => True) ?hr ?hp (fun _ hk => hk) trivial (Below.refl _ _) (Nat.le_refl _) (by simp) ?_; (case hd => rfl); (case hg => rfl); (case hr => first | (go_simp; done) | (go_simp; rfl)); (case hp => exact (Reps.none _ _)); intro v237 w6 ho7 hb hg_ hnew_; clear hg_ hnew_; (first | rw [← Ny236.out] at ho7 | (simp only [Int.reduceToNat] at ho7; rw [← Ny236.out] at ho7)); have HO238 := AM_ (Kd.R_lower ho7 (below_size (BT HB.out))); replace BK234 := AM_ (BB BK234.out hb); replace BK235 := AM_ (BB BK235.out hb); replace HB := AM_ (below_step (BT HB.out) hb); clear hb ho7; have hnb8 := NB235_234.out; have hnc8 := NB234_235.out; obtain ⟨hcz9_0, hcz9_1, hcz9_2, hcz9_3, hcz9_4, hcz9_5, hcz9_6, hcz9_7, hcz9_8, hfz9_0, hfz9_1, hfz9_2, hfz9_3, hfz9_4, hfz9_5, hfz9_6, hfz9_7, hfz9_8⟩ := bk9 BK235.out) | (go_at_call 139; (with_reducible refine (spec_CommittedStamp.calls k a1_0 a1_1 a1_2 a1_3 a1_4 a1_5 a1_6 _ _ l1_7 _ _ l1_8 t239 _ ?side1 ?side2 ?side3 ?side4 A3.out).mono ?_); (case side1 => exact CB HR1_7.out HB.out); (case side2 => exact HC1_7.out); (case side3 => exact CB HR1_8.out HB.out); (case side4 => exact HC1_8.out); rintro e w10 ⟨rfl, hb⟩; replace HO238 := AM_ (Kd.R_below (RT HO238.out) hb); replace BK234 := AM_ (BB BK234.out hb); replace BK235 := AM_ (BB BK235.out hb); replace HB := AM_ (below_step (BT HB.out) hb); (try clear hb); (try clear hb2); (try clear hk); (try clear hi)))
 repeat (go_quiet (first | ((with_reducible refine gate_dst (N := 2) rfl ?_); refine box_event ?hg (N := 2) ?hd (cs := #[.slice A0_0 l0_0.length c0_0]) (t := 49) ?hr ?_; (case hd => rfl); (case hg => rfl); (case hr => first | (go_simp; done) | (go_simp; rfl)); intro gb234 hg w4 hbox hb; have BK234 := AM_ (hbox); have GW234 := AM_ ((GS HB.out hg)); have GE234 := AM_ ((GS HB.out hg)); replace HB := AM_ (below_step (BT HB.out) hb); clear hb hbox hg) | ((with_reducible refine gate_dst (N := 3) rfl ?_); refine box_event ?hg (N := 3) ?hd (cs := #[.int .i64 a1_0, .int .i64 a1_1, .int .i64 a1_2, .int .i64 a1_3, .int .i64 a1_4, .int .i64 a1_5, .int .i64 a1_6, .slice A1_7 l1_7.length c1_7, .slice A1_8 l1_8.length c1_8]) (t := 68) ?hr ?_; (case hd => rfl); (case hg => rfl); (case hr => first | (go_simp; done) | (go_simp; rfl)); intro gb235 hg w5 hbox hb; have BK235 := AM_ (hbox); have GW235 := AM_ ((GS HB.out hg)); have GE235 := AM_ ((GS HB.out hg)); replace HB := AM_ (below_step (BT HB.out) hb); have NB234_235 := AM_ ((NL BK234.out hg)); have NB235_234 := AM_ ((NG BK234.out hg)); replace BK234 := AM_ (BB BK234.out hb); clear hb hbox hg) | ((with_reducible refine gate_dst (N := 9) rfl ?_); refine Kd.R_lit k76 _ 76 ?hg (N := 9) ?hd (xs := ([] : List (S76))) (inner := []) (ok := fun _ => True) (okp := fun _ => True) ?hr ?hp (fun _ hk => hk) trivial (Below.refl _ _) (Nat.le_refl _) (by simp) ?_; (case hd => rfl); (case hg => rfl); (case hr => first | (go_simp; done) | (go_simp; rfl)); (case hp => exact (Reps.none _ _)); intro v237 w6 ho7 hb hg_ hnew_; clear hg_ hnew_; (first | rw [← Ny236.out] at ho7 | (simp only [Int.reduceToNat] at ho7; rw [← Ny236.out] at ho7)); have HO238 := AM_ (Kd.R_lower ho7 (below_size (BT HB.out))); replace BK234 := AM_ (BB BK234.out hb); replace BK235 := AM_ (BB BK235.out hb); replace HB := AM_ (below_step (BT HB.out) hb); clear hb ho7; have hnb8 := NB235_234.out; have hnc8 := NB234_235.out; obtain ⟨hcz9_0, hcz9_1, hcz9_2, hcz9_3, hcz9_4, hcz9_5, hcz9_6, hcz9_7, hcz9_8, hfz9_0, hfz9_1, hfz9_2, hfz9_3, hfz9_4, hfz9_5, hfz9_6, hfz9_7, hfz9_8⟩ := bk9 BK235.out) | (go_at_call 139; (with_reducible refine (spec_CommittedStamp.calls k a1_0 a1_1 a1_2 a1_3 a1_4 a1_5 a1_6 _ _ l1_7 _ _ l1_8 t239 _ ?side1 ?side2 ?side3 ?side4 A3.out).mono ?_); (case side1 => exact CB HR1_7.out HB.out); (case side2 => exact HC1_7.out); (case side3 => exact CB HR1_8.out HB.out); (case side4 => exact HC1_8.out); rintro e w10 ⟨rfl, hb⟩; replace HO238 := AM_ (Kd.R_below (RT HO238.out) hb); replace BK234 := AM_ (BB BK234.out hb); replace BK235 := AM_ (BB BK235.out hb); replace HB := AM_ (below_step (BT HB.out) hb); (try clear hb); (try clear hb2); (try clear hk); (try clear hi))); try go_wp2_with (first | ((with_reducible refine gate_dst (N := 2) rfl ?_); refine box_event ?hg (N := 2) ?hd (cs := #[.slice A0_0 l0_0.length c0_0]) (t := 49) ?hr ?_; (case hd => rfl); (case hg => rfl); (case hr => first | (go_simp; done) | (go_simp; rfl)); intro gb234 hg w4 hbox hb; have BK234 := AM_ (hbox); have GW234 := AM_ ((GS HB.out hg)); have GE234 := AM_ ((GS HB.out hg)); replace HB := AM_ (below_step (BT HB.out) hb); clear hb hbox hg) | ((with_reducible refine gate_dst (N := 3) rfl ?_); refine box_event ?hg (N := 3) ?hd (cs := #[.int .i64 a1_0, .int .i64 a1_1, .int .i64 a1_2, .int .i64 a1_3, .int .i64 a1_4, .int .i64 a1_5, .int .i64 a1_6, .slice A1_7 l1_7.length c1_7, .slice A1_8 l1_8.length c1_8]) (t := 68) ?hr ?_; (case hd => rfl); (case hg => rfl); (case hr => first | (go_simp; done) | (go_simp; rfl)); intro gb235 hg w5 hbox hb; have BK235 := AM_ (hbox); have GW235 := AM_ ((GS HB.out hg)); have GE235 := AM_ ((GS HB.out hg)); replace HB := AM_ (below_step (BT HB.out) hb); have NB234_235 := AM_ ((NL BK234.out hg)); have NB235_234 := AM_ ((NG BK234.out hg)); replace BK234 := AM_ (BB BK234.out hb); clear hb hbox hg) | ((with_reducible refine gate_dst (N := 9) rfl ?_); refine Kd.R_lit k76 _ 76 ?hg (N := 9) ?hd (xs := ([] : List (S76))) (inner := []) (ok := fun _ => True) (okp := fun _ => True) ?hr ?hp (fun _ hk => hk) trivial (Below.refl _ _) (Nat.le_refl _) (by simp) ?_; (case hd => rfl); (case hg => rfl); (case hr => first | (go_simp; done) | (go_simp; rfl)); (case hp => exact (Reps.none _ _)); intro v237 w6 ho7 hb hg_ hnew_; clear hg_ hnew_; (first | rw [← Ny236.out] at ho7 | (simp only [Int.reduceToNat] at ho7; rw [← Ny236.out] at ho7)); have HO238 := AM_ (Kd.R_lower ho7 (below_size (BT HB.out))); replace BK234 := AM_ (BB BK234.out hb); replace BK235 := AM_ (BB BK235.out hb); replace HB := AM_ (below_step (BT HB.out) hb); clear hb ho7; have hnb8 := NB235_234.out; have hnc8 := NB234_235.out; obtain ⟨hcz9_0, hcz9_1, hcz9_2, hcz9_3, hcz9_4, hcz9_5, hcz9_6, hcz9_7, hcz9_8, hfz9_0, hfz9_1, hfz9_2, hfz9_3, hfz9_4, hfz9_5, hfz9_6, hfz9_7, hfz9_8⟩ := bk9 BK235.out) | (go_at_call 139; (with_reducible refine (spec_CommittedStamp.calls k a1_0 a1_1 a1_2 a1_3 a1_4 a1_5 a1_6 _ _ l1_7 _ _ l1_8 t239 _ ?side1 ?side2 ?side3 ?side4 A3.out).mono ?_); (case side1 => exact CB HR1_7.out HB.out); (case side2 => exact HC1_7.out); (case side3 => exact CB HR1_8.out HB.out); (case side4 => exact HC1_8.out); rintro e w10 ⟨rfl, hb⟩; replace HO238 := AM_ (Kd.R_below (RT HO238.out) hb); replace BK234 := AM_ (BB BK234.out hb); replace BK235 := AM_ (BB BK235.out hb); replace HB := AM_ (below_step (BT HB.out) hb); (try clear hb); (try clear hb2); (try clear hk); (try clear hi))))
 go_loopg [5, 7] k (fun kq v5 v7 w' => ∃ (x5_1 : List (S76)) (x7_1 : Int), v7 = .int .i64 x7_1 ∧ Aside0 (spec_InstalledVersions.l0 kq x5_1 t239 x7_1 l0_0 a1_0 a1_1 a1_2 a1_3 a1_4 a1_5 a1_6 l1_7 l1_8 = some r) ∧ Aside0 (kq ≤ k) ∧ Aside0 (Kd.R k76 76 w' w.heap.size (fun _ => True) v5 x5_1) ∧ Aside0 (w'.heap[gb234]? = some (.cells #[(.slice A0_0 l0_0.length c0_0)] 49 (0, 0))) ∧ Aside0 (w'.heap[gb235]? = some (.cells #[.int .i64 a1_0, .int .i64 a1_1, .int .i64 a1_2, .int .i64 a1_3, .int .i64 a1_4, .int .i64 a1_5, .int .i64 a1_6, (.slice A1_7 l1_7.length c1_7), (.slice A1_8 l1_8.length c1_8)] 68 (0, 0))) ∧ Aside0 (Below w.heap.size w w'))
 case atStart => exact ⟨(y236), (0), (by first | rfl | (simp; done) | (simp [*]; done)), H', ⟨Nat.le_refl _⟩, ⟨RT HO238.out⟩, ⟨BH BK234.out⟩, ⟨BH BK235.out⟩, ⟨BT HB.out⟩⟩
 case round =>
  clear H'
  try clear c1
  try clear p2
  try clear c5
  try clear c8
  try clear hcz9_0
  try clear hcz9_1
  try clear hcz9_2
  try clear hcz9_3
  try clear hcz9_4
  try clear hcz9_5
  try clear hcz9_6
  try clear hcz9_7
  try clear hcz9_8
  try clear hfz9_0
  try clear hfz9_1
  try clear hfz9_2
  try clear hfz9_3
  try clear hfz9_4
  try clear hfz9_5
  try clear hfz9_6
  try clear hfz9_7
  try clear hfz9_8
  obtain ⟨x5_1, x7_1, rfl, HA, HK1, HO_5, BK234, BK235, HB⟩ := hrel
  cases gk with
  | zero => exact absurd HA.out (by simp [spec_InstalledVersions.l0])
  | succ k1 =>
   have H := HA.out
   clear HA
   simp only [spec_InstalledVersions.l0] at H
   have HC11 := AM_ H
   clear H
   go_upto_region 4 with (fail)
   repeat (go_quiet (fail); go_upto_region 4 with (fail))
   go_cut [24] (fun v24 wc => ∃ (kq : Nat) (x24_10 : Bool), v24 = .bool x24_10 ∧ Aside0 (spec_InstalledVersions.j1 kq x5_1 t239 x7_1 x24_10 l0_0 a1_0 a1_1 a1_2 a1_3 a1_4 a1_5 a1_6 l1_7 l1_8 = some r) ∧ Aside0 (kq ≤ k1) ∧ Aside0 (Kd.R k76 76 wc w.heap.size (fun _ => True) u5 x5_1) ∧ Aside0 (wc.heap[gb234]? = some (.cells #[(.slice A0_0 l0_0.length c0_0)] 49 (0, 0))) ∧ Aside0 (wc.heap[gb235]? = some (.cells #[.int .i64 a1_0, .int .i64 a1_1, .int .i64 a1_2, .int .i64 a1_3, .int .i64 a1_4, .int .i64 a1_5, .int .i64 a1_6, (.slice A1_7 l1_7.length c1_7), (.slice A1_8 l1_8.length c1_8)] 68 (0, 0))) ∧ Aside0 (Below w.heap.size w wc))
   case first =>
    have H := HC11.out
    clear HC11
    by_cases c12 : x7_1 < (l0_0.length : Int)
    rotate_left
    ·rw [if_neg c12] at H
     have c12b0 : decide (x7_1 < (l0_0.length : Int)) = false := decide_eq_false c12
     clear c12
     (first | rw [c12b0] | (simp only [i64_w, i32_w]; rw [c12b0]) | skip)
     have H' := AM_ H
     clear H
     have hnb20 := NB234_235.out
     have hnc20 := NB235_234.out
     obtain ⟨hcz21_0, hfz21_0⟩ := bk1 BK234.out
     go_wp2
     repeat (go_quiet (fail); try go_wp2)
     go_meet
     case rel => exact ⟨_, (false), (by first | rfl | (simp; done) | (simp [*]; done)), H', ⟨by have := HK1.out; first | omega | exact Nat.le_refl _⟩, ⟨RT HO_5.out⟩, ⟨BH BK234.out⟩, ⟨BH BK235.out⟩, ⟨BT HB.out⟩⟩
    rw [if_pos c12] at H
    have c12b0 : decide (x7_1 < (l0_0.length : Int)) = true := decide_eq_true c12
    clear c12
    (first | rw [c12b0] | (simp only [i64_w, i32_w]; rw [c12b0]) | skip)
    by_cases c13 : t239 > 0
    rotate_left
    ·rw [if_neg c13] at H
     have c13b0 : decide (0 < t239) = false := decide_eq_false c13
     clear c13
     have H' := AM_ H
     clear H
     have hnb18 := NB234_235.out
     have hnc18 := NB235_234.out
     obtain ⟨hcz19_0, hfz19_0⟩ := bk1 BK234.out
     go_wp2
     repeat (go_quiet (fail); try go_wp2)
     go_meet
     case rel => exact ⟨_, (false), (by first | rfl | (simp; done) | (simp [*]; done)), H', ⟨by have := HK1.out; first | omega | exact Nat.le_refl _⟩, ⟨RT HO_5.out⟩, ⟨BH BK234.out⟩, ⟨BH BK235.out⟩, ⟨BT HB.out⟩⟩
    rw [if_pos c13] at H
    have c13b0 : decide (0 < t239) = true := decide_eq_true c13
    clear c13
    replace H := Option.bind_eq_some_iff.mp H
    obtain ⟨t240, A140, H⟩ := H
    replace H : (spec_InstalledVersions.j1 k1 x5_1 t239 x7_1 t240 l0_0 a1_0 a1_1 a1_2 a1_3 a1_4 a1_5 a1_6 l1_7 l1_8) = some r := H
    have A14 := AM_ A140
    clear A140
    have H' := AM_ H
    clear H
    have hnb15 := NB234_235.out
    have hnc15 := NB235_234.out
    obtain ⟨hcz16_0, hfz16_0⟩ := bk1 BK234.out
    go_wp2_with (first | (go_at_call 140; (with_reducible refine (spec_IsValidStore.calls k1 _ _ l0_0 t240 _ ?side1 ?side2 A14.out).mono ?_); (case side1 => exact CB HR0_0.out HB.out); (case side2 => exact HC0_0.out); rintro e w17 ⟨rfl, hb⟩; replace HO_5 := AM_ (Kd.R_below (RT HO_5.out) hb); replace BK234 := AM_ (BB BK234.out hb); replace BK235 := AM_ (BB BK235.out hb); replace HB := AM_ (below_step (BT HB.out) hb); (try clear hb); (try clear hb2); (try clear hk); (try clear hi)))
    repeat (go_quiet (first | (go_at_call 140; (with_reducible refine (spec_IsValidStore.calls k1 _ _ l0_0 t240 _ ?side1 ?side2 A14.out).mono ?_); (case side1 => exact CB HR0_0.out HB.out); (case side2 => exact HC0_0.out); rintro e w17 ⟨rfl, hb⟩; replace HO_5 := AM_ (Kd.R_below (RT HO_5.out) hb); replace BK234 := AM_ (BB BK234.out hb); replace BK235 := AM_ (BB BK235.out hb); replace HB := AM_ (below_step (BT HB.out) hb); (try clear hb); (try clear hb2); (try clear hk); (try clear hi))); try go_wp2_with (first | (go_at_call 140; (with_reducible refine (spec_IsValidStore.calls k1 _ _ l0_0 t240 _ ?side1 ?side2 A14.out).mono ?_); (case side1 => exact CB HR0_0.out HB.out); (case side2 => exact HC0_0.out); rintro e w17 ⟨rfl, hb⟩; replace HO_5 := AM_ (Kd.R_below (RT HO_5.out) hb); replace BK234 := AM_ (BB BK234.out hb); replace BK235 := AM_ (BB BK235.out hb); replace HB := AM_ (below_step (BT HB.out) hb); (try clear hb); (try clear hb2); (try clear hk); (try clear hi))))
    go_meet
    case rel => exact ⟨_, (t240), (by first | rfl | (simp; done) | (simp [*]; done)), H', ⟨by have := HK1.out; first | omega | exact Nat.le_refl _⟩, ⟨RT HO_5.out⟩, ⟨BH BK234.out⟩, ⟨BH BK235.out⟩, ⟨BT HB.out⟩⟩
   case rest =>
    clear HC11
    try clear c1
    try clear c2
    try clear p2
    try clear c5
    try clear c8
    try clear c12
    try clear c12b0
    try clear c13
    try clear c13b0
    try clear c15
    try clear c18
    try clear c20
    try clear hcz16_0
    try clear hcz19_0
    try clear hcz21_0
    try clear hcz9_0
    try clear hcz9_1
    try clear hcz9_2
    try clear hcz9_3
    try clear hcz9_4
    try clear hcz9_5
    try clear hcz9_6
    try clear hcz9_7
    try clear hcz9_8
    try clear hfz16_0
    try clear hfz19_0
    try clear hfz21_0
    try clear hfz9_0
    try clear hfz9_1
    try clear hfz9_2
    try clear hfz9_3
    try clear hfz9_4
    try clear hfz9_5
    try clear hfz9_6
    try clear hfz9_7
    try clear hfz9_8
    try clear p2
    obtain ⟨kq, x24_10, rfl, HA, HJ10, HO_5, BK234, BK235, HB⟩ := hcut
    cases kq with
    | zero => exact absurd HA.out (by simp [spec_InstalledVersions.j1])
    | succ kj10 =>
     have H := HA.out
     clear HA
     simp only [spec_InstalledVersions.j1] at H
     by_cases c22 : x24_10 = true
     rotate_left
     ·replace c22 := Bool.eq_false_iff.mpr c22
      subst c22
      have H1 : (some x5_1) = some r := by rw [if_neg (show ¬ (false = true) by decide)] at H; exact H
      clear H
      have H := H1
      clear H1
      obtain rfl := Option.some.inj H
      go_wp2
      repeat (go_quiet (fail); try go_wp2)
      go_ret
      exact ⟨_, by first | rfl | (simp [errW_none, errW_some] <;> rfl) | (simp [*, errW_none, errW_some] <;> rfl), RT HO_5.out, BT HB.out⟩
     subst c22
     have H1 : (if 0 ≤ x7_1 then (if x7_1 < (l0_0.length : Int) then ((spec_FindVersion.f kj10 (rd_L6 l0_0 x7_1) t239).bind fun t242 => (if t242 ≥ 0 then (if 0 ≤ t242 then (if t242 < ((rd_L6 l0_0 x7_1).length : Int) then (if ((rd_T76 (rd_L6 l0_0 x7_1) t242).f0) = a1_0 then (if x5_1.length < 3518437208883 then (spec_InstalledVersions.l0 kj10 (x5_1 ++ [(⟨(rd_T76 (rd_L6 l0_0 x7_1) t242).f0, (rd_T76 (rd_L6 l0_0 x7_1) t242).f1, (rd_T76 (rd_L6 l0_0 x7_1) t242).f2, (rd_T76 (rd_L6 l0_0 x7_1) t242).f3, (rd_T76 (rd_L6 l0_0 x7_1) t242).f4⟩ : S76)]) t239 (wrap64 (x7_1 + 1)) l0_0 a1_0 a1_1 a1_2 a1_3 a1_4 a1_5 a1_6 l1_7 l1_8) else (none)) else (spec_InstalledVersions.l0 kj10 x5_1 t239 (wrap64 (x7_1 + 1)) l0_0 a1_0 a1_1 a1_2 a1_3 a1_4 a1_5 a1_6 l1_7 l1_8)) else (none)) else (none)) else (spec_InstalledVersions.l0 kj10 x5_1 t239 (wrap64 (x7_1 + 1)) l0_0 a1_0 a1_1 a1_2 a1_3 a1_4 a1_5 a1_6 l1_7 l1_8))) else (none)) else (none)) = some r := by rw [if_pos rfl] at H; exact H
     clear H
     have H := H1
     clear H1
     by_cases c23 : 0 ≤ x7_1
     rotate_left
     ·rw [if_neg c23] at H
      exact absurd H (by simp)
     rw [if_pos c23] at H
     have c23b0 : decide (0 ≤ x7_1) = true := decide_eq_true c23
     clear c23
     by_cases c24 : x7_1 < (l0_0.length : Int)
     rotate_left
     ·rw [if_neg c24] at H
      exact absurd H (by simp)
     rw [if_pos c24] at H
     have c24b0 : decide (x7_1 < (l0_0.length : Int)) = true := decide_eq_true c24
     clear c24
     replace H := Option.bind_eq_some_iff.mp H
     obtain ⟨t242, A250, H⟩ := H
     replace H : (if t242 ≥ 0 then (if 0 ≤ t242 then (if t242 < ((rd_L6 l0_0 x7_1).length : Int) then (if ((rd_T76 (rd_L6 l0_0 x7_1) t242).f0) = a1_0 then (if x5_1.length < 3518437208883 then (spec_InstalledVersions.l0 kj10 (x5_1 ++ [(⟨(rd_T76 (rd_L6 l0_0 x7_1) t242).f0, (rd_T76 (rd_L6 l0_0 x7_1) t242).f1, (rd_T76 (rd_L6 l0_0 x7_1) t242).f2, (rd_T76 (rd_L6 l0_0 x7_1) t242).f3, (rd_T76 (rd_L6 l0_0 x7_1) t242).f4⟩ : S76)]) t239 (wrap64 (x7_1 + 1)) l0_0 a1_0 a1_1 a1_2 a1_3 a1_4 a1_5 a1_6 l1_7 l1_8) else (none)) else (spec_InstalledVersions.l0 kj10 x5_1 t239 (wrap64 (x7_1 + 1)) l0_0 a1_0 a1_1 a1_2 a1_3 a1_4 a1_5 a1_6 l1_7 l1_8)) else (none)) else (none)) else (spec_InstalledVersions.l0 kj10 x5_1 t239 (wrap64 (x7_1 + 1)) l0_0 a1_0 a1_1 a1_2 a1_3 a1_4 a1_5 a1_6 l1_7 l1_8)) = some r := H
     have A25 := AM_ A250
     clear A250
     by_cases c26 : t242 ≥ 0
     rotate_left
     ·rw [if_neg c26] at H
      have c26b0 : decide (0 ≤ t242) = false := decide_eq_false c26
      clear c26
      have H' := AM_ H
      clear H
      have hnb38 := NB234_235.out
      have hnc38 := NB235_234.out
      obtain ⟨hcz39_0, hfz39_0⟩ := bk1 BK234.out
      have p241 : 0 ≤ (x7_1 : Int) := DT
      have q241 : x7_1 < (l0_0.length : Int) := DT
      obtain ⟨ad241, A241_0, c241_0, e241, hx241_0, hl241_0, hi241_0⟩ := at_L6 HR0_0.out x7_1 p241 q241
      cases e241
      replace hx241_0 := BC HB.out hx241_0
      have HR241_0 := AM_ hi241_0
      have HC241_0 := AM_ hl241_0
      clear hi241_0 hl241_0
      replace p241 := eq_true p241
      replace q241 := eq_true q241
      go_wp2_with (first | (go_at_call 141; (with_reducible refine (spec_FindVersion.calls kj10 _ _ (rd_L6 l0_0 x7_1) t239 t242 _ ?side1 ?side2 A25.out).mono ?_); (case side1 => exact CB HR241_0.out HB.out); (case side2 => exact HC241_0.out); rintro e w' ⟨rfl, ⟨nd, rfl⟩⟩; (try first | exact ⟨rfl, _, World.drewN_drewN _ _ _⟩ | exact ⟨rfl, _, Eq.trans (World.drewN_drewN _ _ _) (congrArg (World.drewN _) (Nat.add_assoc _ _ _))⟩)))
      repeat (go_quiet (first | (go_at_call 141; (with_reducible refine (spec_FindVersion.calls kj10 _ _ (rd_L6 l0_0 x7_1) t239 t242 _ ?side1 ?side2 A25.out).mono ?_); (case side1 => exact CB HR241_0.out HB.out); (case side2 => exact HC241_0.out); rintro e w' ⟨rfl, ⟨nd, rfl⟩⟩; (try first | exact ⟨rfl, _, World.drewN_drewN _ _ _⟩ | exact ⟨rfl, _, Eq.trans (World.drewN_drewN _ _ _) (congrArg (World.drewN _) (Nat.add_assoc _ _ _))⟩))); try go_wp2_with (first | (go_at_call 141; (with_reducible refine (spec_FindVersion.calls kj10 _ _ (rd_L6 l0_0 x7_1) t239 t242 _ ?side1 ?side2 A25.out).mono ?_); (case side1 => exact CB HR241_0.out HB.out); (case side2 => exact HC241_0.out); rintro e w' ⟨rfl, ⟨nd, rfl⟩⟩; (try first | exact ⟨rfl, _, World.drewN_drewN _ _ _⟩ | exact ⟨rfl, _, Eq.trans (World.drewN_drewN _ _ _) (congrArg (World.drewN _) (Nat.add_assoc _ _ _))⟩))))
      go_roundg kj10
      case measure => have := HK1.out; have := HJ10.out; omega
      case rel => exact ⟨(x5_1), (wrap64 (x7_1 + 1)), (by first | rfl | (simp; done) | (simp [*]; done)), H', ⟨by have := HK1.out; have := HJ10.out; omega⟩, ⟨RT HO_5.out⟩, ⟨BH BK234.out⟩, ⟨BH BK235.out⟩, ⟨BT HB.out⟩⟩
     rw [if_pos c26] at H
     have c26b0 : decide (0 ≤ t242) = true := decide_eq_true c26
     clear c26
     by_cases c27 : 0 ≤ t242
     rotate_left
     ·rw [if_neg c27] at H
      exact absurd H (by simp)
     rw [if_pos c27] at H
     have c27b0 : decide (0 ≤ t242) = true := decide_eq_true c27
     clear c27
     by_cases c28 : t242 < ((rd_L6 l0_0 x7_1).length : Int)
     rotate_left
     ·rw [if_neg c28] at H
      exact absurd H (by simp)
     rw [if_pos c28] at H
     have c28b0 : decide (t242 < ((rd_L6 l0_0 x7_1).length : Int)) = true := decide_eq_true c28
     clear c28
     by_cases c29 : ((rd_T76 (rd_L6 l0_0 x7_1) t242).f0) = a1_0
     rotate_left
     ·rw [if_neg c29] at H
      have c29b0 : (((rd_T76 (rd_L6 l0_0 x7_1) t242).f0) == a1_0) = false := beq_eq_false_iff_ne.mpr c29
      have c29b1 : (((rd_T76 (rd_L6 l0_0 x7_1) t242).f0) != a1_0) = true := bne_iff_ne.mpr c29
      have H' := AM_ H
      clear H
      have hnb35 := NB234_235.out
      have hnc35 := NB235_234.out
      obtain ⟨hcz36_0, hfz36_0⟩ := bk1 BK234.out
      have p241 : 0 ≤ (x7_1 : Int) := DT
      have q241 : x7_1 < (l0_0.length : Int) := DT
      obtain ⟨ad241, A241_0, c241_0, e241, hx241_0, hl241_0, hi241_0⟩ := at_L6 HR0_0.out x7_1 p241 q241
      cases e241
      replace hx241_0 := BC HB.out hx241_0
      have HR241_0 := AM_ hi241_0
      have HC241_0 := AM_ hl241_0
      clear hi241_0 hl241_0
      replace p241 := eq_true p241
      replace q241 := eq_true q241
      go_wp2_with (first | (go_at_call 141; (with_reducible refine (spec_FindVersion.calls kj10 _ _ (rd_L6 l0_0 x7_1) t239 t242 _ ?side1 ?side2 A25.out).mono ?_); (case side1 => exact CB HR241_0.out HB.out); (case side2 => exact HC241_0.out); rintro e w' ⟨rfl, ⟨nd, rfl⟩⟩; (try first | exact ⟨rfl, _, World.drewN_drewN _ _ _⟩ | exact ⟨rfl, _, Eq.trans (World.drewN_drewN _ _ _) (congrArg (World.drewN _) (Nat.add_assoc _ _ _))⟩); have p243 : 0 ≤ (x7_1 : Int) := DT; have q243 : x7_1 < (l0_0.length : Int) := DT; obtain ⟨ad243, A243_0, c243_0, e243, hx243_0, hl243_0, hi243_0⟩ := at_L6 HR0_0.out x7_1 p243 q243; obtain rfl : ad241 = ad243 := (by injection e243); replace hx243_0 := BD HB.out hx243_0; have HR243_0 := AM_ hi243_0; have HC243_0 := AM_ hl243_0; clear hi243_0 hl243_0; replace p243 := eq_true p243; replace q243 := eq_true q243; have ea_ := Option.some.inj (hx241_0.symm.trans hx243_0); injection ea_ with ea_ en_ ec_; subst ea_; subst ec_; clear en_; have p244 : 0 ≤ (t242 : Int) := DT; have q244 : t242 < ((rd_L6 l0_0 x7_1).length : Int) := DT; obtain ⟨ad244, e244, hx244_0, hx244_1, hx244_2, hx244_3, hx244_4⟩ := at_T76 HR243_0.out t242 p244 q244; cases e244; replace hx244_0 := BD HB.out hx244_0; replace hx244_1 := BD HB.out hx244_1; replace hx244_2 := BD HB.out hx244_2; replace hx244_3 := BD HB.out hx244_3; replace hx244_4 := BD HB.out hx244_4; replace p244 := eq_true p244; replace q244 := eq_true q244; obtain ⟨hcz37_0, hcz37_1, hcz37_2, hcz37_3, hcz37_4, hcz37_5, hcz37_6, hcz37_7, hcz37_8, hfz37_0, hfz37_1, hfz37_2, hfz37_3, hfz37_4, hfz37_5, hfz37_6, hfz37_7, hfz37_8⟩ := bk9 BK235.out))
      repeat (go_quiet (first | (go_at_call 141; (with_reducible refine (spec_FindVersion.calls kj10 _ _ (rd_L6 l0_0 x7_1) t239 t242 _ ?side1 ?side2 A25.out).mono ?_); (case side1 => exact CB HR241_0.out HB.out); (case side2 => exact HC241_0.out); rintro e w' ⟨rfl, ⟨nd, rfl⟩⟩; (try first | exact ⟨rfl, _, World.drewN_drewN _ _ _⟩ | exact ⟨rfl, _, Eq.trans (World.drewN_drewN _ _ _) (congrArg (World.drewN _) (Nat.add_assoc _ _ _))⟩); have p243 : 0 ≤ (x7_1 : Int) := DT; have q243 : x7_1 < (l0_0.length : Int) := DT; obtain ⟨ad243, A243_0, c243_0, e243, hx243_0, hl243_0, hi243_0⟩ := at_L6 HR0_0.out x7_1 p243 q243; obtain rfl : ad241 = ad243 := (by injection e243); replace hx243_0 := BD HB.out hx243_0; have HR243_0 := AM_ hi243_0; have HC243_0 := AM_ hl243_0; clear hi243_0 hl243_0; replace p243 := eq_true p243; replace q243 := eq_true q243; have ea_ := Option.some.inj (hx241_0.symm.trans hx243_0); injection ea_ with ea_ en_ ec_; subst ea_; subst ec_; clear en_; have p244 : 0 ≤ (t242 : Int) := DT; have q244 : t242 < ((rd_L6 l0_0 x7_1).length : Int) := DT; obtain ⟨ad244, e244, hx244_0, hx244_1, hx244_2, hx244_3, hx244_4⟩ := at_T76 HR243_0.out t242 p244 q244; cases e244; replace hx244_0 := BD HB.out hx244_0; replace hx244_1 := BD HB.out hx244_1; replace hx244_2 := BD HB.out hx244_2; replace hx244_3 := BD HB.out hx244_3; replace hx244_4 := BD HB.out hx244_4; replace p244 := eq_true p244; replace q244 := eq_true q244; obtain ⟨hcz37_0, hcz37_1, hcz37_2, hcz37_3, hcz37_4, hcz37_5, hcz37_6, hcz37_7, hcz37_8, hfz37_0, hfz37_1, hfz37_2, hfz37_3, hfz37_4, hfz37_5, hfz37_6, hfz37_7, hfz37_8⟩ := bk9 BK235.out)); try go_wp2_with (first | (go_at_call 141; (with_reducible refine (spec_FindVersion.calls kj10 _ _ (rd_L6 l0_0 x7_1) t239 t242 _ ?side1 ?side2 A25.out).mono ?_); (case side1 => exact CB HR241_0.out HB.out); (case side2 => exact HC241_0.out); rintro e w' ⟨rfl, ⟨nd, rfl⟩⟩; (try first | exact ⟨rfl, _, World.drewN_drewN _ _ _⟩ | exact ⟨rfl, _, Eq.trans (World.drewN_drewN _ _ _) (congrArg (World.drewN _) (Nat.add_assoc _ _ _))⟩); have p243 : 0 ≤ (x7_1 : Int) := DT; have q243 : x7_1 < (l0_0.length : Int) := DT; obtain ⟨ad243, A243_0, c243_0, e243, hx243_0, hl243_0, hi243_0⟩ := at_L6 HR0_0.out x7_1 p243 q243; obtain rfl : ad241 = ad243 := (by injection e243); replace hx243_0 := BD HB.out hx243_0; have HR243_0 := AM_ hi243_0; have HC243_0 := AM_ hl243_0; clear hi243_0 hl243_0; replace p243 := eq_true p243; replace q243 := eq_true q243; have ea_ := Option.some.inj (hx241_0.symm.trans hx243_0); injection ea_ with ea_ en_ ec_; subst ea_; subst ec_; clear en_; have p244 : 0 ≤ (t242 : Int) := DT; have q244 : t242 < ((rd_L6 l0_0 x7_1).length : Int) := DT; obtain ⟨ad244, e244, hx244_0, hx244_1, hx244_2, hx244_3, hx244_4⟩ := at_T76 HR243_0.out t242 p244 q244; cases e244; replace hx244_0 := BD HB.out hx244_0; replace hx244_1 := BD HB.out hx244_1; replace hx244_2 := BD HB.out hx244_2; replace hx244_3 := BD HB.out hx244_3; replace hx244_4 := BD HB.out hx244_4; replace p244 := eq_true p244; replace q244 := eq_true q244; obtain ⟨hcz37_0, hcz37_1, hcz37_2, hcz37_3, hcz37_4, hcz37_5, hcz37_6, hcz37_7, hcz37_8, hfz37_0, hfz37_1, hfz37_2, hfz37_3, hfz37_4, hfz37_5, hfz37_6, hfz37_7, hfz37_8⟩ := bk9 BK235.out)))
      go_roundg kj10
      case measure => have := HK1.out; have := HJ10.out; omega
      case rel => exact ⟨(x5_1), (wrap64 (x7_1 + 1)), (by first | rfl | (simp; done) | (simp [*]; done)), H', ⟨by have := HK1.out; have := HJ10.out; omega⟩, ⟨RT HO_5.out⟩, ⟨BH BK234.out⟩, ⟨BH BK235.out⟩, ⟨BT HB.out⟩⟩
     rw [if_pos c29] at H
     have c29b0 : (((rd_T76 (rd_L6 l0_0 x7_1) t242).f0) == a1_0) = true := beq_iff_eq.mpr c29
     have c29b1 : (((rd_T76 (rd_L6 l0_0 x7_1) t242).f0) != a1_0) = false := bne_eq_false_iff_eq.mpr c29
     clear c29
     by_cases c30 : x5_1.length < 3518437208883
     rotate_left
     ·rw [if_neg c30] at H
      exact absurd H (by simp)
     rw [if_pos c30] at H
     have LMc30 := AM_ c30
     clear c30
     obtain ⟨y247, hy247⟩ : ∃ y_ : List (S76), y_ = (x5_1 ++ [(⟨(rd_T76 (rd_L6 l0_0 x7_1) t242).f0, (rd_T76 (rd_L6 l0_0 x7_1) t242).f1, (rd_T76 (rd_L6 l0_0 x7_1) t242).f2, (rd_T76 (rd_L6 l0_0 x7_1) t242).f3, (rd_T76 (rd_L6 l0_0 x7_1) t242).f4⟩ : S76)]) := ⟨_, rfl⟩
     replace H : (spec_InstalledVersions.l0 kj10 y247 t239 (wrap64 (x7_1 + 1)) l0_0 a1_0 a1_1 a1_2 a1_3 a1_4 a1_5 a1_6 l1_7 l1_8) = some r := by first | (rw [hy247]; with_reducible exact H) | (have H2_ := (Option.bind_some _ _).symm.trans H; rw [hy247]; with_reducible exact H2_) | (have H2_ := (Option.bind_some _ _).symm.trans H; with_reducible exact H2_) | with_reducible exact H | (rw [hy247]; exact H) | exact H
     have Ny247 := AM_ hy247
     clear hy247
     have H' := AM_ H
     clear H
     have hnb31 := NB234_235.out
     have hnc31 := NB235_234.out
     obtain ⟨hcz32_0, hfz32_0⟩ := bk1 BK234.out
     have p241 : 0 ≤ (x7_1 : Int) := DT
     have q241 : x7_1 < (l0_0.length : Int) := DT
     obtain ⟨ad241, A241_0, c241_0, e241, hx241_0, hl241_0, hi241_0⟩ := at_L6 HR0_0.out x7_1 p241 q241
     cases e241
     replace hx241_0 := BC HB.out hx241_0
     have HR241_0 := AM_ hi241_0
     have HC241_0 := AM_ hl241_0
     clear hi241_0 hl241_0
     replace p241 := eq_true p241
     replace q241 := eq_true q241
     go_wp2_with (first | (go_at_call 141; (with_reducible refine (spec_FindVersion.calls kj10 _ _ (rd_L6 l0_0 x7_1) t239 t242 _ ?side1 ?side2 A25.out).mono ?_); (case side1 => exact CB HR241_0.out HB.out); (case side2 => exact HC241_0.out); rintro e w' ⟨rfl, ⟨nd, rfl⟩⟩; (try first | exact ⟨rfl, _, World.drewN_drewN _ _ _⟩ | exact ⟨rfl, _, Eq.trans (World.drewN_drewN _ _ _) (congrArg (World.drewN _) (Nat.add_assoc _ _ _))⟩); have p243 : 0 ≤ (x7_1 : Int) := DT; have q243 : x7_1 < (l0_0.length : Int) := DT; obtain ⟨ad243, A243_0, c243_0, e243, hx243_0, hl243_0, hi243_0⟩ := at_L6 HR0_0.out x7_1 p243 q243; obtain rfl : ad241 = ad243 := (by injection e243); replace hx243_0 := BD HB.out hx243_0; have HR243_0 := AM_ hi243_0; have HC243_0 := AM_ hl243_0; clear hi243_0 hl243_0; replace p243 := eq_true p243; replace q243 := eq_true q243; have ea_ := Option.some.inj (hx241_0.symm.trans hx243_0); injection ea_ with ea_ en_ ec_; subst ea_; subst ec_; clear en_; have p244 : 0 ≤ (t242 : Int) := DT; have q244 : t242 < ((rd_L6 l0_0 x7_1).length : Int) := DT; obtain ⟨ad244, e244, hx244_0, hx244_1, hx244_2, hx244_3, hx244_4⟩ := at_T76 HR243_0.out t242 p244 q244; cases e244; replace hx244_0 := BD HB.out hx244_0; replace hx244_1 := BD HB.out hx244_1; replace hx244_2 := BD HB.out hx244_2; replace hx244_3 := BD HB.out hx244_3; replace hx244_4 := BD HB.out hx244_4; replace p244 := eq_true p244; replace q244 := eq_true q244; obtain ⟨hcz33_0, hcz33_1, hcz33_2, hcz33_3, hcz33_4, hcz33_5, hcz33_6, hcz33_7, hcz33_8, hfz33_0, hfz33_1, hfz33_2, hfz33_3, hfz33_4, hfz33_5, hfz33_6, hfz33_7, hfz33_8⟩ := bk9 BK235.out; have p245 : 0 ≤ (x7_1 : Int) := DT; have q245 : x7_1 < (l0_0.length : Int) := DT; obtain ⟨ad245, A245_0, c245_0, e245, hx245_0, hl245_0, hi245_0⟩ := at_L6 HR0_0.out x7_1 p245 q245; obtain rfl : ad241 = ad245 := (by injection e245); replace hx245_0 := BD HB.out hx245_0; have HR245_0 := AM_ hi245_0; have HC245_0 := AM_ hl245_0; clear hi245_0 hl245_0; replace p245 := eq_true p245; replace q245 := eq_true q245; have ea_ := Option.some.inj (hx241_0.symm.trans hx245_0); injection ea_ with ea_ en_ ec_; subst ea_; subst ec_; clear en_; have p246 : 0 ≤ (t242 : Int) := DT; have q246 : t242 < ((rd_L6 l0_0 x7_1).length : Int) := DT; obtain ⟨ad246, e246, hx246_0, hx246_1, hx246_2, hx246_3, hx246_4⟩ := at_T76 HR245_0.out t242 p246 q246; cases e246; replace hx246_0 := BD HB.out hx246_0; replace hx246_1 := BD HB.out hx246_1; replace hx246_2 := BD HB.out hx246_2; replace hx246_3 := BD HB.out hx246_3; replace hx246_4 := BD HB.out hx246_4; replace p246 := eq_true p246; replace q246 := eq_true q246) | ((with_reducible refine gate_builtin (b := .append) (xs := #[.tmp 50, .tmp 59]) rfl ?_); at_builtin; refine Kd.R_append k76 (w0 := w) w.heap.size rfl (.tmp 50) (.tmp 59) 90 76 (.agg #[(.int .i64 0), (.int .i64 0), (.int .i64 0), (.int .i64 0), (.int .i64 0)]) 40 rfl Try.underlying90 info76 rfl (by decide) (by omega) u5 x5_1 (⟨(rd_T76 (rd_L6 l0_0 x7_1) t242).f0, (rd_T76 (rd_L6 l0_0 x7_1) t242).f1, (rd_T76 (rd_L6 l0_0 x7_1) t242).f2, (rd_T76 (rd_L6 l0_0 x7_1) t242).f3, (rd_T76 (rd_L6 l0_0 x7_1) t242).f4⟩ : S76) [.int .i64 ((rd_T76 (rd_L6 l0_0 x7_1) t242).f0), .int .i64 ((rd_T76 (rd_L6 l0_0 x7_1) t242).f1), .int .i64 ((rd_T76 (rd_L6 l0_0 x7_1) t242).f2), .int .i64 ((rd_T76 (rd_L6 l0_0 x7_1) t242).f3), .int .i64 ((rd_T76 (rd_L6 l0_0 x7_1) t242).f4)] (fun _ => True) (fun _ => False) rfl rfl ?aP (fun _ hk => hk.elim) ?aF ?aO ?aB ?aS ?aL ?_; (case aP => exact k76_mkM _ _ _ (⟨(rd_T76 (rd_L6 l0_0 x7_1) t242).f0, (rd_T76 (rd_L6 l0_0 x7_1) t242).f1, (rd_T76 (rd_L6 l0_0 x7_1) t242).f2, (rd_T76 (rd_L6 l0_0 x7_1) t242).f3, (rd_T76 (rd_L6 l0_0 x7_1) t242).f4⟩ : S76)); (case aB => exact (BT HB.out)); (case aF => exact (fun _ _ => trivial)); (case aO => exact (RT HO_5.out)); (case aS => exact (below_size (BT HB.out))); (case aL => have := LMc30.out; omega); intro v248 w34 ho hb hg hat; rw [← Ny247.out] at ho; have n0_ := AM_ (blk_grown (g := gb234) (o := .cells #[.slice (some ad241) l0_0.length c0_0] 49 (0, 0)) (by (with_reducible repeat (first | refine blk_drewN ?_ _ | refine blk_drew ?_ | refine blk_alloc ?_ _)); exact BK234.out) hg (Kd.R_ne HO_5.out BK234.out (by decide))); have n1_ := AM_ (blk_grown (g := gb235) (o := .cells #[.int .i64 a1_0, .int .i64 a1_1, .int .i64 a1_2, .int .i64 a1_3, .int .i64 a1_4, .int .i64 a1_5, .int .i64 a1_6, .slice A1_7 l1_7.length c1_7, .slice A1_8 l1_8.length c1_8] 68 (0, 0)) (by (with_reducible repeat (first | refine blk_drewN ?_ _ | refine blk_drew ?_ | refine blk_alloc ?_ _)); exact BK235.out) hg (Kd.R_ne HO_5.out BK235.out (by decide))); have n2_ := AM_ (hb); have n3_ := AM_ (ho); clear BK234; clear BK235; clear HB; clear HO_5; have BK234 := n0_; have BK235 := n1_; have HB := n2_; have HO249 := n3_; clear n0_ n1_ n2_ n3_; clear ho hb hg hat))
     repeat (go_quiet (first | (go_at_call 141; (with_reducible refine (spec_FindVersion.calls kj10 _ _ (rd_L6 l0_0 x7_1) t239 t242 _ ?side1 ?side2 A25.out).mono ?_); (case side1 => exact CB HR241_0.out HB.out); (case side2 => exact HC241_0.out); rintro e w' ⟨rfl, ⟨nd, rfl⟩⟩; (try first | exact ⟨rfl, _, World.drewN_drewN _ _ _⟩ | exact ⟨rfl, _, Eq.trans (World.drewN_drewN _ _ _) (congrArg (World.drewN _) (Nat.add_assoc _ _ _))⟩); have p243 : 0 ≤ (x7_1 : Int) := DT; have q243 : x7_1 < (l0_0.length : Int) := DT; obtain ⟨ad243, A243_0, c243_0, e243, hx243_0, hl243_0, hi243_0⟩ := at_L6 HR0_0.out x7_1 p243 q243; obtain rfl : ad241 = ad243 := (by injection e243); replace hx243_0 := BD HB.out hx243_0; have HR243_0 := AM_ hi243_0; have HC243_0 := AM_ hl243_0; clear hi243_0 hl243_0; replace p243 := eq_true p243; replace q243 := eq_true q243; have ea_ := Option.some.inj (hx241_0.symm.trans hx243_0); injection ea_ with ea_ en_ ec_; subst ea_; subst ec_; clear en_; have p244 : 0 ≤ (t242 : Int) := DT; have q244 : t242 < ((rd_L6 l0_0 x7_1).length : Int) := DT; obtain ⟨ad244, e244, hx244_0, hx244_1, hx244_2, hx244_3, hx244_4⟩ := at_T76 HR243_0.out t242 p244 q244; cases e244; replace hx244_0 := BD HB.out hx244_0; replace hx244_1 := BD HB.out hx244_1; replace hx244_2 := BD HB.out hx244_2; replace hx244_3 := BD HB.out hx244_3; replace hx244_4 := BD HB.out hx244_4; replace p244 := eq_true p244; replace q244 := eq_true q244; obtain ⟨hcz33_0, hcz33_1, hcz33_2, hcz33_3, hcz33_4, hcz33_5, hcz33_6, hcz33_7, hcz33_8, hfz33_0, hfz33_1, hfz33_2, hfz33_3, hfz33_4, hfz33_5, hfz33_6, hfz33_7, hfz33_8⟩ := bk9 BK235.out; have p245 : 0 ≤ (x7_1 : Int) := DT; have q245 : x7_1 < (l0_0.length : Int) := DT; obtain ⟨ad245, A245_0, c245_0, e245, hx245_0, hl245_0, hi245_0⟩ := at_L6 HR0_0.out x7_1 p245 q245; obtain rfl : ad241 = ad245 := (by injection e245); replace hx245_0 := BD HB.out hx245_0; have HR245_0 := AM_ hi245_0; have HC245_0 := AM_ hl245_0; clear hi245_0 hl245_0; replace p245 := eq_true p245; replace q245 := eq_true q245; have ea_ := Option.some.inj (hx241_0.symm.trans hx245_0); injection ea_ with ea_ en_ ec_; subst ea_; subst ec_; clear en_; have p246 : 0 ≤ (t242 : Int) := DT; have q246 : t242 < ((rd_L6 l0_0 x7_1).length : Int) := DT; obtain ⟨ad246, e246, hx246_0, hx246_1, hx246_2, hx246_3, hx246_4⟩ := at_T76 HR245_0.out t242 p246 q246; cases e246; replace hx246_0 := BD HB.out hx246_0; replace hx246_1 := BD HB.out hx246_1; replace hx246_2 := BD HB.out hx246_2; replace hx246_3 := BD HB.out hx246_3; replace hx246_4 := BD HB.out hx246_4; replace p246 := eq_true p246; replace q246 := eq_true q246) | ((with_reducible refine gate_builtin (b := .append) (xs := #[.tmp 50, .tmp 59]) rfl ?_); at_builtin; refine Kd.R_append k76 (w0 := w) w.heap.size rfl (.tmp 50) (.tmp 59) 90 76 (.agg #[(.int .i64 0), (.int .i64 0), (.int .i64 0), (.int .i64 0), (.int .i64 0)]) 40 rfl Try.underlying90 info76 rfl (by decide) (by omega) u5 x5_1 (⟨(rd_T76 (rd_L6 l0_0 x7_1) t242).f0, (rd_T76 (rd_L6 l0_0 x7_1) t242).f1, (rd_T76 (rd_L6 l0_0 x7_1) t242).f2, (rd_T76 (rd_L6 l0_0 x7_1) t242).f3, (rd_T76 (rd_L6 l0_0 x7_1) t242).f4⟩ : S76) [.int .i64 ((rd_T76 (rd_L6 l0_0 x7_1) t242).f0), .int .i64 ((rd_T76 (rd_L6 l0_0 x7_1) t242).f1), .int .i64 ((rd_T76 (rd_L6 l0_0 x7_1) t242).f2), .int .i64 ((rd_T76 (rd_L6 l0_0 x7_1) t242).f3), .int .i64 ((rd_T76 (rd_L6 l0_0 x7_1) t242).f4)] (fun _ => True) (fun _ => False) rfl rfl ?aP (fun _ hk => hk.elim) ?aF ?aO ?aB ?aS ?aL ?_; (case aP => exact k76_mkM _ _ _ (⟨(rd_T76 (rd_L6 l0_0 x7_1) t242).f0, (rd_T76 (rd_L6 l0_0 x7_1) t242).f1, (rd_T76 (rd_L6 l0_0 x7_1) t242).f2, (rd_T76 (rd_L6 l0_0 x7_1) t242).f3, (rd_T76 (rd_L6 l0_0 x7_1) t242).f4⟩ : S76)); (case aB => exact (BT HB.out)); (case aF => exact (fun _ _ => trivial)); (case aO => exact (RT HO_5.out)); (case aS => exact (below_size (BT HB.out))); (case aL => have := LMc30.out; omega); intro v248 w34 ho hb hg hat; rw [← Ny247.out] at ho; have n0_ := AM_ (blk_grown (g := gb234) (o := .cells #[.slice (some ad241) l0_0.length c0_0] 49 (0, 0)) (by (with_reducible repeat (first | refine blk_drewN ?_ _ | refine blk_drew ?_ | refine blk_alloc ?_ _)); exact BK234.out) hg (Kd.R_ne HO_5.out BK234.out (by decide))); have n1_ := AM_ (blk_grown (g := gb235) (o := .cells #[.int .i64 a1_0, .int .i64 a1_1, .int .i64 a1_2, .int .i64 a1_3, .int .i64 a1_4, .int .i64 a1_5, .int .i64 a1_6, .slice A1_7 l1_7.length c1_7, .slice A1_8 l1_8.length c1_8] 68 (0, 0)) (by (with_reducible repeat (first | refine blk_drewN ?_ _ | refine blk_drew ?_ | refine blk_alloc ?_ _)); exact BK235.out) hg (Kd.R_ne HO_5.out BK235.out (by decide))); have n2_ := AM_ (hb); have n3_ := AM_ (ho); clear BK234; clear BK235; clear HB; clear HO_5; have BK234 := n0_; have BK235 := n1_; have HB := n2_; have HO249 := n3_; clear n0_ n1_ n2_ n3_; clear ho hb hg hat)); try go_wp2_with (first | (go_at_call 141; (with_reducible refine (spec_FindVersion.calls kj10 _ _ (rd_L6 l0_0 x7_1) t239 t242 _ ?side1 ?side2 A25.out).mono ?_); (case side1 => exact CB HR241_0.out HB.out); (case side2 => exact HC241_0.out); rintro e w' ⟨rfl, ⟨nd, rfl⟩⟩; (try first | exact ⟨rfl, _, World.drewN_drewN _ _ _⟩ | exact ⟨rfl, _, Eq.trans (World.drewN_drewN _ _ _) (congrArg (World.drewN _) (Nat.add_assoc _ _ _))⟩); have p243 : 0 ≤ (x7_1 : Int) := DT; have q243 : x7_1 < (l0_0.length : Int) := DT; obtain ⟨ad243, A243_0, c243_0, e243, hx243_0, hl243_0, hi243_0⟩ := at_L6 HR0_0.out x7_1 p243 q243; obtain rfl : ad241 = ad243 := (by injection e243); replace hx243_0 := BD HB.out hx243_0; have HR243_0 := AM_ hi243_0; have HC243_0 := AM_ hl243_0; clear hi243_0 hl243_0; replace p243 := eq_true p243; replace q243 := eq_true q243; have ea_ := Option.some.inj (hx241_0.symm.trans hx243_0); injection ea_ with ea_ en_ ec_; subst ea_; subst ec_; clear en_; have p244 : 0 ≤ (t242 : Int) := DT; have q244 : t242 < ((rd_L6 l0_0 x7_1).length : Int) := DT; obtain ⟨ad244, e244, hx244_0, hx244_1, hx244_2, hx244_3, hx244_4⟩ := at_T76 HR243_0.out t242 p244 q244; cases e244; replace hx244_0 := BD HB.out hx244_0; replace hx244_1 := BD HB.out hx244_1; replace hx244_2 := BD HB.out hx244_2; replace hx244_3 := BD HB.out hx244_3; replace hx244_4 := BD HB.out hx244_4; replace p244 := eq_true p244; replace q244 := eq_true q244; obtain ⟨hcz33_0, hcz33_1, hcz33_2, hcz33_3, hcz33_4, hcz33_5, hcz33_6, hcz33_7, hcz33_8, hfz33_0, hfz33_1, hfz33_2, hfz33_3, hfz33_4, hfz33_5, hfz33_6, hfz33_7, hfz33_8⟩ := bk9 BK235.out; have p245 : 0 ≤ (x7_1 : Int) := DT; have q245 : x7_1 < (l0_0.length : Int) := DT; obtain ⟨ad245, A245_0, c245_0, e245, hx245_0, hl245_0, hi245_0⟩ := at_L6 HR0_0.out x7_1 p245 q245; obtain rfl : ad241 = ad245 := (by injection e245); replace hx245_0 := BD HB.out hx245_0; have HR245_0 := AM_ hi245_0; have HC245_0 := AM_ hl245_0; clear hi245_0 hl245_0; replace p245 := eq_true p245; replace q245 := eq_true q245; have ea_ := Option.some.inj (hx241_0.symm.trans hx245_0); injection ea_ with ea_ en_ ec_; subst ea_; subst ec_; clear en_; have p246 : 0 ≤ (t242 : Int) := DT; have q246 : t242 < ((rd_L6 l0_0 x7_1).length : Int) := DT; obtain ⟨ad246, e246, hx246_0, hx246_1, hx246_2, hx246_3, hx246_4⟩ := at_T76 HR245_0.out t242 p246 q246; cases e246; replace hx246_0 := BD HB.out hx246_0; replace hx246_1 := BD HB.out hx246_1; replace hx246_2 := BD HB.out hx246_2; replace hx246_3 := BD HB.out hx246_3; replace hx246_4 := BD HB.out hx246_4; replace p246 := eq_true p246; replace q246 := eq_true q246) | ((with_reducible refine gate_builtin (b := .append) (xs := #[.tmp 50, .tmp 59]) rfl ?_); at_builtin; refine Kd.R_append k76 (w0 := w) w.heap.size rfl (.tmp 50) (.tmp 59) 90 76 (.agg #[(.int .i64 0), (.int .i64 0), (.int .i64 0), (.int .i64 0), (.int .i64 0)]) 40 rfl Try.underlying90 info76 rfl (by decide) (by omega) u5 x5_1 (⟨(rd_T76 (rd_L6 l0_0 x7_1) t242).f0, (rd_T76 (rd_L6 l0_0 x7_1) t242).f1, (rd_T76 (rd_L6 l0_0 x7_1) t242).f2, (rd_T76 (rd_L6 l0_0 x7_1) t242).f3, (rd_T76 (rd_L6 l0_0 x7_1) t242).f4⟩ : S76) [.int .i64 ((rd_T76 (rd_L6 l0_0 x7_1) t242).f0), .int .i64 ((rd_T76 (rd_L6 l0_0 x7_1) t242).f1), .int .i64 ((rd_T76 (rd_L6 l0_0 x7_1) t242).f2), .int .i64 ((rd_T76 (rd_L6 l0_0 x7_1) t242).f3), .int .i64 ((rd_T76 (rd_L6 l0_0 x7_1) t242).f4)] (fun _ => True) (fun _ => False) rfl rfl ?aP (fun _ hk => hk.elim) ?aF ?aO ?aB ?aS ?aL ?_; (case aP => exact k76_mkM _ _ _ (⟨(rd_T76 (rd_L6 l0_0 x7_1) t242).f0, (rd_T76 (rd_L6 l0_0 x7_1) t242).f1, (rd_T76 (rd_L6 l0_0 x7_1) t242).f2, (rd_T76 (rd_L6 l0_0 x7_1) t242).f3, (rd_T76 (rd_L6 l0_0 x7_1) t242).f4⟩ : S76)); (case aB => exact (BT HB.out)); (case aF => exact (fun _ _ => trivial)); (case aO => exact (RT HO_5.out)); (case aS => exact (below_size (BT HB.out))); (case aL => have := LMc30.out; omega); intro v248 w34 ho hb hg hat; rw [← Ny247.out] at ho; have n0_ := AM_ (blk_grown (g := gb234) (o := .cells #[.slice (some ad241) l0_0.length c0_0] 49 (0, 0)) (by (with_reducible repeat (first | refine blk_drewN ?_ _ | refine blk_drew ?_ | refine blk_alloc ?_ _)); exact BK234.out) hg (Kd.R_ne HO_5.out BK234.out (by decide))); have n1_ := AM_ (blk_grown (g := gb235) (o := .cells #[.int .i64 a1_0, .int .i64 a1_1, .int .i64 a1_2, .int .i64 a1_3, .int .i64 a1_4, .int .i64 a1_5, .int .i64 a1_6, .slice A1_7 l1_7.length c1_7, .slice A1_8 l1_8.length c1_8] 68 (0, 0)) (by (with_reducible repeat (first | refine blk_drewN ?_ _ | refine blk_drew ?_ | refine blk_alloc ?_ _)); exact BK235.out) hg (Kd.R_ne HO_5.out BK235.out (by decide))); have n2_ := AM_ (hb); have n3_ := AM_ (ho); clear BK234; clear BK235; clear HB; clear HO_5; have BK234 := n0_; have BK235 := n1_; have HB := n2_; have HO249 := n3_; clear n0_ n1_ n2_ n3_; clear ho hb hg hat)))
     go_roundg kj10
     case measure => have := HK1.out; have := HJ10.out; omega
     case rel => exact ⟨(y247), (wrap64 (x7_1 + 1)), (by first | rfl | (simp; done) | (simp [*]; done)), H', ⟨by have := HK1.out; have := HJ10.out; omega⟩, ⟨RT HO249.out⟩, ⟨BH BK234.out⟩, ⟨BH BK235.out⟩, ⟨BT HB.out⟩⟩

/-! ### impl_in: function 130 -/
def impl_in.f (a0 : Int) (a1 : Int) (a2 : Int) : Option (Bool) := if a1 ≤ a0 then (some (decide (a0 ≤ a2))) else (some false)
set_option maxHeartbeats 8000000 in
set_option maxRecDepth 100000 in
theorem impl_in.calls (a0 : Int) (a1 : Int) (a2 : Int) (r : Bool) (w : World) (h : impl_in.f a0 a1 a2 = some r) :
  Calls Try.prog 130 #[.int .i64 a0, .int .i64 a1, .int .i64 a2] w fun e w' => e = .returned (.bool r) ∧ Drawn0 w w' := by
 have H : (if a1 ≤ a0 then (some (decide (a0 ≤ a2))) else (some false)) = some r := h
 clear h
 by_cases c4 : a1 ≤ a0
 ·rw [if_pos c4] at H
  have c4b0 : decide (a1 ≤ a0) = true := decide_eq_true c4
  clear c4
  obtain rfl := Option.some.inj H
  go_enter Try.func130, Try.ntmps130
  go_wp2
  go_ret
  exact ⟨by first | rfl | (simp; done) | (simp [*]; done), by repeat (first | exact Drawn0.refl _ | apply Drawn0.step)⟩
 rw [if_neg c4] at H
 have c4b0 : decide (a1 ≤ a0) = false := decide_eq_false c4
 clear c4
 obtain rfl := Option.some.inj H
 go_enter Try.func130, Try.ntmps130
 go_wp2
 go_ret
 exact ⟨by first | rfl | (simp; done) | (simp [*]; done), by repeat (first | exact Drawn0.refl _ | apply Drawn0.step)⟩

/-! ### impl_isID: function 77 -/
def impl_isID.f (a0 : Int) : Option (Bool) := (impl_in.f a0 1 9).bind fun t250 => (some t250)
set_option maxHeartbeats 8000000 in
set_option maxRecDepth 100000 in
theorem impl_isID.calls (a0 : Int) (r : Bool) (w : World) (h : impl_isID.f a0 = some r) :
  Calls Try.prog 77 #[.int .i64 a0] w fun e w' => e = .returned (.bool r) ∧ Drawn0 w w' := by
 have H : ((impl_in.f a0 1 9).bind fun t250 => (some t250)) = some r := h
 clear h
 replace H := Option.bind_eq_some_iff.mp H
 obtain ⟨t250, A20, H⟩ := H
 replace H : (some t250) = some r := H
 have A2 := AM_ A20
 clear A20
 obtain rfl := Option.some.inj H
 go_enter Try.func77, Try.ntmps77
 go_wp2_with (first | ((with_reducible refine gate_callee (f := 130) rfl ?_); refine goesL_ (some 4) rfl rfl Try.func130 (by kernel_rfl) rfl #[.int .i64 a0, .int .i64 1, .int .i64 9] rfl (by (try simp only [List.map_toArray, List.map_cons, List.map_nil]); first | done | rfl | (simp only [List.length_drop, List.length_take]; rfl)) ?_; (with_reducible refine (impl_in.calls a0 1 9 t250 _ A2.out).mono ?_); rintro e w' ⟨rfl, ⟨nd, rfl⟩⟩; refine ⟨_, rfl, ?_⟩))
 go_ret
 exact ⟨by first | rfl | (simp; done) | (simp [*]; done), by repeat (first | exact Drawn0.refl _ | apply Drawn0.step)⟩

/-! ### impl_isValue: function 219 -/
def impl_isValue.f (a0 : Int) : Option (Bool) := (impl_in.f a0 (-1) 99).bind fun t251 => (some t251)
set_option maxHeartbeats 8000000 in
set_option maxRecDepth 100000 in
theorem impl_isValue.calls (a0 : Int) (r : Bool) (w : World) (h : impl_isValue.f a0 = some r) :
  Calls Try.prog 219 #[.int .i64 a0] w fun e w' => e = .returned (.bool r) ∧ Drawn0 w w' := by
 have H : ((impl_in.f a0 (-1) 99).bind fun t251 => (some t251)) = some r := h
 clear h
 replace H := Option.bind_eq_some_iff.mp H
 obtain ⟨t251, A20, H⟩ := H
 replace H : (some t251) = some r := H
 have A2 := AM_ A20
 clear A20
 obtain rfl := Option.some.inj H
 go_enter Try.func219, Try.ntmps219
 go_wp2_with (first | ((with_reducible refine gate_callee (f := 130) rfl ?_); refine goesL_ (some 4) rfl rfl Try.func130 (by kernel_rfl) rfl #[.int .i64 a0, .int .i64 (-1), .int .i64 99] rfl (by (try simp only [List.map_toArray, List.map_cons, List.map_nil]); first | done | rfl | (simp only [List.length_drop, List.length_take]; rfl)) ?_; (with_reducible refine (impl_in.calls a0 (-1) 99 t251 _ A2.out).mono ?_); rintro e w' ⟨rfl, ⟨nd, rfl⟩⟩; refine ⟨_, rfl, ?_⟩))
 go_ret
 exact ⟨by first | rfl | (simp; done) | (simp [*]; done), by repeat (first | exact Drawn0.refl _ | apply Drawn0.step)⟩

/-! ### impl_IsValidVersion: function 202 -/
def impl_IsValidVersion.j0 : Nat → Bool → Int → Int → Int → Int → Int → Option (Bool)
 | 0, _, _, _, _, _, _ => none
 | k + 1, x26, x253000, x253001, x253002, x253003, x253004 => if x26 = true then (some false) else (if x253002 = 0 then (if x253000 = 0 then (some (x253001 == (-1))) else (some false)) else ((impl_isID.f x253000).bind fun t257 => (some t257)))
def impl_IsValidVersion.f (k : Nat) (a0_0 : Int) (a0_1 : Int) (a0_2 : Int) (a0_3 : Int) (a0_4 : Int) : Option (Bool) := (impl_isValue.f a0_1).bind fun t253 => (if t253 = true then ((impl_in.f a0_2 0 999).bind fun t254 => (if t254 = true then ((impl_in.f a0_3 a0_2 999).bind fun t255 => (if t255 = true then ((impl_in.f a0_4 1 1000).bind fun t256 => (impl_IsValidVersion.j0 k (!t256) a0_0 a0_1 a0_2 a0_3 a0_4)) else (impl_IsValidVersion.j0 k true a0_0 a0_1 a0_2 a0_3 a0_4))) else (impl_IsValidVersion.j0 k true a0_0 a0_1 a0_2 a0_3 a0_4))) else (impl_IsValidVersion.j0 k true a0_0 a0_1 a0_2 a0_3 a0_4))
theorem impl_IsValidVersion.mono_l : ∀ k, (∀ y0 y1 y2 y3 y4 y5, LeO (impl_IsValidVersion.j0 k y0 y1 y2 y3 y4 y5) (impl_IsValidVersion.j0 (k + 1) y0 y1 y2 y3 y4 y5))
 | 0 => fun _ _ _ _ _ _ r h => by simp [impl_IsValidVersion.j0] at h
 | k + 1 => by
  have ih0 := impl_IsValidVersion.mono_l k
  ·intro y0 y1 y2 y3 y4 y5
   unfold impl_IsValidVersion.j0
   repeat' first
   | (with_reducible exact ih0 _ _ _ _ _ _)
   | (with_reducible exact LeO.refl _)
   | (with_reducible exact LeO.none _)
   | (with_reducible refine LeO.ite ?_ ?_)
   | (with_reducible refine LeO.bind ?_ (fun _ => ?_))
   | exact ih0 _ _ _ _ _ _
   | exact LeO.none _
   | refine LeO.ite ?_ ?_
   | refine LeO.bind ?_ (fun _ => ?_)
theorem impl_IsValidVersion.mono : ∀ a0 a1 a2 a3 a4 k, LeO (impl_IsValidVersion.f k a0 a1 a2 a3 a4) (impl_IsValidVersion.f (k + 1) a0 a1 a2 a3 a4) := by
 intro a0 a1 a2 a3 a4 k
 have ih0 := impl_IsValidVersion.mono_l k
 unfold impl_IsValidVersion.f
 repeat' first
   | (with_reducible exact ih0 _ _ _ _ _ _)
   | (with_reducible exact LeO.refl _)
   | (with_reducible exact LeO.none _)
   | (with_reducible refine LeO.ite ?_ ?_)
   | (with_reducible refine LeO.bind ?_ (fun _ => ?_))
   | exact ih0 _ _ _ _ _ _
   | exact LeO.none _
   | refine LeO.ite ?_ ?_
   | refine LeO.bind ?_ (fun _ => ?_)
set_option maxHeartbeats 8000000 in
set_option maxRecDepth 100000 in
theorem impl_IsValidVersion.calls (k : Nat) (a0_0 : Int) (a0_1 : Int) (a0_2 : Int) (a0_3 : Int) (a0_4 : Int) (r : Bool) (w : World) (h : impl_IsValidVersion.f k a0_0 a0_1 a0_2 a0_3 a0_4 = some r) :
  Calls Try.prog 202 #[.agg #[.int .i64 a0_0, .int .i64 a0_1, .int .i64 a0_2, .int .i64 a0_3, .int .i64 a0_4]] w fun e w' => e = .returned (.bool r) ∧ Below w.heap.size w w' := by
 have hu76 := Try.underlying76
 have HB := AM_ (Below.refl w.heap.size w)
 have H : ((impl_isValue.f a0_1).bind fun t253 => (if t253 = true then ((impl_in.f a0_2 0 999).bind fun t254 => (if t254 = true then ((impl_in.f a0_3 a0_2 999).bind fun t255 => (if t255 = true then ((impl_in.f a0_4 1 1000).bind fun t256 => (impl_IsValidVersion.j0 k (!t256) a0_0 a0_1 a0_2 a0_3 a0_4)) else (impl_IsValidVersion.j0 k true a0_0 a0_1 a0_2 a0_3 a0_4))) else (impl_IsValidVersion.j0 k true a0_0 a0_1 a0_2 a0_3 a0_4))) else (impl_IsValidVersion.j0 k true a0_0 a0_1 a0_2 a0_3 a0_4))) = some r := h
 clear h
 have HC2 := AM_ H
 clear H
 go_enter Try.func202, Try.ntmps202
 go_upto_region 1 with (first | ((with_reducible refine gate_dst (N := 1) rfl ?_); refine box_event ?hg (N := 1) ?hd (cs := #[.int .i64 a0_0, .int .i64 a0_1, .int .i64 a0_2, .int .i64 a0_3, .int .i64 a0_4]) (t := 76) ?hr ?_; (case hd => rfl); (case hg => rfl); (case hr => first | (go_simp; done) | (go_simp; rfl)); intro gb252 hg w3 hbox hb; have BK252 := AM_ (hbox); have GW252 := AM_ ((GS HB.out hg)); have GE252 := AM_ ((GS HB.out hg)); replace HB := AM_ (below_step (BT HB.out) hb); clear hb hbox hg))
 (try simp only [pA, pS, pZ, pK])
 go_cut [26] (fun v26 wc => ∃ (kq : Nat) (x26_1 : Bool), v26 = .bool x26_1 ∧ Aside0 (impl_IsValidVersion.j0 kq x26_1 a0_0 a0_1 a0_2 a0_3 a0_4 = some r) ∧ Aside0 (kq ≤ k) ∧ Aside0 (wc.heap[gb252]? = some (.cells #[.int .i64 a0_0, .int .i64 a0_1, .int .i64 a0_2, .int .i64 a0_3, .int .i64 a0_4] 76 (0, 0))) ∧ Aside0 (Below w.heap.size w wc))
 case first =>
  have H := HC2.out
  clear HC2
  replace H := Option.bind_eq_some_iff.mp H
  obtain ⟨t253, A40, H⟩ := H
  replace H : (if t253 = true then ((impl_in.f a0_2 0 999).bind fun t254 => (if t254 = true then ((impl_in.f a0_3 a0_2 999).bind fun t255 => (if t255 = true then ((impl_in.f a0_4 1 1000).bind fun t256 => (impl_IsValidVersion.j0 k (!t256) a0_0 a0_1 a0_2 a0_3 a0_4)) else (impl_IsValidVersion.j0 k true a0_0 a0_1 a0_2 a0_3 a0_4))) else (impl_IsValidVersion.j0 k true a0_0 a0_1 a0_2 a0_3 a0_4))) else (impl_IsValidVersion.j0 k true a0_0 a0_1 a0_2 a0_3 a0_4)) = some r := H
  have A4 := AM_ A40
  clear A40
  by_cases c5 : t253 = true
  rotate_left
  ·replace c5 := Bool.eq_false_iff.mpr c5
   subst c5
   have H1 : (impl_IsValidVersion.j0 k true a0_0 a0_1 a0_2 a0_3 a0_4) = some r := by rw [if_neg (show ¬ (false = true) by decide)] at H; exact H
   clear H
   have H := H1
   clear H1
   have H' := AM_ H
   clear H
   obtain ⟨hcz14_0, hcz14_1, hcz14_2, hcz14_3, hcz14_4, hfz14_0, hfz14_1, hfz14_2, hfz14_3, hfz14_4⟩ := bk5 BK252.out
   go_wp2_with (first | ((with_reducible refine gate_callee (f := 219) rfl ?_); refine goesL_ (some 5) rfl rfl Try.func219 (by kernel_rfl) rfl #[.int .i64 a0_1] rfl (by (try simp only [List.map_toArray, List.map_cons, List.map_nil]); first | done | rfl | (simp only [List.length_drop, List.length_take]; rfl)) ?_; (with_reducible refine (impl_isValue.calls a0_1 false _ A4.out).mono ?_); rintro e w' ⟨rfl, ⟨nd, rfl⟩⟩; refine ⟨_, rfl, ?_⟩))
   go_meet
   case rel => exact ⟨_, (true), (by first | rfl | (simp; done) | (simp [*]; done)), H', ⟨by first | omega | exact Nat.le_refl _⟩, ⟨BH BK252.out⟩, ⟨BT HB.out⟩⟩
  subst c5
  have H1 : ((impl_in.f a0_2 0 999).bind fun t254 => (if t254 = true then ((impl_in.f a0_3 a0_2 999).bind fun t255 => (if t255 = true then ((impl_in.f a0_4 1 1000).bind fun t256 => (impl_IsValidVersion.j0 k (!t256) a0_0 a0_1 a0_2 a0_3 a0_4)) else (impl_IsValidVersion.j0 k true a0_0 a0_1 a0_2 a0_3 a0_4))) else (impl_IsValidVersion.j0 k true a0_0 a0_1 a0_2 a0_3 a0_4))) = some r := by rw [if_pos rfl] at H; exact H
  clear H
  have H := H1
  clear H1
  replace H := Option.bind_eq_some_iff.mp H
  obtain ⟨t254, A60, H⟩ := H
  replace H : (if t254 = true then ((impl_in.f a0_3 a0_2 999).bind fun t255 => (if t255 = true then ((impl_in.f a0_4 1 1000).bind fun t256 => (impl_IsValidVersion.j0 k (!t256) a0_0 a0_1 a0_2 a0_3 a0_4)) else (impl_IsValidVersion.j0 k true a0_0 a0_1 a0_2 a0_3 a0_4))) else (impl_IsValidVersion.j0 k true a0_0 a0_1 a0_2 a0_3 a0_4)) = some r := H
  have A6 := AM_ A60
  clear A60
  by_cases c7 : t254 = true
  rotate_left
  ·replace c7 := Bool.eq_false_iff.mpr c7
   subst c7
   have H1 : (impl_IsValidVersion.j0 k true a0_0 a0_1 a0_2 a0_3 a0_4) = some r := by rw [if_neg (show ¬ (false = true) by decide)] at H; exact H
   clear H
   have H := H1
   clear H1
   have H' := AM_ H
   clear H
   obtain ⟨hcz13_0, hcz13_1, hcz13_2, hcz13_3, hcz13_4, hfz13_0, hfz13_1, hfz13_2, hfz13_3, hfz13_4⟩ := bk5 BK252.out
   go_wp2_with (first | ((with_reducible refine gate_callee (f := 219) rfl ?_); refine goesL_ (some 5) rfl rfl Try.func219 (by kernel_rfl) rfl #[.int .i64 a0_1] rfl (by (try simp only [List.map_toArray, List.map_cons, List.map_nil]); first | done | rfl | (simp only [List.length_drop, List.length_take]; rfl)) ?_; (with_reducible refine (impl_isValue.calls a0_1 true _ A4.out).mono ?_); rintro e w' ⟨rfl, ⟨nd, rfl⟩⟩; refine ⟨_, rfl, ?_⟩) | (go_at_call 130; (with_reducible refine (impl_in.calls a0_2 0 999 false _ A6.out).mono ?_); rintro e w' ⟨rfl, ⟨nd, rfl⟩⟩))
   go_meet
   case rel => exact ⟨_, (true), (by first | rfl | (simp; done) | (simp [*]; done)), H', ⟨by first | omega | exact Nat.le_refl _⟩, ⟨BH BK252.out⟩, ⟨BT HB.out⟩⟩
  subst c7
  have H1 : ((impl_in.f a0_3 a0_2 999).bind fun t255 => (if t255 = true then ((impl_in.f a0_4 1 1000).bind fun t256 => (impl_IsValidVersion.j0 k (!t256) a0_0 a0_1 a0_2 a0_3 a0_4)) else (impl_IsValidVersion.j0 k true a0_0 a0_1 a0_2 a0_3 a0_4))) = some r := by rw [if_pos rfl] at H; exact H
  clear H
  have H := H1
  clear H1
  replace H := Option.bind_eq_some_iff.mp H
  obtain ⟨t255, A80, H⟩ := H
  replace H : (if t255 = true then ((impl_in.f a0_4 1 1000).bind fun t256 => (impl_IsValidVersion.j0 k (!t256) a0_0 a0_1 a0_2 a0_3 a0_4)) else (impl_IsValidVersion.j0 k true a0_0 a0_1 a0_2 a0_3 a0_4)) = some r := H
  have A8 := AM_ A80
  clear A80
  by_cases c9 : t255 = true
  rotate_left
  ·replace c9 := Bool.eq_false_iff.mpr c9
   subst c9
   have H1 : (impl_IsValidVersion.j0 k true a0_0 a0_1 a0_2 a0_3 a0_4) = some r := by rw [if_neg (show ¬ (false = true) by decide)] at H; exact H
   clear H
   have H := H1
   clear H1
   have H' := AM_ H
   clear H
   obtain ⟨hcz12_0, hcz12_1, hcz12_2, hcz12_3, hcz12_4, hfz12_0, hfz12_1, hfz12_2, hfz12_3, hfz12_4⟩ := bk5 BK252.out
   go_wp2_with (first | ((with_reducible refine gate_callee (f := 219) rfl ?_); refine goesL_ (some 5) rfl rfl Try.func219 (by kernel_rfl) rfl #[.int .i64 a0_1] rfl (by (try simp only [List.map_toArray, List.map_cons, List.map_nil]); first | done | rfl | (simp only [List.length_drop, List.length_take]; rfl)) ?_; (with_reducible refine (impl_isValue.calls a0_1 true _ A4.out).mono ?_); rintro e w' ⟨rfl, ⟨nd, rfl⟩⟩; refine ⟨_, rfl, ?_⟩) | (go_at_call 130; (with_reducible refine (impl_in.calls a0_2 0 999 true _ A6.out).mono ?_); rintro e w' ⟨rfl, ⟨nd, rfl⟩⟩) | (go_at_call 130; (with_reducible refine (impl_in.calls a0_3 a0_2 999 false _ A8.out).mono ?_); rintro e w' ⟨rfl, ⟨nd, rfl⟩⟩))
   go_meet
   case rel => exact ⟨_, (true), (by first | rfl | (simp; done) | (simp [*]; done)), H', ⟨by first | omega | exact Nat.le_refl _⟩, ⟨BH BK252.out⟩, ⟨BT HB.out⟩⟩
  subst c9
  have H1 : ((impl_in.f a0_4 1 1000).bind fun t256 => (impl_IsValidVersion.j0 k (!t256) a0_0 a0_1 a0_2 a0_3 a0_4)) = some r := by rw [if_pos rfl] at H; exact H
  clear H
  have H := H1
  clear H1
  replace H := Option.bind_eq_some_iff.mp H
  obtain ⟨t256, A100, H⟩ := H
  replace H : (impl_IsValidVersion.j0 k (!t256) a0_0 a0_1 a0_2 a0_3 a0_4) = some r := H
  have A10 := AM_ A100
  clear A100
  have H' := AM_ H
  clear H
  obtain ⟨hcz11_0, hcz11_1, hcz11_2, hcz11_3, hcz11_4, hfz11_0, hfz11_1, hfz11_2, hfz11_3, hfz11_4⟩ := bk5 BK252.out
  go_wp2_with (first | ((with_reducible refine gate_callee (f := 219) rfl ?_); refine goesL_ (some 5) rfl rfl Try.func219 (by kernel_rfl) rfl #[.int .i64 a0_1] rfl (by (try simp only [List.map_toArray, List.map_cons, List.map_nil]); first | done | rfl | (simp only [List.length_drop, List.length_take]; rfl)) ?_; (with_reducible refine (impl_isValue.calls a0_1 true _ A4.out).mono ?_); rintro e w' ⟨rfl, ⟨nd, rfl⟩⟩; refine ⟨_, rfl, ?_⟩) | (go_at_call 130; (with_reducible refine (impl_in.calls a0_2 0 999 true _ A6.out).mono ?_); rintro e w' ⟨rfl, ⟨nd, rfl⟩⟩) | (go_at_call 130; (with_reducible refine (impl_in.calls a0_3 a0_2 999 true _ A8.out).mono ?_); rintro e w' ⟨rfl, ⟨nd, rfl⟩⟩) | (go_at_call 130; (with_reducible refine (impl_in.calls a0_4 1 1000 t256 _ A10.out).mono ?_); rintro e w' ⟨rfl, ⟨nd, rfl⟩⟩))
  go_meet
  case rel => exact ⟨_, (!t256), (by first | rfl | (simp; done) | (simp [*]; done)), H', ⟨by first | omega | exact Nat.le_refl _⟩, ⟨BH BK252.out⟩, ⟨BT HB.out⟩⟩
 case rest =>
  clear HC2
  try clear c2
  try clear p2
  try clear c5
  try clear c7
  try clear c9
  try clear hcz11_0
  try clear hcz11_1
  try clear hcz11_2
  try clear hcz11_3
  try clear hcz11_4
  try clear hcz12_0
  try clear hcz12_1
  try clear hcz12_2
  try clear hcz12_3
  try clear hcz12_4
  try clear hcz13_0
  try clear hcz13_1
  try clear hcz13_2
  try clear hcz13_3
  try clear hcz13_4
  try clear hcz14_0
  try clear hcz14_1
  try clear hcz14_2
  try clear hcz14_3
  try clear hcz14_4
  try clear hfz11_0
  try clear hfz11_1
  try clear hfz11_2
  try clear hfz11_3
  try clear hfz11_4
  try clear hfz12_0
  try clear hfz12_1
  try clear hfz12_2
  try clear hfz12_3
  try clear hfz12_4
  try clear hfz13_0
  try clear hfz13_1
  try clear hfz13_2
  try clear hfz13_3
  try clear hfz13_4
  try clear hfz14_0
  try clear hfz14_1
  try clear hfz14_2
  try clear hfz14_3
  try clear hfz14_4
  obtain ⟨kq, x26_1, rfl, HA, HJ1, BK252, HB⟩ := hcut
  cases kq with
  | zero => exact absurd HA.out (by simp [impl_IsValidVersion.j0])
  | succ kj1 =>
   have H := HA.out
   clear HA
   simp only [impl_IsValidVersion.j0] at H
   by_cases c15 : x26_1 = true
   ·subst c15
    have H1 : (some false) = some r := by rw [if_pos rfl] at H; exact H
    clear H
    have H := H1
    clear H1
    obtain rfl := Option.some.inj H
    go_wp2
    go_ret
    exact QT (BT HB.out)
   replace c15 := Bool.eq_false_iff.mpr c15
   subst c15
   have H1 : (if a0_2 = 0 then (if a0_0 = 0 then (some (a0_1 == (-1))) else (some false)) else ((impl_isID.f a0_0).bind fun t257 => (some t257))) = some r := by rw [if_neg (show ¬ (false = true) by decide)] at H; exact H
   clear H
   have H := H1
   clear H1
   by_cases c16 : a0_2 = 0
   ·rw [if_pos c16] at H
    have c16b0 : (a0_2 == 0) = true := beq_iff_eq.mpr c16
    have c16b1 : (a0_2 != 0) = false := bne_eq_false_iff_eq.mpr c16
    clear c16
    by_cases c17 : a0_0 = 0
    rotate_left
    ·rw [if_neg c17] at H
     have c17b0 : (a0_0 == 0) = false := beq_eq_false_iff_ne.mpr c17
     have c17b1 : (a0_0 != 0) = true := bne_iff_ne.mpr c17
     obtain rfl := Option.some.inj H
     obtain ⟨hcz19_0, hcz19_1, hcz19_2, hcz19_3, hcz19_4, hfz19_0, hfz19_1, hfz19_2, hfz19_3, hfz19_4⟩ := bk5 BK252.out
     go_wp2
     go_ret
     exact QT (BT HB.out)
    rw [if_pos c17] at H
    have c17b0 : (a0_0 == 0) = true := beq_iff_eq.mpr c17
    have c17b1 : (a0_0 != 0) = false := bne_eq_false_iff_eq.mpr c17
    clear c17
    obtain rfl := Option.some.inj H
    obtain ⟨hcz18_0, hcz18_1, hcz18_2, hcz18_3, hcz18_4, hfz18_0, hfz18_1, hfz18_2, hfz18_3, hfz18_4⟩ := bk5 BK252.out
    go_wp2
    go_ret
    exact QT (BT HB.out)
   rw [if_neg c16] at H
   have c16b0 : (a0_2 == 0) = false := beq_eq_false_iff_ne.mpr c16
   have c16b1 : (a0_2 != 0) = true := bne_iff_ne.mpr c16
   replace H := Option.bind_eq_some_iff.mp H
   obtain ⟨t257, A200, H⟩ := H
   replace H : (some t257) = some r := H
   have A20 := AM_ A200
   clear A200
   obtain rfl := Option.some.inj H
   obtain ⟨hcz21_0, hcz21_1, hcz21_2, hcz21_3, hcz21_4, hfz21_0, hfz21_1, hfz21_2, hfz21_3, hfz21_4⟩ := bk5 BK252.out
   go_wp2_with (first | ((with_reducible refine gate_callee (f := 77) rfl ?_); refine goesL_ (some 40) rfl rfl Try.func77 (by kernel_rfl) rfl #[.int .i64 a0_0] rfl (by (try simp only [List.map_toArray, List.map_cons, List.map_nil]); first | done | rfl | (simp only [List.length_drop, List.length_take]; rfl)) ?_; (with_reducible refine (impl_isID.calls a0_0 t257 _ A20.out).mono ?_); rintro e w' ⟨rfl, ⟨nd, rfl⟩⟩; refine ⟨_, rfl, ?_⟩))
   go_ret
   exact QT (BT HB.out)

end Go.Proofs.Ytakpkmlbklahhaa.PFnExactInstalledVersions
