-- Printed by a program of mine (wip/myprint.py), which runs the printer of the kit with contracts of mine beside it.
import Derived.Test.YtakpkmlbklahhaaPFnExactChooseVersionx0
namespace Go.Proofs.Ytakpkmlbklahhaa.PFnExactChooseVersion
open Go.RowKit Go.Proofs.YtakpkmlbklahhaaW.PrintWords Go.Proofs.YtakpkmlbklahhaaW.PrintLast Go.Proofs.YtakpkmlbklahhaaW.PrintMore
attribute [local go_sem] max2_int min2_int max_two min_two max_three min_three max_four min_four   -- for this text's walks alone
set_option linter.unusedVariables false
set_option linter.unusedSimpArgs false

/-! ### impl_versionAt: function 183 -/
def impl_versionAt.l0 : Nat → List (S76) → Int → Int → Option (Int)
 | 0, _, _, _ => none
 | k + 1, x0, x1, x5 => if x5 ≥ 0 then (if 0 ≤ x5 then (if x5 < (x0.length : Int) then (if ((rd_T76 x0 x5).f2) > x1 then (impl_versionAt.l0 k x0 x1 (wrap64 (x5 - 1))) else (some x5)) else (none)) else (none)) else (some x5)
def impl_versionAt.f (k : Nat) (l0 : List (S76)) (a1 : Int) : Option (Int) := impl_versionAt.l0 k l0 a1 (wrap64 ((l0.length : Int) - 1))
theorem impl_versionAt.mono_l : ∀ k, (∀ y0 y1 y2, LeO (impl_versionAt.l0 k y0 y1 y2) (impl_versionAt.l0 (k + 1) y0 y1 y2))
 | 0 => fun _ _ _ r h => by simp [impl_versionAt.l0] at h
 | k + 1 => by
  have ih0 := impl_versionAt.mono_l k
  ·intro y0 y1 y2
   unfold impl_versionAt.l0
   repeat' first
   | (with_reducible exact ih0 _ _ _)
   | (with_reducible exact LeO.refl _)
   | (with_reducible exact LeO.none _)
   | (with_reducible refine LeO.ite ?_ ?_)
   | (with_reducible refine LeO.bind ?_ (fun _ => ?_))
   | exact ih0 _ _ _
   | exact LeO.none _
   | refine LeO.ite ?_ ?_
   | refine LeO.bind ?_ (fun _ => ?_)
theorem impl_versionAt.mono : ∀ a0 a1 k, LeO (impl_versionAt.f k a0 a1) (impl_versionAt.f (k + 1) a0 a1) := by
 intro a0 a1 k
 have ih0 := impl_versionAt.mono_l k
 unfold impl_versionAt.f
 repeat' first
   | (with_reducible exact ih0 _ _ _)
   | (with_reducible exact LeO.refl _)
   | (with_reducible exact LeO.none _)
   | (with_reducible refine LeO.ite ?_ ?_)
   | (with_reducible refine LeO.bind ?_ (fun _ => ?_))
   | exact ih0 _ _ _
   | exact LeO.none _
   | refine LeO.ite ?_ ?_
   | refine LeO.bind ?_ (fun _ => ?_)
set_option maxHeartbeats 8000000 in
set_option maxRecDepth 100000 in
theorem impl_versionAt.calls (k : Nat) (A0 : Option Addr) (c0 : Nat) (l0 : List (S76)) (a1 : Int) (r : Int) (w : World) (hr0 : Kd.C k76 w A0 l0.length l0) (hc0 : l0.length ≤ c0) (h : impl_versionAt.f k l0 a1 = some r) :
  Calls Try.prog 183 #[.slice A0 l0.length c0, .int .i64 a1] w fun e w' => e = .returned (.int .i64 r) ∧ Drawn0 w w' := by
 have HR0 := AM_ hr0
 have HC0 := AM_ hc0
 clear hr0 hc0
 have H : (impl_versionAt.l0 k l0 a1 (wrap64 ((l0.length : Int) - 1))) = some r := h
 clear h
 have H' := AM_ H
 clear H
 go_enter Try.func183, Try.ntmps183
 go_wp2
 go_loopg [5] k (fun kq v5 w' => ∃ (x5_1 : Int), v5 = .int .i64 x5_1 ∧ Aside0 (impl_versionAt.l0 kq l0 a1 x5_1 = some r) ∧ Aside0 (kq ≤ k) ∧ Drawn0 w w')
 case atStart => exact ⟨(wrap64 ((l0.length : Int) - 1)), (by first | rfl | (simp; done) | (simp [*]; done)), H', ⟨Nat.le_refl _⟩, by repeat (first | exact Drawn0.refl _ | apply Drawn0.step)⟩
 case round =>
  clear H'
  try clear c1
  try clear p2
  obtain ⟨x5_1, rfl, HA, HK1, ⟨m1, rfl⟩⟩ := hrel
  cases gk with
  | zero => exact absurd HA.out (by simp [impl_versionAt.l0])
  | succ k1 =>
   have H := HA.out
   clear HA
   simp only [impl_versionAt.l0] at H
   by_cases c3 : x5_1 ≥ 0
   rotate_left
   ·rw [if_neg c3] at H
    have c3b0 : decide (0 ≤ x5_1) = false := decide_eq_false c3
    clear c3
    obtain rfl := Option.some.inj H
    go_wp2
    go_ret
    exact ⟨by first | rfl | (simp; done) | (simp [*]; done), by repeat (first | exact Drawn0.refl _ | apply Drawn0.step)⟩
   rw [if_pos c3] at H
   have c3b0 : decide (0 ≤ x5_1) = true := decide_eq_true c3
   clear c3
   by_cases c4 : 0 ≤ x5_1
   rotate_left
   ·rw [if_neg c4] at H
    exact absurd H (by simp)
   rw [if_pos c4] at H
   have c4b0 : decide (0 ≤ x5_1) = true := decide_eq_true c4
   clear c4
   by_cases c5 : x5_1 < (l0.length : Int)
   rotate_left
   ·rw [if_neg c5] at H
    exact absurd H (by simp)
   rw [if_pos c5] at H
   have c5b0 : decide (x5_1 < (l0.length : Int)) = true := decide_eq_true c5
   clear c5
   by_cases c6 : ((rd_T76 l0 x5_1).f2) > a1
   rotate_left
   ·rw [if_neg c6] at H
    have c6b0 : decide (a1 < ((rd_T76 l0 x5_1).f2)) = false := decide_eq_false c6
    clear c6
    obtain rfl := Option.some.inj H
    have p324 : 0 ≤ (x5_1 : Int) := DT
    have q324 : x5_1 < (l0.length : Int) := DT
    obtain ⟨ad324, e324, hx324_0, hx324_1, hx324_2, hx324_3, hx324_4⟩ := at_T76 HR0.out x5_1 p324 q324
    cases e324
    replace p324 := eq_true p324
    replace q324 := eq_true q324
    go_wp2
    go_ret
    exact ⟨by first | rfl | (simp; done) | (simp [*]; done), by repeat (first | exact Drawn0.refl _ | apply Drawn0.step)⟩
   rw [if_pos c6] at H
   have c6b0 : decide (a1 < ((rd_T76 l0 x5_1).f2)) = true := decide_eq_true c6
   clear c6
   have H' := AM_ H
   clear H
   have p324 : 0 ≤ (x5_1 : Int) := DT
   have q324 : x5_1 < (l0.length : Int) := DT
   obtain ⟨ad324, e324, hx324_0, hx324_1, hx324_2, hx324_3, hx324_4⟩ := at_T76 HR0.out x5_1 p324 q324
   cases e324
   replace p324 := eq_true p324
   replace q324 := eq_true q324
   go_wp2
   go_roundg k1
   case measure => have := HK1.out; omega
   case rel => exact ⟨(wrap64 (x5_1 - 1)), (by first | rfl | (simp; done) | (simp [*]; done)), H', ⟨by have := HK1.out; omega⟩, by repeat (first | exact Drawn0.refl _ | apply Drawn0.step)⟩

/-! ### impl_Store_choose: function 121 -/
mutual
def impl_Store_choose.j0 : Nat → List (S76) → Int → Int → Int → Int → Int → Int → Int → Int → List (S165) → List (S133) → Option (Int × Int × Int × Int × Int × Int)
 | 0, _, _, _, _, _, _, _, _, _, _, _ => none
 | k + 1, x8, x9, x19, x327000, x327002, x327003, x327004, x327005, x327006, x327007, x327008 => if x9 < 0 then (impl_Store_choose.j1 k x8 x9 true) else (if x19 = 4 then (if 0 ≤ x9 then (if x9 < (x8.length : Int) then (impl_Store_choose.j1 k x8 x9 (decide (((rd_T76 x8 x9).f2) > x327003))) else (none)) else (none)) else (impl_Store_choose.j1 k x8 x9 false))
def impl_Store_choose.j1 : Nat → List (S76) → Int → Bool → Option (Int × Int × Int × Int × Int × Int)
 | 0, _, _, _ => none
 | k + 1, x8, x9, x41 => if x41 = true then (some (0, 0, 0, 0, 0, 3)) else (if 0 ≤ x9 then (if x9 < (x8.length : Int) then (some ((rd_T76 x8 x9).f0, (rd_T76 x8 x9).f1, (rd_T76 x8 x9).f2, (rd_T76 x8 x9).f3, (rd_T76 x8 x9).f4, 0)) else (none)) else (none))
end
def impl_Store_choose.f (k : Nat) (l0_0 : List (List (S76))) (a1_0 : Int) (a1_1 : Int) (a1_2 : Int) (a1_3 : Int) (a1_4 : Int) (a1_5 : Int) (a1_6 : Int) (l1_7 : List (S165)) (l1_8 : List (S133)) (a2 : Int) : Option (Int × Int × Int × Int × Int × Int) := if 0 ≤ a2 then (if a2 < (l0_0.length : Int) then (if a1_1 = 2 then ((impl_versionAt.f k (rd_L6 l0_0 a2) a1_3).bind fun t329 => (impl_Store_choose.j0 k (rd_L6 l0_0 a2) t329 a1_1 a1_0 a1_2 a1_3 a1_4 a1_5 a1_6 l1_7 l1_8)) else (impl_Store_choose.j0 k (rd_L6 l0_0 a2) (wrap64 (((rd_L6 l0_0 a2).length : Int) - 1)) a1_1 a1_0 a1_2 a1_3 a1_4 a1_5 a1_6 l1_7 l1_8)) else (none)) else (none)
theorem impl_Store_choose.mono_l : ∀ k, (∀ y0 y1 y2 y3 y4 y5 y6 y7 y8 y9 y10, LeO (impl_Store_choose.j0 k y0 y1 y2 y3 y4 y5 y6 y7 y8 y9 y10) (impl_Store_choose.j0 (k + 1) y0 y1 y2 y3 y4 y5 y6 y7 y8 y9 y10)) ∧ (∀ y0 y1 y2, LeO (impl_Store_choose.j1 k y0 y1 y2) (impl_Store_choose.j1 (k + 1) y0 y1 y2))
 | 0 => ⟨fun _ _ _ _ _ _ _ _ _ _ _ r h => by simp [impl_Store_choose.j0] at h, fun _ _ _ r h => by simp [impl_Store_choose.j1] at h⟩
 | k + 1 => by
  obtain ⟨ih0, ih1⟩ := impl_Store_choose.mono_l k
  refine ⟨?_, ?_⟩
  ·intro y0 y1 y2 y3 y4 y5 y6 y7 y8 y9 y10
   unfold impl_Store_choose.j0
   repeat' first
   | (with_reducible exact ih0 _ _ _ _ _ _ _ _ _ _ _)
   | (with_reducible exact ih1 _ _ _)
   | (with_reducible exact impl_versionAt.mono _ _ _)
   | (with_reducible exact LeO.refl _)
   | (with_reducible exact LeO.none _)
   | (with_reducible refine LeO.ite ?_ ?_)
   | (with_reducible refine LeO.bind ?_ (fun _ => ?_))
   | exact ih0 _ _ _ _ _ _ _ _ _ _ _
   | exact ih1 _ _ _
   | exact impl_versionAt.mono _ _ _
   | exact LeO.none _
   | refine LeO.ite ?_ ?_
   | refine LeO.bind ?_ (fun _ => ?_)
  ·intro y0 y1 y2
   unfold impl_Store_choose.j1
   repeat' first
   | (with_reducible exact ih0 _ _ _ _ _ _ _ _ _ _ _)
   | (with_reducible exact ih1 _ _ _)
   | (with_reducible exact impl_versionAt.mono _ _ _)
   | (with_reducible exact LeO.refl _)
   | (with_reducible exact LeO.none _)
   | (with_reducible refine LeO.ite ?_ ?_)
   | (with_reducible refine LeO.bind ?_ (fun _ => ?_))
   | exact ih0 _ _ _ _ _ _ _ _ _ _ _
   | exact ih1 _ _ _
   | exact impl_versionAt.mono _ _ _
   | exact LeO.none _
   | refine LeO.ite ?_ ?_
   | refine LeO.bind ?_ (fun _ => ?_)
theorem impl_Store_choose.mono : ∀ a0 a1 a2 a3 a4 a5 a6 a7 a8 a9 a10 k, LeO (impl_Store_choose.f k a0 a1 a2 a3 a4 a5 a6 a7 a8 a9 a10) (impl_Store_choose.f (k + 1) a0 a1 a2 a3 a4 a5 a6 a7 a8 a9 a10) := by
 intro a0 a1 a2 a3 a4 a5 a6 a7 a8 a9 a10 k
 obtain ⟨ih0, ih1⟩ := impl_Store_choose.mono_l k
 unfold impl_Store_choose.f
 repeat' first
   | (with_reducible exact ih0 _ _ _ _ _ _ _ _ _ _ _)
   | (with_reducible exact ih1 _ _ _)
   | (with_reducible exact impl_versionAt.mono _ _ _)
   | (with_reducible exact LeO.refl _)
   | (with_reducible exact LeO.none _)
   | (with_reducible refine LeO.ite ?_ ?_)
   | (with_reducible refine LeO.bind ?_ (fun _ => ?_))
   | exact ih0 _ _ _ _ _ _ _ _ _ _ _
   | exact ih1 _ _ _
   | exact impl_versionAt.mono _ _ _
   | exact LeO.none _
   | refine LeO.ite ?_ ?_
   | refine LeO.bind ?_ (fun _ => ?_)
set_option maxHeartbeats 8000000 in
set_option maxRecDepth 100000 in
theorem impl_Store_choose.calls (k : Nat) (A0_0 : Option Addr) (c0_0 : Nat) (l0_0 : List (List (S76))) (a1_0 : Int) (a1_1 : Int) (a1_2 : Int) (a1_3 : Int) (a1_4 : Int) (a1_5 : Int) (a1_6 : Int) (A1_7 : Option Addr) (c1_7 : Nat) (l1_7 : List (S165)) (A1_8 : Option Addr) (c1_8 : Nat) (l1_8 : List (S133)) (a2 : Int) (r1 : Int) (r2 : Int) (r3 : Int) (r4 : Int) (r5 : Int) (r6 : Int) (w : World) (hr0_0 : Kd.C (Kd.slice 76 k76) w A0_0 l0_0.length l0_0) (hc0_0 : l0_0.length ≤ c0_0) (hr1_7 : Kd.C k165 w A1_7 l1_7.length l1_7) (hc1_7 : l1_7.length ≤ c1_7) (hr1_8 : Kd.C k133 w A1_8 l1_8.length l1_8) (hc1_8 : l1_8.length ≤ c1_8) (h : impl_Store_choose.f k l0_0 a1_0 a1_1 a1_2 a1_3 a1_4 a1_5 a1_6 l1_7 l1_8 a2 = some (r1, r2, r3, r4, r5, r6)) :
  Calls Try.prog 121 #[.agg #[.slice A0_0 l0_0.length c0_0], .agg #[.int .i64 a1_0, .int .i64 a1_1, .int .i64 a1_2, .int .i64 a1_3, .int .i64 a1_4, .int .i64 a1_5, .int .i64 a1_6, .slice A1_7 l1_7.length c1_7, .slice A1_8 l1_8.length c1_8], .int .i64 a2] w fun e w' => e = .returned (.tuple #[.agg #[.int .i64 r1, .int .i64 r2, .int .i64 r3, .int .i64 r4, .int .i64 r5], .int .i64 r6]) ∧ Below w.heap.size w w' := by
 have hu49 := Try.underlying49
 have hu68 := Try.underlying68
 have hu76 := Try.underlying76
 have HR0_0 := AM_ hr0_0
 have HC0_0 := AM_ hc0_0
 clear hr0_0 hc0_0
 have HR1_7 := AM_ hr1_7
 have HC1_7 := AM_ hc1_7
 clear hr1_7 hc1_7
 have HR1_8 := AM_ hr1_8
 have HC1_8 := AM_ hc1_8
 clear hr1_8 hc1_8
 have HB := AM_ (Below.refl w.heap.size w)
 have H : (if 0 ≤ a2 then (if a2 < (l0_0.length : Int) then (if a1_1 = 2 then ((impl_versionAt.f k (rd_L6 l0_0 a2) a1_3).bind fun t329 => (impl_Store_choose.j0 k (rd_L6 l0_0 a2) t329 a1_1 a1_0 a1_2 a1_3 a1_4 a1_5 a1_6 l1_7 l1_8)) else (impl_Store_choose.j0 k (rd_L6 l0_0 a2) (wrap64 (((rd_L6 l0_0 a2).length : Int) - 1)) a1_1 a1_0 a1_2 a1_3 a1_4 a1_5 a1_6 l1_7 l1_8)) else (none)) else (none)) = some (r1, r2, r3, r4, r5, r6) := h
 clear h
 by_cases c4 : 0 ≤ a2
 rotate_left
 ·rw [if_neg c4] at H
  exact absurd H (by simp)
 rw [if_pos c4] at H
 have c4b0 : decide (0 ≤ a2) = true := decide_eq_true c4
 clear c4
 by_cases c5 : a2 < (l0_0.length : Int)
 rotate_left
 ·rw [if_neg c5] at H
  exact absurd H (by simp)
 rw [if_pos c5] at H
 have c5b0 : decide (a2 < (l0_0.length : Int)) = true := decide_eq_true c5
 clear c5
 have HC6 := AM_ H
 clear H
 go_enter Try.func121, Try.ntmps121
 go_upto_if 20 with (first | ((with_reducible refine gate_dst (N := 3) rfl ?_); refine box_event ?hg (N := 3) ?hd (cs := #[.slice A0_0 l0_0.length c0_0]) (t := 49) ?hr ?_; (case hd => rfl); (case hg => rfl); (case hr => first | (go_simp; done) | (go_simp; rfl)); intro gb325 hg w7 hbox hb; have n0_ := AM_ (below_step (BT HB.out) hb); have n1_ := AM_ (hbox); have n2_ := AM_ ((GS HB.out hg)); have n3_ := AM_ ((GS HB.out hg)); clear HB; have HB := n0_; have BK325 := n1_; have GW325 := n2_; have GE325 := n3_; clear n0_ n1_ n2_ n3_; clear hb hbox hg) | ((with_reducible refine gate_dst (N := 4) rfl ?_); refine box_event ?hg (N := 4) ?hd (cs := #[.int .i64 a1_0, .int .i64 a1_1, .int .i64 a1_2, .int .i64 a1_3, .int .i64 a1_4, .int .i64 a1_5, .int .i64 a1_6, .slice A1_7 l1_7.length c1_7, .slice A1_8 l1_8.length c1_8]) (t := 68) ?hr ?_; (case hd => rfl); (case hg => rfl); (case hr => first | (go_simp; done) | (go_simp; rfl)); intro gb326 hg w8 hbox hb; have n0_ := AM_ (BB BK325.out hb); have n1_ := AM_ (below_step (BT HB.out) hb); have n2_ := AM_ (hbox); have n3_ := AM_ ((GS HB.out hg)); have n4_ := AM_ ((GS HB.out hg)); have n5_ := AM_ ((NL BK325.out hg)); have n6_ := AM_ ((NG BK325.out hg)); clear BK325; clear HB; have BK325 := n0_; have HB := n1_; have BK326 := n2_; have GW326 := n3_; have GE326 := n4_; have NB325_326 := n5_; have NB326_325 := n6_; clear n0_ n1_ n2_ n3_ n4_ n5_ n6_; clear hb hbox hg) | ((with_reducible refine gate_dst (N := 6) rfl ?_); refine box_event ?hg (N := 6) ?hd (cs := #[.int .i64 0, .int .i64 0, .int .i64 0, .int .i64 0, .int .i64 0]) (t := 76) ?hr ?_; (case hd => rfl); (case hg => rfl); (case hr => first | (go_simp; done) | (go_simp; rfl)); intro gb327 hg w9 hbox hb; have n0_ := AM_ (BB BK325.out hb); have n1_ := AM_ (BB BK326.out hb); have n2_ := AM_ (below_step (BT HB.out) hb); have n3_ := AM_ (hbox); have n4_ := AM_ ((GS HB.out hg)); have n5_ := AM_ ((GS HB.out hg)); have n6_ := AM_ ((NL BK325.out hg)); have n7_ := AM_ ((NG BK325.out hg)); have n8_ := AM_ ((NL BK326.out hg)); have n9_ := AM_ ((NG BK326.out hg)); clear BK325; clear BK326; clear HB; have BK325 := n0_; have BK326 := n1_; have HB := n2_; have BK327 := n3_; have GW327 := n4_; have GE327 := n5_; have NB325_327 := n6_; have NB327_325 := n7_; have NB326_327 := n8_; have NB327_326 := n9_; clear n0_ n1_ n2_ n3_ n4_ n5_ n6_ n7_ n8_ n9_; clear hb hbox hg; have hnb10 := NB325_326.out; have hnc10 := NB326_325.out; have hnb11 := NB325_327.out; have hnc11 := NB327_325.out; obtain ⟨hcz12_0, hfz12_0⟩ := bk1 BK325.out; have p328 : 0 ≤ (a2 : Int) := DT; have q328 : a2 < (l0_0.length : Int) := DT; obtain ⟨ad328, A328_0, c328_0, e328, hx328_0, hl328_0, hi328_0⟩ := at_L6 HR0_0.out a2 p328 q328; cases e328; replace hx328_0 := BD HB.out hx328_0; have HR328_0 := AM_ hi328_0; have HC328_0 := AM_ hl328_0; clear hi328_0 hl328_0; replace p328 := eq_true p328; replace q328 := eq_true q328; have hnb13 := NB326_327.out; have hnc13 := NB327_326.out; obtain ⟨hcz14_0, hcz14_1, hcz14_2, hcz14_3, hcz14_4, hcz14_5, hcz14_6, hcz14_7, hcz14_8, hfz14_0, hfz14_1, hfz14_2, hfz14_3, hfz14_4, hfz14_5, hfz14_6, hfz14_7, hfz14_8⟩ := bk9 BK326.out))
 repeat (go_quiet (first | ((with_reducible refine gate_dst (N := 3) rfl ?_); refine box_event ?hg (N := 3) ?hd (cs := #[.slice A0_0 l0_0.length c0_0]) (t := 49) ?hr ?_; (case hd => rfl); (case hg => rfl); (case hr => first | (go_simp; done) | (go_simp; rfl)); intro gb325 hg w7 hbox hb; have n0_ := AM_ (below_step (BT HB.out) hb); have n1_ := AM_ (hbox); have n2_ := AM_ ((GS HB.out hg)); have n3_ := AM_ ((GS HB.out hg)); clear HB; have HB := n0_; have BK325 := n1_; have GW325 := n2_; have GE325 := n3_; clear n0_ n1_ n2_ n3_; clear hb hbox hg) | ((with_reducible refine gate_dst (N := 4) rfl ?_); refine box_event ?hg (N := 4) ?hd (cs := #[.int .i64 a1_0, .int .i64 a1_1, .int .i64 a1_2, .int .i64 a1_3, .int .i64 a1_4, .int .i64 a1_5, .int .i64 a1_6, .slice A1_7 l1_7.length c1_7, .slice A1_8 l1_8.length c1_8]) (t := 68) ?hr ?_; (case hd => rfl); (case hg => rfl); (case hr => first | (go_simp; done) | (go_simp; rfl)); intro gb326 hg w8 hbox hb; have n0_ := AM_ (BB BK325.out hb); have n1_ := AM_ (below_step (BT HB.out) hb); have n2_ := AM_ (hbox); have n3_ := AM_ ((GS HB.out hg)); have n4_ := AM_ ((GS HB.out hg)); have n5_ := AM_ ((NL BK325.out hg)); have n6_ := AM_ ((NG BK325.out hg)); clear BK325; clear HB; have BK325 := n0_; have HB := n1_; have BK326 := n2_; have GW326 := n3_; have GE326 := n4_; have NB325_326 := n5_; have NB326_325 := n6_; clear n0_ n1_ n2_ n3_ n4_ n5_ n6_; clear hb hbox hg) | ((with_reducible refine gate_dst (N := 6) rfl ?_); refine box_event ?hg (N := 6) ?hd (cs := #[.int .i64 0, .int .i64 0, .int .i64 0, .int .i64 0, .int .i64 0]) (t := 76) ?hr ?_; (case hd => rfl); (case hg => rfl); (case hr => first | (go_simp; done) | (go_simp; rfl)); intro gb327 hg w9 hbox hb; have n0_ := AM_ (BB BK325.out hb); have n1_ := AM_ (BB BK326.out hb); have n2_ := AM_ (below_step (BT HB.out) hb); have n3_ := AM_ (hbox); have n4_ := AM_ ((GS HB.out hg)); have n5_ := AM_ ((GS HB.out hg)); have n6_ := AM_ ((NL BK325.out hg)); have n7_ := AM_ ((NG BK325.out hg)); have n8_ := AM_ ((NL BK326.out hg)); have n9_ := AM_ ((NG BK326.out hg)); clear BK325; clear BK326; clear HB; have BK325 := n0_; have BK326 := n1_; have HB := n2_; have BK327 := n3_; have GW327 := n4_; have GE327 := n5_; have NB325_327 := n6_; have NB327_325 := n7_; have NB326_327 := n8_; have NB327_326 := n9_; clear n0_ n1_ n2_ n3_ n4_ n5_ n6_ n7_ n8_ n9_; clear hb hbox hg; have hnb10 := NB325_326.out; have hnc10 := NB326_325.out; have hnb11 := NB325_327.out; have hnc11 := NB327_325.out; obtain ⟨hcz12_0, hfz12_0⟩ := bk1 BK325.out; have p328 : 0 ≤ (a2 : Int) := DT; have q328 : a2 < (l0_0.length : Int) := DT; obtain ⟨ad328, A328_0, c328_0, e328, hx328_0, hl328_0, hi328_0⟩ := at_L6 HR0_0.out a2 p328 q328; cases e328; replace hx328_0 := BD HB.out hx328_0; have HR328_0 := AM_ hi328_0; have HC328_0 := AM_ hl328_0; clear hi328_0 hl328_0; replace p328 := eq_true p328; replace q328 := eq_true q328; have hnb13 := NB326_327.out; have hnc13 := NB327_326.out; obtain ⟨hcz14_0, hcz14_1, hcz14_2, hcz14_3, hcz14_4, hcz14_5, hcz14_6, hcz14_7, hcz14_8, hfz14_0, hfz14_1, hfz14_2, hfz14_3, hfz14_4, hfz14_5, hfz14_6, hfz14_7, hfz14_8⟩ := bk9 BK326.out)); go_upto_if 20 with (first | ((with_reducible refine gate_dst (N := 3) rfl ?_); refine box_event ?hg (N := 3) ?hd (cs := #[.slice A0_0 l0_0.length c0_0]) (t := 49) ?hr ?_; (case hd => rfl); (case hg => rfl); (case hr => first | (go_simp; done) | (go_simp; rfl)); intro gb325 hg w7 hbox hb; have n0_ := AM_ (below_step (BT HB.out) hb); have n1_ := AM_ (hbox); have n2_ := AM_ ((GS HB.out hg)); have n3_ := AM_ ((GS HB.out hg)); clear HB; have HB := n0_; have BK325 := n1_; have GW325 := n2_; have GE325 := n3_; clear n0_ n1_ n2_ n3_; clear hb hbox hg) | ((with_reducible refine gate_dst (N := 4) rfl ?_); refine box_event ?hg (N := 4) ?hd (cs := #[.int .i64 a1_0, .int .i64 a1_1, .int .i64 a1_2, .int .i64 a1_3, .int .i64 a1_4, .int .i64 a1_5, .int .i64 a1_6, .slice A1_7 l1_7.length c1_7, .slice A1_8 l1_8.length c1_8]) (t := 68) ?hr ?_; (case hd => rfl); (case hg => rfl); (case hr => first | (go_simp; done) | (go_simp; rfl)); intro gb326 hg w8 hbox hb; have n0_ := AM_ (BB BK325.out hb); have n1_ := AM_ (below_step (BT HB.out) hb); have n2_ := AM_ (hbox); have n3_ := AM_ ((GS HB.out hg)); have n4_ := AM_ ((GS HB.out hg)); have n5_ := AM_ ((NL BK325.out hg)); have n6_ := AM_ ((NG BK325.out hg)); clear BK325; clear HB; have BK325 := n0_; have HB := n1_; have BK326 := n2_; have GW326 := n3_; have GE326 := n4_; have NB325_326 := n5_; have NB326_325 := n6_; clear n0_ n1_ n2_ n3_ n4_ n5_ n6_; clear hb hbox hg) | ((with_reducible refine gate_dst (N := 6) rfl ?_); refine box_event ?hg (N := 6) ?hd (cs := #[.int .i64 0, .int .i64 0, .int .i64 0, .int .i64 0, .int .i64 0]) (t := 76) ?hr ?_; (case hd => rfl); (case hg => rfl); (case hr => first | (go_simp; done) | (go_simp; rfl)); intro gb327 hg w9 hbox hb; have n0_ := AM_ (BB BK325.out hb); have n1_ := AM_ (BB BK326.out hb); have n2_ := AM_ (below_step (BT HB.out) hb); have n3_ := AM_ (hbox); have n4_ := AM_ ((GS HB.out hg)); have n5_ := AM_ ((GS HB.out hg)); have n6_ := AM_ ((NL BK325.out hg)); have n7_ := AM_ ((NG BK325.out hg)); have n8_ := AM_ ((NL BK326.out hg)); have n9_ := AM_ ((NG BK326.out hg)); clear BK325; clear BK326; clear HB; have BK325 := n0_; have BK326 := n1_; have HB := n2_; have BK327 := n3_; have GW327 := n4_; have GE327 := n5_; have NB325_327 := n6_; have NB327_325 := n7_; have NB326_327 := n8_; have NB327_326 := n9_; clear n0_ n1_ n2_ n3_ n4_ n5_ n6_ n7_ n8_ n9_; clear hb hbox hg; have hnb10 := NB325_326.out; have hnc10 := NB326_325.out; have hnb11 := NB325_327.out; have hnc11 := NB327_325.out; obtain ⟨hcz12_0, hfz12_0⟩ := bk1 BK325.out; have p328 : 0 ≤ (a2 : Int) := DT; have q328 : a2 < (l0_0.length : Int) := DT; obtain ⟨ad328, A328_0, c328_0, e328, hx328_0, hl328_0, hi328_0⟩ := at_L6 HR0_0.out a2 p328 q328; cases e328; replace hx328_0 := BD HB.out hx328_0; have HR328_0 := AM_ hi328_0; have HC328_0 := AM_ hl328_0; clear hi328_0 hl328_0; replace p328 := eq_true p328; replace q328 := eq_true q328; have hnb13 := NB326_327.out; have hnc13 := NB327_326.out; obtain ⟨hcz14_0, hcz14_1, hcz14_2, hcz14_3, hcz14_4, hcz14_5, hcz14_6, hcz14_7, hcz14_8, hfz14_0, hfz14_1, hfz14_2, hfz14_3, hfz14_4, hfz14_5, hfz14_6, hfz14_7, hfz14_8⟩ := bk9 BK326.out)))
 (try simp only [pA, pS, pZ, pK])
 go_cut [9] (fun v9 wc => ∃ (kq : Nat) (x9_5 : Int), v9 = .int .i64 x9_5 ∧ Aside0 (impl_Store_choose.j0 kq (rd_L6 l0_0 a2) x9_5 a1_1 a1_0 a1_2 a1_3 a1_4 a1_5 a1_6 l1_7 l1_8 = some (r1, r2, r3, r4, r5, r6)) ∧ Aside0 (kq ≤ k) ∧ Aside0 (wc.heap[gb325]? = some (.cells #[(.slice (some ad328) l0_0.length c0_0)] 49 (0, 0))) ∧ Aside0 (wc.heap[gb326]? = some (.cells #[.int .i64 a1_0, .int .i64 a1_1, .int .i64 a1_2, .int .i64 a1_3, .int .i64 a1_4, .int .i64 a1_5, .int .i64 a1_6, (.slice A1_7 l1_7.length c1_7), (.slice A1_8 l1_8.length c1_8)] 68 (0, 0))) ∧ Aside0 (wc.heap[gb327]? = some (.cells #[.int .i64 0, .int .i64 0, .int .i64 0, .int .i64 0, .int .i64 0] 76 (0, 0))) ∧ Aside0 (Below w.heap.size w wc))
 case first =>
  have H := HC6.out
  clear HC6
  by_cases c15 : a1_1 = 2
  rotate_left
  ·rw [if_neg c15] at H
   have c15b0 : (a1_1 == 2) = false := beq_eq_false_iff_ne.mpr c15
   have c15b1 : (a1_1 != 2) = true := bne_iff_ne.mpr c15
   (first | rw [c15b0] | (simp only [i64_w, i32_w]; rw [c15b0]) | skip)
   have H' := AM_ H
   clear H
   go_wp2
   repeat (go_quiet (fail); try go_wp2)
   go_meet
   case rel => exact ⟨_, (wrap64 (((rd_L6 l0_0 a2).length : Int) - 1)), (by first | rfl | (simp; done) | (simp [*]; done)), H', ⟨by first | omega | exact Nat.le_refl _⟩, ⟨BH BK325.out⟩, ⟨BH BK326.out⟩, ⟨BH BK327.out⟩, ⟨BT HB.out⟩⟩
  rw [if_pos c15] at H
  have c15b0 : (a1_1 == 2) = true := beq_iff_eq.mpr c15
  have c15b1 : (a1_1 != 2) = false := bne_eq_false_iff_eq.mpr c15
  clear c15
  (first | rw [c15b0] | (simp only [i64_w, i32_w]; rw [c15b0]) | skip)
  replace H := Option.bind_eq_some_iff.mp H
  obtain ⟨t329, A160, H⟩ := H
  replace H : (impl_Store_choose.j0 k (rd_L6 l0_0 a2) t329 a1_1 a1_0 a1_2 a1_3 a1_4 a1_5 a1_6 l1_7 l1_8) = some (r1, r2, r3, r4, r5, r6) := H
  have A16 := AM_ A160
  clear A160
  have H' := AM_ H
  clear H
  have hnb17 := NB326_325.out
  have hnc17 := NB325_326.out
  have hnb18 := NB326_327.out
  have hnc18 := NB327_326.out
  obtain ⟨hcz19_0, hcz19_1, hcz19_2, hcz19_3, hcz19_4, hcz19_5, hcz19_6, hcz19_7, hcz19_8, hfz19_0, hfz19_1, hfz19_2, hfz19_3, hfz19_4, hfz19_5, hfz19_6, hfz19_7, hfz19_8⟩ := bk9 BK326.out
  go_wp2_with (first | (go_at_call 183; (with_reducible refine (impl_versionAt.calls k _ _ (rd_L6 l0_0 a2) a1_3 t329 _ ?side1 ?side2 A16.out).mono ?_); (case side1 => exact CB HR328_0.out HB.out); (case side2 => exact HC328_0.out); rintro e w' ⟨rfl, ⟨nd, rfl⟩⟩; (try first | exact ⟨rfl, _, World.drewN_drewN _ _ _⟩ | exact ⟨rfl, _, Eq.trans (World.drewN_drewN _ _ _) (congrArg (World.drewN _) (Nat.add_assoc _ _ _))⟩)))
  repeat (go_quiet (first | (go_at_call 183; (with_reducible refine (impl_versionAt.calls k _ _ (rd_L6 l0_0 a2) a1_3 t329 _ ?side1 ?side2 A16.out).mono ?_); (case side1 => exact CB HR328_0.out HB.out); (case side2 => exact HC328_0.out); rintro e w' ⟨rfl, ⟨nd, rfl⟩⟩; (try first | exact ⟨rfl, _, World.drewN_drewN _ _ _⟩ | exact ⟨rfl, _, Eq.trans (World.drewN_drewN _ _ _) (congrArg (World.drewN _) (Nat.add_assoc _ _ _))⟩))); try go_wp2_with (first | (go_at_call 183; (with_reducible refine (impl_versionAt.calls k _ _ (rd_L6 l0_0 a2) a1_3 t329 _ ?side1 ?side2 A16.out).mono ?_); (case side1 => exact CB HR328_0.out HB.out); (case side2 => exact HC328_0.out); rintro e w' ⟨rfl, ⟨nd, rfl⟩⟩; (try first | exact ⟨rfl, _, World.drewN_drewN _ _ _⟩ | exact ⟨rfl, _, Eq.trans (World.drewN_drewN _ _ _) (congrArg (World.drewN _) (Nat.add_assoc _ _ _))⟩))))
  go_meet
  case rel => exact ⟨_, (t329), (by first | rfl | (simp; done) | (simp [*]; done)), H', ⟨by first | omega | exact Nat.le_refl _⟩, ⟨BH BK325.out⟩, ⟨BH BK326.out⟩, ⟨BH BK327.out⟩, ⟨BT HB.out⟩⟩
 case rest =>
  clear HC6
  try clear c1
  try clear p2
  try clear c3
  try clear p3
  try clear q3
  try clear hx3
  try clear c4
  try clear c4b0
  try clear c5
  try clear c5b0
  try clear p6
  try clear c10
  try clear c11
  try clear c12
  try clear c13
  try clear c15
  try clear c15b0
  try clear c15b1
  try clear c17
  try clear c18
  try clear hcz12_0
  try clear hcz14_0
  try clear hcz14_1
  try clear hcz14_2
  try clear hcz14_3
  try clear hcz14_4
  try clear hcz14_5
  try clear hcz14_6
  try clear hcz14_7
  try clear hcz14_8
  try clear hcz19_0
  try clear hcz19_1
  try clear hcz19_2
  try clear hcz19_3
  try clear hcz19_4
  try clear hcz19_5
  try clear hcz19_6
  try clear hcz19_7
  try clear hcz19_8
  try clear hfz12_0
  try clear hfz14_0
  try clear hfz14_1
  try clear hfz14_2
  try clear hfz14_3
  try clear hfz14_4
  try clear hfz14_5
  try clear hfz14_6
  try clear hfz14_7
  try clear hfz14_8
  try clear hfz19_0
  try clear hfz19_1
  try clear hfz19_2
  try clear hfz19_3
  try clear hfz19_4
  try clear hfz19_5
  try clear hfz19_6
  try clear hfz19_7
  try clear hfz19_8
  try clear hx328_0
  try clear p328
  try clear q328
  obtain ⟨kq, x9_5, rfl, HA, HJ5, BK325, BK326, BK327, HB⟩ := hcut
  cases kq with
  | zero => exact absurd HA.out (by simp [impl_Store_choose.j0])
  | succ kj5 =>
   have H := HA.out
   clear HA
   simp only [impl_Store_choose.j0] at H
   have HC20 := AM_ H
   clear H
   go_upto_region 5 with (fail)
   repeat (go_quiet (fail); go_upto_region 5 with (fail))
   go_cut [41] (fun v41 wc => ∃ (kq : Nat) (x41_19 : Bool), v41 = .bool x41_19 ∧ Aside0 (impl_Store_choose.j1 kq (rd_L6 l0_0 a2) x9_5 x41_19 = some (r1, r2, r3, r4, r5, r6)) ∧ Aside0 (kq ≤ kj5) ∧ Aside0 (wc.heap[gb325]? = some (.cells #[(.slice (some ad328) l0_0.length c0_0)] 49 (0, 0))) ∧ Aside0 (wc.heap[gb326]? = some (.cells #[.int .i64 a1_0, .int .i64 a1_1, .int .i64 a1_2, .int .i64 a1_3, .int .i64 a1_4, .int .i64 a1_5, .int .i64 a1_6, (.slice A1_7 l1_7.length c1_7), (.slice A1_8 l1_8.length c1_8)] 68 (0, 0))) ∧ Aside0 (wc.heap[gb327]? = some (.cells #[.int .i64 0, .int .i64 0, .int .i64 0, .int .i64 0, .int .i64 0] 76 (0, 0))) ∧ Aside0 (Below w.heap.size w wc))
   case first =>
    have H := HC20.out
    clear HC20
    by_cases c21 : x9_5 < 0
    ·rw [if_pos c21] at H
     have c21b0 : decide (x9_5 < 0) = true := decide_eq_true c21
     clear c21
     (first | rw [c21b0] | (simp only [i64_w, i32_w]; rw [c21b0]) | skip)
     have H' := AM_ H
     clear H
     go_wp2
     repeat (go_quiet (fail); try go_wp2)
     go_meet
     case rel => exact ⟨_, (true), (by first | rfl | (simp; done) | (simp [*]; done)), H', ⟨by have := HJ5.out; first | omega | exact Nat.le_refl _⟩, ⟨BH BK325.out⟩, ⟨BH BK326.out⟩, ⟨BH BK327.out⟩, ⟨BT HB.out⟩⟩
    rw [if_neg c21] at H
    have c21b0 : decide (x9_5 < 0) = false := decide_eq_false c21
    clear c21
    (first | rw [c21b0] | (simp only [i64_w, i32_w]; rw [c21b0]) | skip)
    by_cases c22 : a1_1 = 4
    rotate_left
    ·rw [if_neg c22] at H
     have c22b0 : (a1_1 == 4) = false := beq_eq_false_iff_ne.mpr c22
     have c22b1 : (a1_1 != 4) = true := bne_iff_ne.mpr c22
     have H' := AM_ H
     clear H
     have hnb28 := NB326_325.out
     have hnc28 := NB325_326.out
     have hnb29 := NB326_327.out
     have hnc29 := NB327_326.out
     obtain ⟨hcz30_0, hcz30_1, hcz30_2, hcz30_3, hcz30_4, hcz30_5, hcz30_6, hcz30_7, hcz30_8, hfz30_0, hfz30_1, hfz30_2, hfz30_3, hfz30_4, hfz30_5, hfz30_6, hfz30_7, hfz30_8⟩ := bk9 BK326.out
     go_wp2
     repeat (go_quiet (fail); try go_wp2)
     go_meet
     case rel => exact ⟨_, (false), (by first | rfl | (simp; done) | (simp [*]; done)), H', ⟨by have := HJ5.out; first | omega | exact Nat.le_refl _⟩, ⟨BH BK325.out⟩, ⟨BH BK326.out⟩, ⟨BH BK327.out⟩, ⟨BT HB.out⟩⟩
    rw [if_pos c22] at H
    have c22b0 : (a1_1 == 4) = true := beq_iff_eq.mpr c22
    have c22b1 : (a1_1 != 4) = false := bne_eq_false_iff_eq.mpr c22
    clear c22
    by_cases c23 : 0 ≤ x9_5
    rotate_left
    ·rw [if_neg c23] at H
     exact absurd H (by simp)
    rw [if_pos c23] at H
    have c23b0 : decide (0 ≤ x9_5) = true := decide_eq_true c23
    clear c23
    by_cases c24 : x9_5 < ((rd_L6 l0_0 a2).length : Int)
    rotate_left
    ·rw [if_neg c24] at H
     exact absurd H (by simp)
    rw [if_pos c24] at H
    have c24b0 : decide (x9_5 < ((rd_L6 l0_0 a2).length : Int)) = true := decide_eq_true c24
    clear c24
    have H' := AM_ H
    clear H
    have hnb25 := NB326_325.out
    have hnc25 := NB325_326.out
    have hnb26 := NB326_327.out
    have hnc26 := NB327_326.out
    obtain ⟨hcz27_0, hcz27_1, hcz27_2, hcz27_3, hcz27_4, hcz27_5, hcz27_6, hcz27_7, hcz27_8, hfz27_0, hfz27_1, hfz27_2, hfz27_3, hfz27_4, hfz27_5, hfz27_6, hfz27_7, hfz27_8⟩ := bk9 BK326.out
    have p330 : 0 ≤ (x9_5 : Int) := DT
    have q330 : x9_5 < ((rd_L6 l0_0 a2).length : Int) := DT
    obtain ⟨ad330, e330, hx330_0, hx330_1, hx330_2, hx330_3, hx330_4⟩ := at_T76 HR328_0.out x9_5 p330 q330
    cases e330
    replace hx330_0 := BC HB.out hx330_0
    replace hx330_1 := BC HB.out hx330_1
    replace hx330_2 := BC HB.out hx330_2
    replace hx330_3 := BC HB.out hx330_3
    replace hx330_4 := BC HB.out hx330_4
    replace p330 := eq_true p330
    replace q330 := eq_true q330
    go_wp2
    repeat (go_quiet (fail); try go_wp2)
    go_meet
    case rel => exact ⟨_, (decide (((rd_T76 (rd_L6 l0_0 a2) x9_5).f2) > a1_3)), (by first | rfl | (simp; done) | (simp [*]; done)), H', ⟨by have := HJ5.out; first | omega | exact Nat.le_refl _⟩, ⟨BH BK325.out⟩, ⟨BH BK326.out⟩, ⟨BH BK327.out⟩, ⟨BT HB.out⟩⟩
   case rest =>
    clear HC20
    try clear c1
    try clear c2
    try clear p2
    try clear c3
    try clear p3
    try clear q3
    try clear hx3
    try clear c4
    try clear c4b0
    try clear c5
    try clear c5b0
    try clear p6
    try clear c10
    try clear c11
    try clear c12
    try clear c13
    try clear c15
    try clear c15b0
    try clear c15b1
    try clear c17
    try clear c18
    try clear c21
    try clear c21b0
    try clear c22
    try clear c22b0
    try clear c22b1
    try clear c23
    try clear c23b0
    try clear c24
    try clear c24b0
    try clear c25
    try clear c26
    try clear c28
    try clear c29
    try clear hcz12_0
    try clear hcz14_0
    try clear hcz14_1
    try clear hcz14_2
    try clear hcz14_3
    try clear hcz14_4
    try clear hcz14_5
    try clear hcz14_6
    try clear hcz14_7
    try clear hcz14_8
    try clear hcz19_0
    try clear hcz19_1
    try clear hcz19_2
    try clear hcz19_3
    try clear hcz19_4
    try clear hcz19_5
    try clear hcz19_6
    try clear hcz19_7
    try clear hcz19_8
    try clear hcz27_0
    try clear hcz27_1
    try clear hcz27_2
    try clear hcz27_3
    try clear hcz27_4
    try clear hcz27_5
    try clear hcz27_6
    try clear hcz27_7
    try clear hcz27_8
    try clear hcz30_0
    try clear hcz30_1
    try clear hcz30_2
    try clear hcz30_3
    try clear hcz30_4
    try clear hcz30_5
    try clear hcz30_6
    try clear hcz30_7
    try clear hcz30_8
    try clear hfz12_0
    try clear hfz14_0
    try clear hfz14_1
    try clear hfz14_2
    try clear hfz14_3
    try clear hfz14_4
    try clear hfz14_5
    try clear hfz14_6
    try clear hfz14_7
    try clear hfz14_8
    try clear hfz19_0
    try clear hfz19_1
    try clear hfz19_2
    try clear hfz19_3
    try clear hfz19_4
    try clear hfz19_5
    try clear hfz19_6
    try clear hfz19_7
    try clear hfz19_8
    try clear hfz27_0
    try clear hfz27_1
    try clear hfz27_2
    try clear hfz27_3
    try clear hfz27_4
    try clear hfz27_5
    try clear hfz27_6
    try clear hfz27_7
    try clear hfz27_8
    try clear hfz30_0
    try clear hfz30_1
    try clear hfz30_2
    try clear hfz30_3
    try clear hfz30_4
    try clear hfz30_5
    try clear hfz30_6
    try clear hfz30_7
    try clear hfz30_8
    try clear hx328_0
    try clear hx330_0
    try clear hx330_1
    try clear hx330_2
    try clear hx330_3
    try clear hx330_4
    try clear p2
    try clear p3
    try clear p328
    try clear p330
    try clear p6
    try clear q3
    try clear q328
    try clear q330
    obtain ⟨kq, x41_19, rfl, HA, HJ19, BK325, BK326, BK327, HB⟩ := hcut
    cases kq with
    | zero => exact absurd HA.out (by simp [impl_Store_choose.j1])
    | succ kj19 =>
     have H := HA.out
     clear HA
     simp only [impl_Store_choose.j1] at H
     by_cases c31 : x41_19 = true
     ·subst c31
      have H1 : (some (0, 0, 0, 0, 0, 3)) = some (r1, r2, r3, r4, r5, r6) := by rw [if_pos rfl] at H; exact H
      clear H
      have H := H1
      clear H1
      simp only [Option.some.injEq, Prod.mk.injEq] at H
      obtain ⟨rfl, rfl, rfl, rfl, rfl, rfl⟩ := H
      have hnb32 := NB327_325.out
      have hnc32 := NB325_327.out
      have hnb33 := NB327_326.out
      have hnc33 := NB326_327.out
      obtain ⟨hcz34_0, hcz34_1, hcz34_2, hcz34_3, hcz34_4, hfz34_0, hfz34_1, hfz34_2, hfz34_3, hfz34_4⟩ := bk5 BK327.out
      go_wp2
      repeat (go_quiet (fail); try go_wp2)
      refine bodyPost_ret (results_ct rfl _ _ gb327 76 #[.int .i64 0, .int .i64 0, .int .i64 0, .int .i64 0, .int .i64 0] (0, 0) _ rfl (by (with_reducible repeat (first | refine blk_drewN ?_ _ | refine blk_drew ?_ | refine blk_alloc ?_ _)); refine blk_put (cs := #[.int .i64 0, .int .i64 0, .int .i64 0, .int .i64 0, .int .i64 0]) ?_ 4 _ rfl; (with_reducible repeat (first | refine blk_drewN ?_ _ | refine blk_drew ?_ | refine blk_alloc ?_ _)); refine blk_put (cs := #[.int .i64 0, .int .i64 0, .int .i64 0, .int .i64 0, .int .i64 0]) ?_ 3 _ rfl; (with_reducible repeat (first | refine blk_drewN ?_ _ | refine blk_drew ?_ | refine blk_alloc ?_ _)); refine blk_put (cs := #[.int .i64 0, .int .i64 0, .int .i64 0, .int .i64 0, .int .i64 0]) ?_ 2 _ rfl; (with_reducible repeat (first | refine blk_drewN ?_ _ | refine blk_drew ?_ | refine blk_alloc ?_ _)); refine blk_put (cs := #[.int .i64 0, .int .i64 0, .int .i64 0, .int .i64 0, .int .i64 0]) ?_ 1 _ rfl; (with_reducible repeat (first | refine blk_drewN ?_ _ | refine blk_drew ?_ | refine blk_alloc ?_ _)); refine blk_put (cs := #[.int .i64 0, .int .i64 0, .int .i64 0, .int .i64 0, .int .i64 0]) ?_ 0 _ rfl; (with_reducible repeat (first | refine blk_drewN ?_ _ | refine blk_drew ?_ | refine blk_alloc ?_ _)); exact BK327.out) Try.underlying76 rfl (by kernel_rfl)) rfl ?_
      exact QT (BT HB.out)
     replace c31 := Bool.eq_false_iff.mpr c31
     subst c31
     have H1 : (if 0 ≤ x9_5 then (if x9_5 < ((rd_L6 l0_0 a2).length : Int) then (some ((rd_T76 (rd_L6 l0_0 a2) x9_5).f0, (rd_T76 (rd_L6 l0_0 a2) x9_5).f1, (rd_T76 (rd_L6 l0_0 a2) x9_5).f2, (rd_T76 (rd_L6 l0_0 a2) x9_5).f3, (rd_T76 (rd_L6 l0_0 a2) x9_5).f4, 0)) else (none)) else (none)) = some (r1, r2, r3, r4, r5, r6) := by rw [if_neg (show ¬ (false = true) by decide)] at H; exact H
     clear H
     have H := H1
     clear H1
     by_cases c35 : 0 ≤ x9_5
     rotate_left
     ·rw [if_neg c35] at H
      exact absurd H (by simp)
     rw [if_pos c35] at H
     have c35b0 : decide (0 ≤ x9_5) = true := decide_eq_true c35
     clear c35
     by_cases c36 : x9_5 < ((rd_L6 l0_0 a2).length : Int)
     rotate_left
     ·rw [if_neg c36] at H
      exact absurd H (by simp)
     rw [if_pos c36] at H
     have c36b0 : decide (x9_5 < ((rd_L6 l0_0 a2).length : Int)) = true := decide_eq_true c36
     clear c36
     simp only [Option.some.injEq, Prod.mk.injEq] at H
     obtain ⟨rfl, rfl, rfl, rfl, rfl, rfl⟩ := H
     have p331 : 0 ≤ (x9_5 : Int) := DT
     have q331 : x9_5 < ((rd_L6 l0_0 a2).length : Int) := DT
     obtain ⟨ad331, e331, hx331_0, hx331_1, hx331_2, hx331_3, hx331_4⟩ := at_T76 HR328_0.out x9_5 p331 q331
     cases e331
     replace hx331_0 := BC HB.out hx331_0
     replace hx331_1 := BC HB.out hx331_1
     replace hx331_2 := BC HB.out hx331_2
     replace hx331_3 := BC HB.out hx331_3
     replace hx331_4 := BC HB.out hx331_4
     replace p331 := eq_true p331
     replace q331 := eq_true q331
     have hnb37 := NB327_325.out
     have hnc37 := NB325_327.out
     have hnb38 := NB327_326.out
     have hnc38 := NB326_327.out
     obtain ⟨hcz39_0, hcz39_1, hcz39_2, hcz39_3, hcz39_4, hfz39_0, hfz39_1, hfz39_2, hfz39_3, hfz39_4⟩ := bk5 BK327.out
     go_wp2
     repeat (go_quiet (fail); try go_wp2)
     refine bodyPost_ret (results_ct rfl _ _ gb327 76 #[.int .i64 ((rd_T76 (rd_L6 l0_0 a2) x9_5).f0), .int .i64 ((rd_T76 (rd_L6 l0_0 a2) x9_5).f1), .int .i64 ((rd_T76 (rd_L6 l0_0 a2) x9_5).f2), .int .i64 ((rd_T76 (rd_L6 l0_0 a2) x9_5).f3), .int .i64 ((rd_T76 (rd_L6 l0_0 a2) x9_5).f4)] (0, 0) _ rfl (by (with_reducible repeat (first | refine blk_drewN ?_ _ | refine blk_drew ?_ | refine blk_alloc ?_ _)); refine blk_put (cs := #[.int .i64 ((rd_T76 (rd_L6 l0_0 a2) x9_5).f0), .int .i64 ((rd_T76 (rd_L6 l0_0 a2) x9_5).f1), .int .i64 ((rd_T76 (rd_L6 l0_0 a2) x9_5).f2), .int .i64 ((rd_T76 (rd_L6 l0_0 a2) x9_5).f3), .int .i64 0]) ?_ 4 _ rfl; (with_reducible repeat (first | refine blk_drewN ?_ _ | refine blk_drew ?_ | refine blk_alloc ?_ _)); refine blk_put (cs := #[.int .i64 ((rd_T76 (rd_L6 l0_0 a2) x9_5).f0), .int .i64 ((rd_T76 (rd_L6 l0_0 a2) x9_5).f1), .int .i64 ((rd_T76 (rd_L6 l0_0 a2) x9_5).f2), .int .i64 0, .int .i64 0]) ?_ 3 _ rfl; (with_reducible repeat (first | refine blk_drewN ?_ _ | refine blk_drew ?_ | refine blk_alloc ?_ _)); refine blk_put (cs := #[.int .i64 ((rd_T76 (rd_L6 l0_0 a2) x9_5).f0), .int .i64 ((rd_T76 (rd_L6 l0_0 a2) x9_5).f1), .int .i64 0, .int .i64 0, .int .i64 0]) ?_ 2 _ rfl; (with_reducible repeat (first | refine blk_drewN ?_ _ | refine blk_drew ?_ | refine blk_alloc ?_ _)); refine blk_put (cs := #[.int .i64 ((rd_T76 (rd_L6 l0_0 a2) x9_5).f0), .int .i64 0, .int .i64 0, .int .i64 0, .int .i64 0]) ?_ 1 _ rfl; (with_reducible repeat (first | refine blk_drewN ?_ _ | refine blk_drew ?_ | refine blk_alloc ?_ _)); refine blk_put (cs := #[.int .i64 0, .int .i64 0, .int .i64 0, .int .i64 0, .int .i64 0]) ?_ 0 _ rfl; (with_reducible repeat (first | refine blk_drewN ?_ _ | refine blk_drew ?_ | refine blk_alloc ?_ _)); exact BK327.out) Try.underlying76 rfl (by kernel_rfl)) rfl ?_
     exact QT (BT HB.out)

end Go.Proofs.Ytakpkmlbklahhaa.PFnExactChooseVersion
