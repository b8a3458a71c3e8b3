-- Printed by a program of mine (wip/myprint.py), which runs the printer of the kit with contracts of mine beside it.
import Derived.Test.YtakpkmlbklahhaaPFnExactCommitCodex0
import Derived.Test.YtakpkmlbklahhaaPFnExactCommitCodex2
import Derived.Test.YtakpkmlbklahhaaPFnExactCommitCodex4
namespace Go.Proofs.Ytakpkmlbklahhaa.PFnExactCommitCode
open Go.RowKit Go.Proofs.YtakpkmlbklahhaaW.PrintWords Go.Proofs.YtakpkmlbklahhaaW.PrintLast Go.Proofs.YtakpkmlbklahhaaW.PrintMore
attribute [local go_sem] max2_int min2_int max_two min_two max_three min_three max_four min_four   -- for this text's walks alone
set_option linter.unusedVariables false
set_option linter.unusedSimpArgs false

/-! ### spec_CommitCode: function 34 -/
def spec_CommitCode.l0 : Nat → Int → List (List (S76)) → Int → Int → Int → Int → Int → Int → Int → List (S165) → List (S133) → Option (Int)
 | 0, _, _, _, _, _, _, _, _, _, _, _ => none
 | k + 1, x5, x159000, x160000, x160001, x160002, x160003, x160004, x160005, x160006, x160007, x160008 => if x5 < (x160008.length : Int) then (if 0 ≤ x5 then (if 0 ≤ ((rd_T133 x160008 x5).f0) then (if ((rd_T133 x160008 x5).f0) < (x159000.length : Int) then ((spec_LatestVersion.f k (rd_L6 x159000 ((rd_T133 x160008 x5).f0))).bind fun bt163 => (if bt163.2.2.1 ≤ x160003 then (spec_CommitCode.l0 k (wrap64 (x5 + 1)) x159000 x160000 x160001 x160002 x160003 x160004 x160005 x160006 x160007 x160008) else (if x160001 = 2 then (some 2) else (if x160001 = 4 then (some 3) else (spec_CommitCode.l0 k (wrap64 (x5 + 1)) x159000 x160000 x160001 x160002 x160003 x160004 x160005 x160006 x160007 x160008))))) else (none)) else (none)) else (none)) else (some 0)
def spec_CommitCode.f (k : Nat) (l0_0 : List (List (S76))) (a1_0 : Int) (a1_1 : Int) (a1_2 : Int) (a1_3 : Int) (a1_4 : Int) (a1_5 : Int) (a1_6 : Int) (l1_7 : List (S165)) (l1_8 : List (S133)) : Option (Int) := (spec_l12Good.f k l0_0 a1_0 a1_1 a1_2 a1_3 a1_4 a1_5 a1_6 l1_7 l1_8 0).bind fun t160 => (if t160 = true then (spec_CommitCode.l0 k 0 l0_0 a1_0 a1_1 a1_2 a1_3 a1_4 a1_5 a1_6 l1_7 l1_8) else (some 6))
theorem spec_CommitCode.mono_l : ∀ k, (∀ y0 y1 y2 y3 y4 y5 y6 y7 y8 y9 y10, LeO (spec_CommitCode.l0 k y0 y1 y2 y3 y4 y5 y6 y7 y8 y9 y10) (spec_CommitCode.l0 (k + 1) y0 y1 y2 y3 y4 y5 y6 y7 y8 y9 y10))
 | 0 => fun _ _ _ _ _ _ _ _ _ _ _ r h => by simp [spec_CommitCode.l0] at h
 | k + 1 => by
  have ih0 := spec_CommitCode.mono_l k
  ·intro y0 y1 y2 y3 y4 y5 y6 y7 y8 y9 y10
   unfold spec_CommitCode.l0
   repeat' first
   | (with_reducible exact ih0 _ _ _ _ _ _ _ _ _ _ _)
   | (with_reducible exact spec_LatestVersion.mono _ _)
   | (with_reducible exact spec_l12Good.mono _ _ _ _ _ _ _ _ _ _ _ _)
   | (with_reducible exact LeO.refl _)
   | (with_reducible exact LeO.none _)
   | (with_reducible refine LeO.ite ?_ ?_)
   | (with_reducible refine LeO.bind ?_ (fun _ => ?_))
   | exact ih0 _ _ _ _ _ _ _ _ _ _ _
   | exact spec_LatestVersion.mono _ _
   | exact spec_l12Good.mono _ _ _ _ _ _ _ _ _ _ _ _
   | exact LeO.none _
   | refine LeO.ite ?_ ?_
   | refine LeO.bind ?_ (fun _ => ?_)
theorem spec_CommitCode.mono : ∀ a0 a1 a2 a3 a4 a5 a6 a7 a8 a9 k, LeO (spec_CommitCode.f k a0 a1 a2 a3 a4 a5 a6 a7 a8 a9) (spec_CommitCode.f (k + 1) a0 a1 a2 a3 a4 a5 a6 a7 a8 a9) := by
 intro a0 a1 a2 a3 a4 a5 a6 a7 a8 a9 k
 have ih0 := spec_CommitCode.mono_l k
 unfold spec_CommitCode.f
 repeat' first
   | (with_reducible exact ih0 _ _ _ _ _ _ _ _ _ _ _)
   | (with_reducible exact spec_LatestVersion.mono _ _)
   | (with_reducible exact spec_l12Good.mono _ _ _ _ _ _ _ _ _ _ _ _)
   | (with_reducible exact LeO.refl _)
   | (with_reducible exact LeO.none _)
   | (with_reducible refine LeO.ite ?_ ?_)
   | (with_reducible refine LeO.bind ?_ (fun _ => ?_))
   | exact ih0 _ _ _ _ _ _ _ _ _ _ _
   | exact spec_LatestVersion.mono _ _
   | exact spec_l12Good.mono _ _ _ _ _ _ _ _ _ _ _ _
   | exact LeO.none _
   | refine LeO.ite ?_ ?_
   | refine LeO.bind ?_ (fun _ => ?_)
def spec_CommitCode.T6 : Bool × List (List Nat × List Nat) := (true, [([], []), ([0], [0]), ([], []), ([2], [2]), ([], []), ([3, 4], [3, 4]), ([5], [5]), ([6], [6]), ([1, 7], [1, 7]), ([8], [8]), ([9], [9]), ([10], [10]), ([], []), ([12], [12]), ([11, 13], [11, 13])])
def spec_CommitCode.B6 : List Nat := [0, 1, 0, 4, 0, 28, 60, 124, 255, 511, 1023, 2047, 0, 4096, 16383]
theorem spec_CommitCode.tab6 : rtab .any (opsOf Try.f34 6) = spec_CommitCode.T6 := by kernel_rfl
theorem spec_CommitCode.bits6 : waitsOk spec_CommitCode.T6.2 spec_CommitCode.B6 = true := by kernel_rfl
set_option maxHeartbeats 8000000 in
set_option maxRecDepth 100000 in
theorem spec_CommitCode.calls (k : Nat) (A0_0 : Option Addr) (c0_0 : Nat) (l0_0 : List (List (S76))) (a1_0 : Int) (a1_1 : Int) (a1_2 : Int) (a1_3 : Int) (a1_4 : Int) (a1_5 : Int) (a1_6 : Int) (A1_7 : Option Addr) (c1_7 : Nat) (l1_7 : List (S165)) (A1_8 : Option Addr) (c1_8 : Nat) (l1_8 : List (S133)) (r : Int) (w : World) (hr0_0 : Kd.C (Kd.slice 76 k76) w A0_0 l0_0.length l0_0) (hc0_0 : l0_0.length ≤ c0_0) (hr1_7 : Kd.C k165 w A1_7 l1_7.length l1_7) (hc1_7 : l1_7.length ≤ c1_7) (hr1_8 : Kd.C k133 w A1_8 l1_8.length l1_8) (hc1_8 : l1_8.length ≤ c1_8) (h : spec_CommitCode.f k l0_0 a1_0 a1_1 a1_2 a1_3 a1_4 a1_5 a1_6 l1_7 l1_8 = some r) :
  Calls Try.prog 34 #[.agg #[.slice A0_0 l0_0.length c0_0], .agg #[.int .i64 a1_0, .int .i64 a1_1, .int .i64 a1_2, .int .i64 a1_3, .int .i64 a1_4, .int .i64 a1_5, .int .i64 a1_6, .slice A1_7 l1_7.length c1_7, .slice A1_8 l1_8.length c1_8]] w fun e w' => e = .returned (.int .i64 r) ∧ Below w.heap.size w w' := by
 have hu49 := Try.underlying49
 have hu68 := Try.underlying68
 have HR0_0 := AM_ hr0_0
 have HC0_0 := AM_ hc0_0
 clear hr0_0 hc0_0
 have HR1_7 := AM_ hr1_7
 have HC1_7 := AM_ hc1_7
 clear hr1_7 hc1_7
 have HR1_8 := AM_ hr1_8
 have HC1_8 := AM_ hc1_8
 clear hr1_8 hc1_8
 have HB := AM_ (Below.refl w.heap.size w)
 have H : ((spec_l12Good.f k l0_0 a1_0 a1_1 a1_2 a1_3 a1_4 a1_5 a1_6 l1_7 l1_8 0).bind fun t160 => (if t160 = true then (spec_CommitCode.l0 k 0 l0_0 a1_0 a1_1 a1_2 a1_3 a1_4 a1_5 a1_6 l1_7 l1_8) else (some 6))) = some r := h
 clear h
 replace H := Option.bind_eq_some_iff.mp H
 obtain ⟨t160, A30, H⟩ := H
 replace H : (if t160 = true then (spec_CommitCode.l0 k 0 l0_0 a1_0 a1_1 a1_2 a1_3 a1_4 a1_5 a1_6 l1_7 l1_8) else (some 6)) = some r := H
 have A3 := AM_ A30
 clear A30
 by_cases c4 : t160 = true
 rotate_left
 ·replace c4 := Bool.eq_false_iff.mpr c4
  subst c4
  have H1 : (some 6) = some r := by rw [if_neg (show ¬ (false = true) by decide)] at H; exact H
  clear H
  have H := H1
  clear H1
  obtain rfl := Option.some.inj H
  go_enter Try.func34, Try.ntmps34
  go_wp2_with (first | ((with_reducible refine gate_dst (N := 2) rfl ?_); refine box_event ?hg (N := 2) ?hd (cs := #[.slice A0_0 l0_0.length c0_0]) (t := 49) ?hr ?_; (case hd => rfl); (case hg => rfl); (case hr => first | (go_simp; done) | (go_simp; rfl)); intro gb158 hg w40 hbox hb; have BK158 := AM_ (hbox); have GW158 := AM_ ((GS HB.out hg)); have GE158 := AM_ ((GS HB.out hg)); replace HB := AM_ (below_step (BT HB.out) hb); clear hb hbox hg) | ((with_reducible refine gate_dst (N := 3) rfl ?_); refine box_event ?hg (N := 3) ?hd (cs := #[.int .i64 a1_0, .int .i64 a1_1, .int .i64 a1_2, .int .i64 a1_3, .int .i64 a1_4, .int .i64 a1_5, .int .i64 a1_6, .slice A1_7 l1_7.length c1_7, .slice A1_8 l1_8.length c1_8]) (t := 68) ?hr ?_; (case hd => rfl); (case hg => rfl); (case hr => first | (go_simp; done) | (go_simp; rfl)); intro gb159 hg w41 hbox hb; have BK159 := AM_ (hbox); have GW159 := AM_ ((GS HB.out hg)); have GE159 := AM_ ((GS HB.out hg)); replace HB := AM_ (below_step (BT HB.out) hb); have NB158_159 := AM_ ((NL BK158.out hg)); have NB159_158 := AM_ ((NG BK158.out hg)); replace BK158 := AM_ (BB BK158.out hb); clear hb hbox hg; have hnb42 := NB158_159.out; have hnc42 := NB159_158.out; obtain ⟨hcz43_0, hfz43_0⟩ := bk1 BK158.out; obtain ⟨hcz44_0, hcz44_1, hcz44_2, hcz44_3, hcz44_4, hcz44_5, hcz44_6, hcz44_7, hcz44_8, hfz44_0, hfz44_1, hfz44_2, hfz44_3, hfz44_4, hfz44_5, hfz44_6, hfz44_7, hfz44_8⟩ := bk9 BK159.out) | ((with_reducible refine gate_callee (f := 100) rfl ?_); refine goesL_ (some 8) rfl rfl Try.func100 (by kernel_rfl) rfl #[.agg #[.slice A0_0 l0_0.length c0_0], .agg #[.int .i64 a1_0, .int .i64 a1_1, .int .i64 a1_2, .int .i64 a1_3, .int .i64 a1_4, .int .i64 a1_5, .int .i64 a1_6, .slice A1_7 l1_7.length c1_7, .slice A1_8 l1_8.length c1_8], .int .i64 0] rfl (by (try simp only [List.map_toArray, List.map_cons, List.map_nil]); first | done | rfl | (simp only [List.length_drop, List.length_take]; rfl)) ?_; (with_reducible refine (spec_l12Good.calls k _ _ l0_0 a1_0 a1_1 a1_2 a1_3 a1_4 a1_5 a1_6 _ _ l1_7 _ _ l1_8 0 false _ ?side1 ?side2 ?side3 ?side4 ?side5 ?side6 A3.out).mono ?_); (case side1 => exact CB HR0_0.out HB.out); (case side2 => exact HC0_0.out); (case side3 => exact CB HR1_7.out HB.out); (case side4 => exact HC1_7.out); (case side5 => exact CB HR1_8.out HB.out); (case side6 => exact HC1_8.out); rintro e w45 ⟨rfl, hb⟩; refine ⟨_, rfl, ?_⟩; replace BK158 := AM_ (BB BK158.out hb); replace BK159 := AM_ (BB BK159.out hb); replace HB := AM_ (below_step (BT HB.out) hb); (try clear hb); (try clear hb2); (try clear hk); (try clear hi)))
  go_ret
  exact QT (BT HB.out)
 subst c4
 have H1 : (spec_CommitCode.l0 k 0 l0_0 a1_0 a1_1 a1_2 a1_3 a1_4 a1_5 a1_6 l1_7 l1_8) = some r := by rw [if_pos rfl] at H; exact H
 clear H
 have H := H1
 clear H1
 have H' := AM_ H
 clear H
 go_enter Try.func34, Try.ntmps34
 go_wp2_with (first | ((with_reducible refine gate_dst (N := 2) rfl ?_); refine box_event ?hg (N := 2) ?hd (cs := #[.slice A0_0 l0_0.length c0_0]) (t := 49) ?hr ?_; (case hd => rfl); (case hg => rfl); (case hr => first | (go_simp; done) | (go_simp; rfl)); intro gb158 hg w5 hbox hb; have BK158 := AM_ (hbox); have GW158 := AM_ ((GS HB.out hg)); have GE158 := AM_ ((GS HB.out hg)); replace HB := AM_ (below_step (BT HB.out) hb); clear hb hbox hg) | ((with_reducible refine gate_dst (N := 3) rfl ?_); refine box_event ?hg (N := 3) ?hd (cs := #[.int .i64 a1_0, .int .i64 a1_1, .int .i64 a1_2, .int .i64 a1_3, .int .i64 a1_4, .int .i64 a1_5, .int .i64 a1_6, .slice A1_7 l1_7.length c1_7, .slice A1_8 l1_8.length c1_8]) (t := 68) ?hr ?_; (case hd => rfl); (case hg => rfl); (case hr => first | (go_simp; done) | (go_simp; rfl)); intro gb159 hg w6 hbox hb; have BK159 := AM_ (hbox); have GW159 := AM_ ((GS HB.out hg)); have GE159 := AM_ ((GS HB.out hg)); replace HB := AM_ (below_step (BT HB.out) hb); have NB158_159 := AM_ ((NL BK158.out hg)); have NB159_158 := AM_ ((NG BK158.out hg)); replace BK158 := AM_ (BB BK158.out hb); clear hb hbox hg; have hnb7 := NB158_159.out; have hnc7 := NB159_158.out; obtain ⟨hcz8_0, hfz8_0⟩ := bk1 BK158.out; obtain ⟨hcz9_0, hcz9_1, hcz9_2, hcz9_3, hcz9_4, hcz9_5, hcz9_6, hcz9_7, hcz9_8, hfz9_0, hfz9_1, hfz9_2, hfz9_3, hfz9_4, hfz9_5, hfz9_6, hfz9_7, hfz9_8⟩ := bk9 BK159.out) | ((with_reducible refine gate_callee (f := 100) rfl ?_); refine goesL_ (some 8) rfl rfl Try.func100 (by kernel_rfl) rfl #[.agg #[.slice A0_0 l0_0.length c0_0], .agg #[.int .i64 a1_0, .int .i64 a1_1, .int .i64 a1_2, .int .i64 a1_3, .int .i64 a1_4, .int .i64 a1_5, .int .i64 a1_6, .slice A1_7 l1_7.length c1_7, .slice A1_8 l1_8.length c1_8], .int .i64 0] rfl (by (try simp only [List.map_toArray, List.map_cons, List.map_nil]); first | done | rfl | (simp only [List.length_drop, List.length_take]; rfl)) ?_; (with_reducible refine (spec_l12Good.calls k _ _ l0_0 a1_0 a1_1 a1_2 a1_3 a1_4 a1_5 a1_6 _ _ l1_7 _ _ l1_8 0 true _ ?side1 ?side2 ?side3 ?side4 ?side5 ?side6 A3.out).mono ?_); (case side1 => exact CB HR0_0.out HB.out); (case side2 => exact HC0_0.out); (case side3 => exact CB HR1_7.out HB.out); (case side4 => exact HC1_7.out); (case side5 => exact CB HR1_8.out HB.out); (case side6 => exact HC1_8.out); rintro e w10 ⟨rfl, hb⟩; refine ⟨_, rfl, ?_⟩; replace BK158 := AM_ (BB BK158.out hb); replace BK159 := AM_ (BB BK159.out hb); replace HB := AM_ (below_step (BT HB.out) hb); (try clear hb); (try clear hb2); (try clear hk); (try clear hi)))
 go_loopg [5] k (fun kq v5 w' => ∃ (x5_1 : Int), v5 = .int .i64 x5_1 ∧ Aside0 (spec_CommitCode.l0 kq x5_1 l0_0 a1_0 a1_1 a1_2 a1_3 a1_4 a1_5 a1_6 l1_7 l1_8 = some r) ∧ Aside0 (kq ≤ k) ∧ Aside0 (w'.heap[gb158]? = some (.cells #[(.slice A0_0 l0_0.length c0_0)] 49 (0, 0))) ∧ Aside0 (w'.heap[gb159]? = some (.cells #[.int .i64 a1_0, .int .i64 a1_1, .int .i64 a1_2, .int .i64 a1_3, .int .i64 a1_4, .int .i64 a1_5, .int .i64 a1_6, (.slice A1_7 l1_7.length c1_7), (.slice A1_8 l1_8.length c1_8)] 68 (0, 0))) ∧ Aside0 (Below w.heap.size w w'))
 case atStart => exact ⟨(0), (by first | rfl | (simp; done) | (simp [*]; done)), H', ⟨Nat.le_refl _⟩, ⟨BH BK158.out⟩, ⟨BH BK159.out⟩, ⟨BT HB.out⟩⟩
 case round =>
  clear H'
  try clear c1
  try clear p2
  try clear c3
  try clear c4
  try clear c7
  try clear c10
  try clear hcz8_0
  try clear hcz9_0
  try clear hcz9_1
  try clear hcz9_2
  try clear hcz9_3
  try clear hcz9_4
  try clear hcz9_5
  try clear hcz9_6
  try clear hcz9_7
  try clear hcz9_8
  try clear hfz8_0
  try clear hfz9_0
  try clear hfz9_1
  try clear hfz9_2
  try clear hfz9_3
  try clear hfz9_4
  try clear hfz9_5
  try clear hfz9_6
  try clear hfz9_7
  try clear hfz9_8
  obtain ⟨x5_1, rfl, HA, HK1, BK158, BK159, HB⟩ := hrel
  cases gk with
  | zero => exact absurd HA.out (by simp [spec_CommitCode.l0])
  | succ k1 =>
   have H := HA.out
   clear HA
   simp only [spec_CommitCode.l0] at H
   by_cases c11 : x5_1 < (l1_8.length : Int)
   rotate_left
   ·rw [if_neg c11] at H
    have c11b0 : decide (x5_1 < (l1_8.length : Int)) = false := decide_eq_false c11
    clear c11
    obtain rfl := Option.some.inj H
    have hnb38 := NB159_158.out
    have hnc38 := NB158_159.out
    obtain ⟨hcz39_0, hcz39_1, hcz39_2, hcz39_3, hcz39_4, hcz39_5, hcz39_6, hcz39_7, hcz39_8, hfz39_0, hfz39_1, hfz39_2, hfz39_3, hfz39_4, hfz39_5, hfz39_6, hfz39_7, hfz39_8⟩ := bk9 BK159.out
    go_wp2
    go_ret
    exact QT (BT HB.out)
   rw [if_pos c11] at H
   have c11b0 : decide (x5_1 < (l1_8.length : Int)) = true := decide_eq_true c11
   clear c11
   by_cases c12 : 0 ≤ x5_1
   rotate_left
   ·rw [if_neg c12] at H
    exact absurd H (by simp)
   rw [if_pos c12] at H
   have c12b0 : decide (0 ≤ x5_1) = true := decide_eq_true c12
   clear c12
   by_cases c13 : 0 ≤ ((rd_T133 l1_8 x5_1).f0)
   rotate_left
   ·rw [if_neg c13] at H
    exact absurd H (by simp)
   rw [if_pos c13] at H
   have c13b0 : decide (0 ≤ ((rd_T133 l1_8 x5_1).f0)) = true := decide_eq_true c13
   clear c13
   by_cases c14 : ((rd_T133 l1_8 x5_1).f0) < (l0_0.length : Int)
   rotate_left
   ·rw [if_neg c14] at H
    exact absurd H (by simp)
   rw [if_pos c14] at H
   have c14b0 : decide (((rd_T133 l1_8 x5_1).f0) < (l0_0.length : Int)) = true := decide_eq_true c14
   clear c14
   replace H := Option.bind_eq_some_iff.mp H
   obtain ⟨⟨t163, t164, t165, t166, t167⟩, A150, H⟩ := H
   replace H : (if t165 ≤ a1_3 then (spec_CommitCode.l0 k1 (wrap64 (x5_1 + 1)) l0_0 a1_0 a1_1 a1_2 a1_3 a1_4 a1_5 a1_6 l1_7 l1_8) else (if a1_1 = 2 then (some 2) else (if a1_1 = 4 then (some 3) else (spec_CommitCode.l0 k1 (wrap64 (x5_1 + 1)) l0_0 a1_0 a1_1 a1_2 a1_3 a1_4 a1_5 a1_6 l1_7 l1_8)))) = some r := H
   have A15 := AM_ A150
   clear A150
   by_cases c16 : t165 ≤ a1_3
   ·rw [if_pos c16] at H
    have c16b0 : decide (t165 ≤ a1_3) = true := decide_eq_true c16
    clear c16
    have H' := AM_ H
    clear H
    have hnb17 := NB159_158.out
    have hnc17 := NB158_159.out
    obtain ⟨hcz18_0, hcz18_1, hcz18_2, hcz18_3, hcz18_4, hcz18_5, hcz18_6, hcz18_7, hcz18_8, hfz18_0, hfz18_1, hfz18_2, hfz18_3, hfz18_4, hfz18_5, hfz18_6, hfz18_7, hfz18_8⟩ := bk9 BK159.out
    try go_wp2
    replace BK158 := AM_ (blk_drew BK158.out)
    replace BK159 := AM_ (blk_drew BK159.out)
    replace HB := AM_ (below_drew1 HB.out)
    have p161 : 0 ≤ (x5_1 : Int) := DT
    have q161 : x5_1 < (l1_8.length : Int) := DT
    obtain ⟨ad161, e161, hx161_0, hx161_1⟩ := at_T133 HR1_8.out x5_1 p161 q161
    have hw161_1 := hx161_1
    have hw161_0 := hx161_0
    cases e161
    replace hx161_0 := BC HB.out hx161_0
    replace hx161_1 := BC HB.out hx161_1
    replace p161 := eq_true p161
    replace q161 := eq_true q161
    have p162 : 0 ≤ (((rd_T133 l1_8 x5_1).f0) : Int) := DT
    have q162 : ((rd_T133 l1_8 x5_1).f0) < (l0_0.length : Int) := DT
    obtain ⟨ad162, A162_0, c162_0, e162, hx162_0, hl162_0, hi162_0⟩ := at_L6 HR0_0.out ((rd_T133 l1_8 x5_1).f0) p162 q162
    have hw162_0 := hx162_0
    cases e162
    replace hx162_0 := BC HB.out hx162_0
    have HR162_0 := AM_ hi162_0
    have HC162_0 := AM_ hl162_0
    clear hi162_0 hl162_0
    replace p162 := eq_true p162
    replace q162 := eq_true q162
    refine start_ (n := 15) (S := fun w' => w'.cell? ⟨gb158, 0, none⟩ = some (.slice (some ad162) l0_0.length c0_0) ∧ w'.cell? ⟨gb159, 0, none⟩ = some (.int .i64 a1_0) ∧ w'.cell? ⟨gb159, 1, none⟩ = some (.int .i64 a1_1) ∧ w'.cell? ⟨gb159, 2, none⟩ = some (.int .i64 a1_2) ∧ w'.cell? ⟨gb159, 3, none⟩ = some (.int .i64 a1_3) ∧ w'.cell? ⟨gb159, 4, none⟩ = some (.int .i64 a1_4) ∧ w'.cell? ⟨gb159, 5, none⟩ = some (.int .i64 a1_5) ∧ w'.cell? ⟨gb159, 6, none⟩ = some (.int .i64 a1_6) ∧ w'.cell? ⟨gb159, 7, none⟩ = some (.slice A1_7 l1_7.length c1_7) ∧ w'.cell? ⟨gb159, 8, none⟩ = some (.slice (some ad161) l1_8.length c1_8) ∧ w'.cell? (ad161.add ((x5_1).toNat * 2)) = some (.int .i64 ((rd_T133 l1_8 x5_1).f0)) ∧ w'.cell? ⟨(ad161.add ((x5_1).toNat * 2)).block, (ad161.add ((x5_1).toNat * 2)).off + 1, none⟩ = some (.int .i64 ((rd_T133 l1_8 x5_1).f1)) ∧ w'.cell? (ad162.add (((rd_T133 l1_8 x5_1).f0)).toNat) = some (.slice A162_0 (rd_L6 l0_0 ((rd_T133 l1_8 x5_1).f0)).length c162_0)) (ds := []) (bs 0 15) (by kernel_rfl) rfl rfl ⟨bc BK158.out 0, bc BK159.out 0, bc BK159.out 1, bc BK159.out 2, bc BK159.out 3, bc BK159.out 4, bc BK159.out 5, bc BK159.out 6, bc BK159.out 7, bc BK159.out 8, (BD HB.out hw161_0), (BD HB.out hw161_1), (BD HB.out hw162_0)⟩ (fun hHeld => ?_); refine with_tabW spec_CommitCode.tab6 spec_CommitCode.bits6 (fun HT_ HW_ => ?_)
    generalize wr.drew = w19 at BK158 BK159 HB HR162_0 hx161_0 hx161_1 hx162_0 hHeld ⊢
    refine pu (i := 0) (N := some 17) (v := ?_) (a' := ?_) (bs 1 15) rfl rfl HT_ ?_ ?_ ?_
    rotate_left
    ·intro w'
     go_simp
     rfl
    rotate_left
    ·simp only [pA, pS, pZ, pK, i64_w, i32_w]
     rfl
    refine pu (i := 2) (N := some 19) (v := ?_) (a' := ?_) (bs 5 15) rfl rfl HT_ ?_ ?_ ?_
    rotate_left
    ·intro w'
     go_simp
     rfl
    rotate_left
    ·simp only [pA, pS, pZ, pK, i64_w, i32_w]
     rfl
    refine pu (i := 4) (N := some 21) (v := ?_) (a' := ?_) (bs 21 15) rfl rfl HT_ ?_ ?_ ?_
    rotate_left
    ·intro w'
     go_simp
     rfl
    rotate_left
    ·simp only [pA, pS, pZ, pK, i64_w, i32_w]
     rfl
    refine pu (i := 12) (N := some 29) (v := ?_) (a' := ?_) (bs 4117 15) rfl rfl HT_ ?_ ?_ ?_
    rotate_left
    ·intro w'
     go_simp
     rfl
    rotate_left
    ·simp only [pA, pS, pZ, pK, i64_w, i32_w]
     rfl
    refine tk (i := 1) (N := some 18) (v := ?_) (a' := ?_) (bs 4119 15) rfl rfl HT_ HW_ ?_ hHeld ?_ ?_
    rotate_left
    ·rintro w' ⟨s0, s1, s2, s3, s4, s5, s6, s7, s8, s9, s10, s11, s12⟩
     go_simp
     rfl
    rotate_left
    ·simp only [pA, pS, pZ, pK, i64_w, i32_w]
     rfl
    refine tk (i := 3) (N := some 20) (v := ?_) (a' := ?_) (bs 4127 15) rfl rfl HT_ HW_ ?_ hHeld ?_ ?_
    rotate_left
    ·rintro w' ⟨s0, s1, s2, s3, s4, s5, s6, s7, s8, s9, s10, s11, s12⟩
     go_simp
     rfl
    rotate_left
    ·simp only [pA, pS, pZ, pK, i64_w, i32_w]
     rfl
    refine pu (i := 5) (N := some 22) (v := ?_) (a' := ?_) (bs 4159 15) rfl rfl HT_ ?_ ?_ ?_
    rotate_left
    ·intro w'
     go_simp
     rfl
    rotate_left
    ·simp only [pA, pS, pZ, pK, i64_w, i32_w]
     rfl
    refine pu (i := 6) (N := some 23) (v := ?_) (a' := ?_) (bs 4223 15) rfl rfl HT_ ?_ ?_ ?_
    rotate_left
    ·intro w'
     go_simp
     rfl
    rotate_left
    ·simp only [pA, pS, pZ, pK, i64_w, i32_w]
     rfl
    refine tk (i := 7) (N := some 24) (v := ?_) (a' := ?_) (bs 4351 15) rfl rfl HT_ HW_ ?_ hHeld ?_ ?_
    rotate_left
    ·rintro w' ⟨s0, s1, s2, s3, s4, s5, s6, s7, s8, s9, s10, s11, s12⟩
     go_simp
     rfl
    rotate_left
    ·simp only [pA, pS, pZ, pK, i64_w, i32_w]
     rfl
    refine pu (i := 8) (N := some 25) (v := ?_) (a' := ?_) (bs 4607 15) rfl rfl HT_ ?_ ?_ ?_
    rotate_left
    ·intro w'
     go_simp
     rfl
    rotate_left
    ·simp only [pA, pS, pZ, pK, i64_w, i32_w]
     rfl
    refine tk (i := 9) (N := some 26) (v := ?_) (a' := ?_) (bs 5119 15) rfl rfl HT_ HW_ ?_ hHeld ?_ ?_
    rotate_left
    ·rintro w' ⟨s0, s1, s2, s3, s4, s5, s6, s7, s8, s9, s10, s11, s12⟩
     go_simp
     rfl
    rotate_left
    ·simp only [pA, pS, pZ, pK, i64_w, i32_w]
     rfl
    refine tk (i := 13) (N := some 30) (v := ?_) (a' := ?_) (bs 13311 15) rfl rfl HT_ HW_ ?_ hHeld ?_ ?_
    rotate_left
    ·rintro w' ⟨s0, s1, s2, s3, s4, s5, s6, s7, s8, s9, s10, s11, s12⟩
     go_simp
     rfl
    rotate_left
    ·simp only [pA, pS, pZ, pK, i64_w, i32_w]
     rfl
    refine one_ (i := 10) (N := some 27) (bs 14335 15) rfl rfl (one_of HT_.out (by kernel_rfl)) (by decide) (fun K hK => ?_)
    refine goes_ Try.func55 (by kernel_rfl) rfl #[.slice A162_0 (rd_L6 l0_0 ((rd_T133 l1_8 x5_1).f0)).length c162_0] (by rfl) rfl rfl (by (try simp only [List.map_toArray, List.map_cons, List.map_nil]); first | done | rfl | (simp only [List.length_drop, List.length_take]; rfl)) ?_
    with_reducible refine (spec_LatestVersion.calls k1 _ _ (rd_L6 l0_0 ((rd_T133 l1_8 x5_1).f0)) t163 t164 t165 t166 t167 _ ?side1 ?side2 A15.out).mono ?_
    (case side1 => exact CB HR162_0.out HB.out)
    (case side2 => exact HC162_0.out)
    rintro e w20 ⟨rfl, hb⟩
    refine ⟨_, rfl, ?_⟩
    replace BK158 := AM_ (BB BK158.out hb)
    replace BK159 := AM_ (BB BK159.out hb)
    replace HB := AM_ (below_step (BT HB.out) hb)
    (try clear hb)
    (try clear hb2)
    (try clear hk)
    (try clear hi)
    refine hK.out _ _ ⟨bc BK158.out 0, bc BK159.out 0, bc BK159.out 1, bc BK159.out 2, bc BK159.out 3, bc BK159.out 4, bc BK159.out 5, bc BK159.out 6, bc BK159.out 7, bc BK159.out 8, (BD HB.out hw161_0), (BD HB.out hw161_1), (BD HB.out hw162_0)⟩ (fun hHeld => ?_)
    clear hK K
    refine norm_ (a' := ?_) ?_ ?_
    rotate_left
    ·show Act.put _ (some 27) _ = _
     simp only [pA, pS, pZ, pK, i64_w, i32_w]
     rfl
    refine pu (i := 11) (N := some 28) (v := ?_) (a' := ?_) (bs 16383 15) rfl rfl HT_ ?_ ?_ ?_
    rotate_left
    ·intro w'
     go_simp
     rfl
    rotate_left
    ·simp only [pA, pS, pZ, pK, i64_w, i32_w]
     rfl
    refine pu (i := 14) (N := some 31) (v := ?_) (a' := ?_) (bs 32767 15) rfl rfl HT_ ?_ ?_ ?_
    rotate_left
    ·intro w'
     go_simp
     rfl
    rotate_left
    ·simp only [pA, pS, pZ, pK, i64_w, i32_w]
     rfl
    refine done_ (done_of HT_.out (by kernel_rfl)) ?_
    try go_wp2
    go_roundg k1
    case measure => have := HK1.out; omega
    case rel => exact ⟨(wrap64 (x5_1 + 1)), (by first | rfl | (simp; done) | (simp [*]; done)), H', ⟨by have := HK1.out; omega⟩, ⟨BH BK158.out⟩, ⟨BH BK159.out⟩, ⟨BT HB.out⟩⟩
   rw [if_neg c16] at H
   have c16b0 : decide (t165 ≤ a1_3) = false := decide_eq_false c16
   clear c16
   by_cases c21 : a1_1 = 2
   ·rw [if_pos c21] at H
    have c21b0 : (a1_1 == 2) = true := beq_iff_eq.mpr c21
    have c21b1 : (a1_1 != 2) = false := bne_eq_false_iff_eq.mpr c21
    clear c21
    obtain rfl := Option.some.inj H
    have hnb22 := NB159_158.out
    have hnc22 := NB158_159.out
    obtain ⟨hcz23_0, hcz23_1, hcz23_2, hcz23_3, hcz23_4, hcz23_5, hcz23_6, hcz23_7, hcz23_8, hfz23_0, hfz23_1, hfz23_2, hfz23_3, hfz23_4, hfz23_5, hfz23_6, hfz23_7, hfz23_8⟩ := bk9 BK159.out
    try go_wp2
    replace BK158 := AM_ (blk_drew BK158.out)
    replace BK159 := AM_ (blk_drew BK159.out)
    replace HB := AM_ (below_drew1 HB.out)
    have p161 : 0 ≤ (x5_1 : Int) := DT
    have q161 : x5_1 < (l1_8.length : Int) := DT
    obtain ⟨ad161, e161, hx161_0, hx161_1⟩ := at_T133 HR1_8.out x5_1 p161 q161
    have hw161_1 := hx161_1
    have hw161_0 := hx161_0
    cases e161
    replace hx161_0 := BC HB.out hx161_0
    replace hx161_1 := BC HB.out hx161_1
    replace p161 := eq_true p161
    replace q161 := eq_true q161
    have p162 : 0 ≤ (((rd_T133 l1_8 x5_1).f0) : Int) := DT
    have q162 : ((rd_T133 l1_8 x5_1).f0) < (l0_0.length : Int) := DT
    obtain ⟨ad162, A162_0, c162_0, e162, hx162_0, hl162_0, hi162_0⟩ := at_L6 HR0_0.out ((rd_T133 l1_8 x5_1).f0) p162 q162
    have hw162_0 := hx162_0
    cases e162
    replace hx162_0 := BC HB.out hx162_0
    have HR162_0 := AM_ hi162_0
    have HC162_0 := AM_ hl162_0
    clear hi162_0 hl162_0
    replace p162 := eq_true p162
    replace q162 := eq_true q162
    refine start_ (n := 15) (S := fun w' => w'.cell? ⟨gb158, 0, none⟩ = some (.slice (some ad162) l0_0.length c0_0) ∧ w'.cell? ⟨gb159, 0, none⟩ = some (.int .i64 a1_0) ∧ w'.cell? ⟨gb159, 1, none⟩ = some (.int .i64 a1_1) ∧ w'.cell? ⟨gb159, 2, none⟩ = some (.int .i64 a1_2) ∧ w'.cell? ⟨gb159, 3, none⟩ = some (.int .i64 a1_3) ∧ w'.cell? ⟨gb159, 4, none⟩ = some (.int .i64 a1_4) ∧ w'.cell? ⟨gb159, 5, none⟩ = some (.int .i64 a1_5) ∧ w'.cell? ⟨gb159, 6, none⟩ = some (.int .i64 a1_6) ∧ w'.cell? ⟨gb159, 7, none⟩ = some (.slice A1_7 l1_7.length c1_7) ∧ w'.cell? ⟨gb159, 8, none⟩ = some (.slice (some ad161) l1_8.length c1_8) ∧ w'.cell? (ad161.add ((x5_1).toNat * 2)) = some (.int .i64 ((rd_T133 l1_8 x5_1).f0)) ∧ w'.cell? ⟨(ad161.add ((x5_1).toNat * 2)).block, (ad161.add ((x5_1).toNat * 2)).off + 1, none⟩ = some (.int .i64 ((rd_T133 l1_8 x5_1).f1)) ∧ w'.cell? (ad162.add (((rd_T133 l1_8 x5_1).f0)).toNat) = some (.slice A162_0 (rd_L6 l0_0 ((rd_T133 l1_8 x5_1).f0)).length c162_0)) (ds := []) (bs 0 15) (by kernel_rfl) rfl rfl ⟨bc BK158.out 0, bc BK159.out 0, bc BK159.out 1, bc BK159.out 2, bc BK159.out 3, bc BK159.out 4, bc BK159.out 5, bc BK159.out 6, bc BK159.out 7, bc BK159.out 8, (BD HB.out hw161_0), (BD HB.out hw161_1), (BD HB.out hw162_0)⟩ (fun hHeld => ?_); refine with_tabW spec_CommitCode.tab6 spec_CommitCode.bits6 (fun HT_ HW_ => ?_)
    generalize wr.drew = w24 at BK158 BK159 HB HR162_0 hx161_0 hx161_1 hx162_0 hHeld ⊢
    refine pu (i := 0) (N := some 17) (v := ?_) (a' := ?_) (bs 1 15) rfl rfl HT_ ?_ ?_ ?_
    rotate_left
    ·intro w'
     go_simp
     rfl
    rotate_left
    ·simp only [pA, pS, pZ, pK, i64_w, i32_w]
     rfl
    refine pu (i := 2) (N := some 19) (v := ?_) (a' := ?_) (bs 5 15) rfl rfl HT_ ?_ ?_ ?_
    rotate_left
    ·intro w'
     go_simp
     rfl
    rotate_left
    ·simp only [pA, pS, pZ, pK, i64_w, i32_w]
     rfl
    refine pu (i := 4) (N := some 21) (v := ?_) (a' := ?_) (bs 21 15) rfl rfl HT_ ?_ ?_ ?_
    rotate_left
    ·intro w'
     go_simp
     rfl
    rotate_left
    ·simp only [pA, pS, pZ, pK, i64_w, i32_w]
     rfl
    refine pu (i := 12) (N := some 29) (v := ?_) (a' := ?_) (bs 4117 15) rfl rfl HT_ ?_ ?_ ?_
    rotate_left
    ·intro w'
     go_simp
     rfl
    rotate_left
    ·simp only [pA, pS, pZ, pK, i64_w, i32_w]
     rfl
    refine tk (i := 1) (N := some 18) (v := ?_) (a' := ?_) (bs 4119 15) rfl rfl HT_ HW_ ?_ hHeld ?_ ?_
    rotate_left
    ·rintro w' ⟨s0, s1, s2, s3, s4, s5, s6, s7, s8, s9, s10, s11, s12⟩
     go_simp
     rfl
    rotate_left
    ·simp only [pA, pS, pZ, pK, i64_w, i32_w]
     rfl
    refine tk (i := 3) (N := some 20) (v := ?_) (a' := ?_) (bs 4127 15) rfl rfl HT_ HW_ ?_ hHeld ?_ ?_
    rotate_left
    ·rintro w' ⟨s0, s1, s2, s3, s4, s5, s6, s7, s8, s9, s10, s11, s12⟩
     go_simp
     rfl
    rotate_left
    ·simp only [pA, pS, pZ, pK, i64_w, i32_w]
     rfl
    refine pu (i := 5) (N := some 22) (v := ?_) (a' := ?_) (bs 4159 15) rfl rfl HT_ ?_ ?_ ?_
    rotate_left
    ·intro w'
     go_simp
     rfl
    rotate_left
    ·simp only [pA, pS, pZ, pK, i64_w, i32_w]
     rfl
    refine pu (i := 6) (N := some 23) (v := ?_) (a' := ?_) (bs 4223 15) rfl rfl HT_ ?_ ?_ ?_
    rotate_left
    ·intro w'
     go_simp
     rfl
    rotate_left
    ·simp only [pA, pS, pZ, pK, i64_w, i32_w]
     rfl
    refine tk (i := 7) (N := some 24) (v := ?_) (a' := ?_) (bs 4351 15) rfl rfl HT_ HW_ ?_ hHeld ?_ ?_
    rotate_left
    ·rintro w' ⟨s0, s1, s2, s3, s4, s5, s6, s7, s8, s9, s10, s11, s12⟩
     go_simp
     rfl
    rotate_left
    ·simp only [pA, pS, pZ, pK, i64_w, i32_w]
     rfl
    refine pu (i := 8) (N := some 25) (v := ?_) (a' := ?_) (bs 4607 15) rfl rfl HT_ ?_ ?_ ?_
    rotate_left
    ·intro w'
     go_simp
     rfl
    rotate_left
    ·simp only [pA, pS, pZ, pK, i64_w, i32_w]
     rfl
    refine tk (i := 9) (N := some 26) (v := ?_) (a' := ?_) (bs 5119 15) rfl rfl HT_ HW_ ?_ hHeld ?_ ?_
    rotate_left
    ·rintro w' ⟨s0, s1, s2, s3, s4, s5, s6, s7, s8, s9, s10, s11, s12⟩
     go_simp
     rfl
    rotate_left
    ·simp only [pA, pS, pZ, pK, i64_w, i32_w]
     rfl
    refine tk (i := 13) (N := some 30) (v := ?_) (a' := ?_) (bs 13311 15) rfl rfl HT_ HW_ ?_ hHeld ?_ ?_
    rotate_left
    ·rintro w' ⟨s0, s1, s2, s3, s4, s5, s6, s7, s8, s9, s10, s11, s12⟩
     go_simp
     rfl
    rotate_left
    ·simp only [pA, pS, pZ, pK, i64_w, i32_w]
     rfl
    refine one_ (i := 10) (N := some 27) (bs 14335 15) rfl rfl (one_of HT_.out (by kernel_rfl)) (by decide) (fun K hK => ?_)
    refine goes_ Try.func55 (by kernel_rfl) rfl #[.slice A162_0 (rd_L6 l0_0 ((rd_T133 l1_8 x5_1).f0)).length c162_0] (by rfl) rfl rfl (by (try simp only [List.map_toArray, List.map_cons, List.map_nil]); first | done | rfl | (simp only [List.length_drop, List.length_take]; rfl)) ?_
    with_reducible refine (spec_LatestVersion.calls k1 _ _ (rd_L6 l0_0 ((rd_T133 l1_8 x5_1).f0)) t163 t164 t165 t166 t167 _ ?side1 ?side2 A15.out).mono ?_
    (case side1 => exact CB HR162_0.out HB.out)
    (case side2 => exact HC162_0.out)
    rintro e w25 ⟨rfl, hb⟩
    refine ⟨_, rfl, ?_⟩
    replace BK158 := AM_ (BB BK158.out hb)
    replace BK159 := AM_ (BB BK159.out hb)
    replace HB := AM_ (below_step (BT HB.out) hb)
    (try clear hb)
    (try clear hb2)
    (try clear hk)
    (try clear hi)
    refine hK.out _ _ ⟨bc BK158.out 0, bc BK159.out 0, bc BK159.out 1, bc BK159.out 2, bc BK159.out 3, bc BK159.out 4, bc BK159.out 5, bc BK159.out 6, bc BK159.out 7, bc BK159.out 8, (BD HB.out hw161_0), (BD HB.out hw161_1), (BD HB.out hw162_0)⟩ (fun hHeld => ?_)
    clear hK K
    refine norm_ (a' := ?_) ?_ ?_
    rotate_left
    ·show Act.put _ (some 27) _ = _
     simp only [pA, pS, pZ, pK, i64_w, i32_w]
     rfl
    refine pu (i := 11) (N := some 28) (v := ?_) (a' := ?_) (bs 16383 15) rfl rfl HT_ ?_ ?_ ?_
    rotate_left
    ·intro w'
     go_simp
     rfl
    rotate_left
    ·simp only [pA, pS, pZ, pK, i64_w, i32_w]
     rfl
    refine pu (i := 14) (N := some 31) (v := ?_) (a' := ?_) (bs 32767 15) rfl rfl HT_ ?_ ?_ ?_
    rotate_left
    ·intro w'
     go_simp
     rfl
    rotate_left
    ·simp only [pA, pS, pZ, pK, i64_w, i32_w]
     rfl
    refine done_ (done_of HT_.out (by kernel_rfl)) ?_
    obtain ⟨hcz26_0, hcz26_1, hcz26_2, hcz26_3, hcz26_4, hcz26_5, hcz26_6, hcz26_7, hcz26_8, hfz26_0, hfz26_1, hfz26_2, hfz26_3, hfz26_4, hfz26_5, hfz26_6, hfz26_7, hfz26_8⟩ := bk9 BK159.out
    try go_wp2
    go_ret
    exact QT (BT HB.out)
   rw [if_neg c21] at H
   have c21b0 : (a1_1 == 2) = false := beq_eq_false_iff_ne.mpr c21
   have c21b1 : (a1_1 != 2) = true := bne_iff_ne.mpr c21
   by_cases c27 : a1_1 = 4
   ·rw [if_pos c27] at H
    have c27b0 : (a1_1 == 4) = true := beq_iff_eq.mpr c27
    have c27b1 : (a1_1 != 4) = false := bne_eq_false_iff_eq.mpr c27
    clear c27
    obtain rfl := Option.some.inj H
    have hnb28 := NB159_158.out
    have hnc28 := NB158_159.out
    obtain ⟨hcz29_0, hcz29_1, hcz29_2, hcz29_3, hcz29_4, hcz29_5, hcz29_6, hcz29_7, hcz29_8, hfz29_0, hfz29_1, hfz29_2, hfz29_3, hfz29_4, hfz29_5, hfz29_6, hfz29_7, hfz29_8⟩ := bk9 BK159.out
    try go_wp2
    replace BK158 := AM_ (blk_drew BK158.out)
    replace BK159 := AM_ (blk_drew BK159.out)
    replace HB := AM_ (below_drew1 HB.out)
    have p161 : 0 ≤ (x5_1 : Int) := DT
    have q161 : x5_1 < (l1_8.length : Int) := DT
    obtain ⟨ad161, e161, hx161_0, hx161_1⟩ := at_T133 HR1_8.out x5_1 p161 q161
    have hw161_1 := hx161_1
    have hw161_0 := hx161_0
    cases e161
    replace hx161_0 := BC HB.out hx161_0
    replace hx161_1 := BC HB.out hx161_1
    replace p161 := eq_true p161
    replace q161 := eq_true q161
    have p162 : 0 ≤ (((rd_T133 l1_8 x5_1).f0) : Int) := DT
    have q162 : ((rd_T133 l1_8 x5_1).f0) < (l0_0.length : Int) := DT
    obtain ⟨ad162, A162_0, c162_0, e162, hx162_0, hl162_0, hi162_0⟩ := at_L6 HR0_0.out ((rd_T133 l1_8 x5_1).f0) p162 q162
    have hw162_0 := hx162_0
    cases e162
    replace hx162_0 := BC HB.out hx162_0
    have HR162_0 := AM_ hi162_0
    have HC162_0 := AM_ hl162_0
    clear hi162_0 hl162_0
    replace p162 := eq_true p162
    replace q162 := eq_true q162
    refine start_ (n := 15) (S := fun w' => w'.cell? ⟨gb158, 0, none⟩ = some (.slice (some ad162) l0_0.length c0_0) ∧ w'.cell? ⟨gb159, 0, none⟩ = some (.int .i64 a1_0) ∧ w'.cell? ⟨gb159, 1, none⟩ = some (.int .i64 a1_1) ∧ w'.cell? ⟨gb159, 2, none⟩ = some (.int .i64 a1_2) ∧ w'.cell? ⟨gb159, 3, none⟩ = some (.int .i64 a1_3) ∧ w'.cell? ⟨gb159, 4, none⟩ = some (.int .i64 a1_4) ∧ w'.cell? ⟨gb159, 5, none⟩ = some (.int .i64 a1_5) ∧ w'.cell? ⟨gb159, 6, none⟩ = some (.int .i64 a1_6) ∧ w'.cell? ⟨gb159, 7, none⟩ = some (.slice A1_7 l1_7.length c1_7) ∧ w'.cell? ⟨gb159, 8, none⟩ = some (.slice (some ad161) l1_8.length c1_8) ∧ w'.cell? (ad161.add ((x5_1).toNat * 2)) = some (.int .i64 ((rd_T133 l1_8 x5_1).f0)) ∧ w'.cell? ⟨(ad161.add ((x5_1).toNat * 2)).block, (ad161.add ((x5_1).toNat * 2)).off + 1, none⟩ = some (.int .i64 ((rd_T133 l1_8 x5_1).f1)) ∧ w'.cell? (ad162.add (((rd_T133 l1_8 x5_1).f0)).toNat) = some (.slice A162_0 (rd_L6 l0_0 ((rd_T133 l1_8 x5_1).f0)).length c162_0)) (ds := []) (bs 0 15) (by kernel_rfl) rfl rfl ⟨bc BK158.out 0, bc BK159.out 0, bc BK159.out 1, bc BK159.out 2, bc BK159.out 3, bc BK159.out 4, bc BK159.out 5, bc BK159.out 6, bc BK159.out 7, bc BK159.out 8, (BD HB.out hw161_0), (BD HB.out hw161_1), (BD HB.out hw162_0)⟩ (fun hHeld => ?_); refine with_tabW spec_CommitCode.tab6 spec_CommitCode.bits6 (fun HT_ HW_ => ?_)
    generalize wr.drew = w30 at BK158 BK159 HB HR162_0 hx161_0 hx161_1 hx162_0 hHeld ⊢
    refine pu (i := 0) (N := some 17) (v := ?_) (a' := ?_) (bs 1 15) rfl rfl HT_ ?_ ?_ ?_
    rotate_left
    ·intro w'
     go_simp
     rfl
    rotate_left
    ·simp only [pA, pS, pZ, pK, i64_w, i32_w]
     rfl
    refine pu (i := 2) (N := some 19) (v := ?_) (a' := ?_) (bs 5 15) rfl rfl HT_ ?_ ?_ ?_
    rotate_left
    ·intro w'
     go_simp
     rfl
    rotate_left
    ·simp only [pA, pS, pZ, pK, i64_w, i32_w]
     rfl
    refine pu (i := 4) (N := some 21) (v := ?_) (a' := ?_) (bs 21 15) rfl rfl HT_ ?_ ?_ ?_
    rotate_left
    ·intro w'
     go_simp
     rfl
    rotate_left
    ·simp only [pA, pS, pZ, pK, i64_w, i32_w]
     rfl
    refine pu (i := 12) (N := some 29) (v := ?_) (a' := ?_) (bs 4117 15) rfl rfl HT_ ?_ ?_ ?_
    rotate_left
    ·intro w'
     go_simp
     rfl
    rotate_left
    ·simp only [pA, pS, pZ, pK, i64_w, i32_w]
     rfl
    refine tk (i := 1) (N := some 18) (v := ?_) (a' := ?_) (bs 4119 15) rfl rfl HT_ HW_ ?_ hHeld ?_ ?_
    rotate_left
    ·rintro w' ⟨s0, s1, s2, s3, s4, s5, s6, s7, s8, s9, s10, s11, s12⟩
     go_simp
     rfl
    rotate_left
    ·simp only [pA, pS, pZ, pK, i64_w, i32_w]
     rfl
    refine tk (i := 3) (N := some 20) (v := ?_) (a' := ?_) (bs 4127 15) rfl rfl HT_ HW_ ?_ hHeld ?_ ?_
    rotate_left
    ·rintro w' ⟨s0, s1, s2, s3, s4, s5, s6, s7, s8, s9, s10, s11, s12⟩
     go_simp
     rfl
    rotate_left
    ·simp only [pA, pS, pZ, pK, i64_w, i32_w]
     rfl
    refine pu (i := 5) (N := some 22) (v := ?_) (a' := ?_) (bs 4159 15) rfl rfl HT_ ?_ ?_ ?_
    rotate_left
    ·intro w'
     go_simp
     rfl
    rotate_left
    ·simp only [pA, pS, pZ, pK, i64_w, i32_w]
     rfl
    refine pu (i := 6) (N := some 23) (v := ?_) (a' := ?_) (bs 4223 15) rfl rfl HT_ ?_ ?_ ?_
    rotate_left
    ·intro w'
     go_simp
     rfl
    rotate_left
    ·simp only [pA, pS, pZ, pK, i64_w, i32_w]
     rfl
    refine tk (i := 7) (N := some 24) (v := ?_) (a' := ?_) (bs 4351 15) rfl rfl HT_ HW_ ?_ hHeld ?_ ?_
    rotate_left
    ·rintro w' ⟨s0, s1, s2, s3, s4, s5, s6, s7, s8, s9, s10, s11, s12⟩
     go_simp
     rfl
    rotate_left
    ·simp only [pA, pS, pZ, pK, i64_w, i32_w]
     rfl
    refine pu (i := 8) (N := some 25) (v := ?_) (a' := ?_) (bs 4607 15) rfl rfl HT_ ?_ ?_ ?_
    rotate_left
    ·intro w'
     go_simp
     rfl
    rotate_left
    ·simp only [pA, pS, pZ, pK, i64_w, i32_w]
     rfl
    refine tk (i := 9) (N := some 26) (v := ?_) (a' := ?_) (bs 5119 15) rfl rfl HT_ HW_ ?_ hHeld ?_ ?_
    rotate_left
    ·rintro w' ⟨s0, s1, s2, s3, s4, s5, s6, s7, s8, s9, s10, s11, s12⟩
     go_simp
     rfl
    rotate_left
    ·simp only [pA, pS, pZ, pK, i64_w, i32_w]
     rfl
    refine tk (i := 13) (N := some 30) (v := ?_) (a' := ?_) (bs 13311 15) rfl rfl HT_ HW_ ?_ hHeld ?_ ?_
    rotate_left
    ·rintro w' ⟨s0, s1, s2, s3, s4, s5, s6, s7, s8, s9, s10, s11, s12⟩
     go_simp
     rfl
    rotate_left
    ·simp only [pA, pS, pZ, pK, i64_w, i32_w]
     rfl
    refine one_ (i := 10) (N := some 27) (bs 14335 15) rfl rfl (one_of HT_.out (by kernel_rfl)) (by decide) (fun K hK => ?_)
    refine goes_ Try.func55 (by kernel_rfl) rfl #[.slice A162_0 (rd_L6 l0_0 ((rd_T133 l1_8 x5_1).f0)).length c162_0] (by rfl) rfl rfl (by (try simp only [List.map_toArray, List.map_cons, List.map_nil]); first | done | rfl | (simp only [List.length_drop, List.length_take]; rfl)) ?_
    with_reducible refine (spec_LatestVersion.calls k1 _ _ (rd_L6 l0_0 ((rd_T133 l1_8 x5_1).f0)) t163 t164 t165 t166 t167 _ ?side1 ?side2 A15.out).mono ?_
    (case side1 => exact CB HR162_0.out HB.out)
    (case side2 => exact HC162_0.out)
    rintro e w31 ⟨rfl, hb⟩
    refine ⟨_, rfl, ?_⟩
    replace BK158 := AM_ (BB BK158.out hb)
    replace BK159 := AM_ (BB BK159.out hb)
    replace HB := AM_ (below_step (BT HB.out) hb)
    (try clear hb)
    (try clear hb2)
    (try clear hk)
    (try clear hi)
    refine hK.out _ _ ⟨bc BK158.out 0, bc BK159.out 0, bc BK159.out 1, bc BK159.out 2, bc BK159.out 3, bc BK159.out 4, bc BK159.out 5, bc BK159.out 6, bc BK159.out 7, bc BK159.out 8, (BD HB.out hw161_0), (BD HB.out hw161_1), (BD HB.out hw162_0)⟩ (fun hHeld => ?_)
    clear hK K
    refine norm_ (a' := ?_) ?_ ?_
    rotate_left
    ·show Act.put _ (some 27) _ = _
     simp only [pA, pS, pZ, pK, i64_w, i32_w]
     rfl
    refine pu (i := 11) (N := some 28) (v := ?_) (a' := ?_) (bs 16383 15) rfl rfl HT_ ?_ ?_ ?_
    rotate_left
    ·intro w'
     go_simp
     rfl
    rotate_left
    ·simp only [pA, pS, pZ, pK, i64_w, i32_w]
     rfl
    refine pu (i := 14) (N := some 31) (v := ?_) (a' := ?_) (bs 32767 15) rfl rfl HT_ ?_ ?_ ?_
    rotate_left
    ·intro w'
     go_simp
     rfl
    rotate_left
    ·simp only [pA, pS, pZ, pK, i64_w, i32_w]
     rfl
    refine done_ (done_of HT_.out (by kernel_rfl)) ?_
    obtain ⟨hcz32_0, hcz32_1, hcz32_2, hcz32_3, hcz32_4, hcz32_5, hcz32_6, hcz32_7, hcz32_8, hfz32_0, hfz32_1, hfz32_2, hfz32_3, hfz32_4, hfz32_5, hfz32_6, hfz32_7, hfz32_8⟩ := bk9 BK159.out
    try go_wp2
    go_ret
    exact QT (BT HB.out)
   rw [if_neg c27] at H
   have c27b0 : (a1_1 == 4) = false := beq_eq_false_iff_ne.mpr c27
   have c27b1 : (a1_1 != 4) = true := bne_iff_ne.mpr c27
   have H' := AM_ H
   clear H
   have hnb33 := NB159_158.out
   have hnc33 := NB158_159.out
   obtain ⟨hcz34_0, hcz34_1, hcz34_2, hcz34_3, hcz34_4, hcz34_5, hcz34_6, hcz34_7, hcz34_8, hfz34_0, hfz34_1, hfz34_2, hfz34_3, hfz34_4, hfz34_5, hfz34_6, hfz34_7, hfz34_8⟩ := bk9 BK159.out
   try go_wp2
   replace BK158 := AM_ (blk_drew BK158.out)
   replace BK159 := AM_ (blk_drew BK159.out)
   replace HB := AM_ (below_drew1 HB.out)
   have p161 : 0 ≤ (x5_1 : Int) := DT
   have q161 : x5_1 < (l1_8.length : Int) := DT
   obtain ⟨ad161, e161, hx161_0, hx161_1⟩ := at_T133 HR1_8.out x5_1 p161 q161
   have hw161_1 := hx161_1
   have hw161_0 := hx161_0
   cases e161
   replace hx161_0 := BC HB.out hx161_0
   replace hx161_1 := BC HB.out hx161_1
   replace p161 := eq_true p161
   replace q161 := eq_true q161
   have p162 : 0 ≤ (((rd_T133 l1_8 x5_1).f0) : Int) := DT
   have q162 : ((rd_T133 l1_8 x5_1).f0) < (l0_0.length : Int) := DT
   obtain ⟨ad162, A162_0, c162_0, e162, hx162_0, hl162_0, hi162_0⟩ := at_L6 HR0_0.out ((rd_T133 l1_8 x5_1).f0) p162 q162
   have hw162_0 := hx162_0
   cases e162
   replace hx162_0 := BC HB.out hx162_0
   have HR162_0 := AM_ hi162_0
   have HC162_0 := AM_ hl162_0
   clear hi162_0 hl162_0
   replace p162 := eq_true p162
   replace q162 := eq_true q162
   refine start_ (n := 15) (S := fun w' => w'.cell? ⟨gb158, 0, none⟩ = some (.slice (some ad162) l0_0.length c0_0) ∧ w'.cell? ⟨gb159, 0, none⟩ = some (.int .i64 a1_0) ∧ w'.cell? ⟨gb159, 1, none⟩ = some (.int .i64 a1_1) ∧ w'.cell? ⟨gb159, 2, none⟩ = some (.int .i64 a1_2) ∧ w'.cell? ⟨gb159, 3, none⟩ = some (.int .i64 a1_3) ∧ w'.cell? ⟨gb159, 4, none⟩ = some (.int .i64 a1_4) ∧ w'.cell? ⟨gb159, 5, none⟩ = some (.int .i64 a1_5) ∧ w'.cell? ⟨gb159, 6, none⟩ = some (.int .i64 a1_6) ∧ w'.cell? ⟨gb159, 7, none⟩ = some (.slice A1_7 l1_7.length c1_7) ∧ w'.cell? ⟨gb159, 8, none⟩ = some (.slice (some ad161) l1_8.length c1_8) ∧ w'.cell? (ad161.add ((x5_1).toNat * 2)) = some (.int .i64 ((rd_T133 l1_8 x5_1).f0)) ∧ w'.cell? ⟨(ad161.add ((x5_1).toNat * 2)).block, (ad161.add ((x5_1).toNat * 2)).off + 1, none⟩ = some (.int .i64 ((rd_T133 l1_8 x5_1).f1)) ∧ w'.cell? (ad162.add (((rd_T133 l1_8 x5_1).f0)).toNat) = some (.slice A162_0 (rd_L6 l0_0 ((rd_T133 l1_8 x5_1).f0)).length c162_0)) (ds := []) (bs 0 15) (by kernel_rfl) rfl rfl ⟨bc BK158.out 0, bc BK159.out 0, bc BK159.out 1, bc BK159.out 2, bc BK159.out 3, bc BK159.out 4, bc BK159.out 5, bc BK159.out 6, bc BK159.out 7, bc BK159.out 8, (BD HB.out hw161_0), (BD HB.out hw161_1), (BD HB.out hw162_0)⟩ (fun hHeld => ?_); refine with_tabW spec_CommitCode.tab6 spec_CommitCode.bits6 (fun HT_ HW_ => ?_)
   generalize wr.drew = w35 at BK158 BK159 HB HR162_0 hx161_0 hx161_1 hx162_0 hHeld ⊢
   refine pu (i := 0) (N := some 17) (v := ?_) (a' := ?_) (bs 1 15) rfl rfl HT_ ?_ ?_ ?_
   rotate_left
   ·intro w'
    go_simp
    rfl
   rotate_left
   ·simp only [pA, pS, pZ, pK, i64_w, i32_w]
    rfl
   refine pu (i := 2) (N := some 19) (v := ?_) (a' := ?_) (bs 5 15) rfl rfl HT_ ?_ ?_ ?_
   rotate_left
   ·intro w'
    go_simp
    rfl
   rotate_left
   ·simp only [pA, pS, pZ, pK, i64_w, i32_w]
    rfl
   refine pu (i := 4) (N := some 21) (v := ?_) (a' := ?_) (bs 21 15) rfl rfl HT_ ?_ ?_ ?_
   rotate_left
   ·intro w'
    go_simp
    rfl
   rotate_left
   ·simp only [pA, pS, pZ, pK, i64_w, i32_w]
    rfl
   refine pu (i := 12) (N := some 29) (v := ?_) (a' := ?_) (bs 4117 15) rfl rfl HT_ ?_ ?_ ?_
   rotate_left
   ·intro w'
    go_simp
    rfl
   rotate_left
   ·simp only [pA, pS, pZ, pK, i64_w, i32_w]
    rfl
   refine tk (i := 1) (N := some 18) (v := ?_) (a' := ?_) (bs 4119 15) rfl rfl HT_ HW_ ?_ hHeld ?_ ?_
   rotate_left
   ·rintro w' ⟨s0, s1, s2, s3, s4, s5, s6, s7, s8, s9, s10, s11, s12⟩
    go_simp
    rfl
   rotate_left
   ·simp only [pA, pS, pZ, pK, i64_w, i32_w]
    rfl
   refine tk (i := 3) (N := some 20) (v := ?_) (a' := ?_) (bs 4127 15) rfl rfl HT_ HW_ ?_ hHeld ?_ ?_
   rotate_left
   ·rintro w' ⟨s0, s1, s2, s3, s4, s5, s6, s7, s8, s9, s10, s11, s12⟩
    go_simp
    rfl
   rotate_left
   ·simp only [pA, pS, pZ, pK, i64_w, i32_w]
    rfl
   refine pu (i := 5) (N := some 22) (v := ?_) (a' := ?_) (bs 4159 15) rfl rfl HT_ ?_ ?_ ?_
   rotate_left
   ·intro w'
    go_simp
    rfl
   rotate_left
   ·simp only [pA, pS, pZ, pK, i64_w, i32_w]
    rfl
   refine pu (i := 6) (N := some 23) (v := ?_) (a' := ?_) (bs 4223 15) rfl rfl HT_ ?_ ?_ ?_
   rotate_left
   ·intro w'
    go_simp
    rfl
   rotate_left
   ·simp only [pA, pS, pZ, pK, i64_w, i32_w]
    rfl
   refine tk (i := 7) (N := some 24) (v := ?_) (a' := ?_) (bs 4351 15) rfl rfl HT_ HW_ ?_ hHeld ?_ ?_
   rotate_left
   ·rintro w' ⟨s0, s1, s2, s3, s4, s5, s6, s7, s8, s9, s10, s11, s12⟩
    go_simp
    rfl
   rotate_left
   ·simp only [pA, pS, pZ, pK, i64_w, i32_w]
    rfl
   refine pu (i := 8) (N := some 25) (v := ?_) (a' := ?_) (bs 4607 15) rfl rfl HT_ ?_ ?_ ?_
   rotate_left
   ·intro w'
    go_simp
    rfl
   rotate_left
   ·simp only [pA, pS, pZ, pK, i64_w, i32_w]
    rfl
   refine tk (i := 9) (N := some 26) (v := ?_) (a' := ?_) (bs 5119 15) rfl rfl HT_ HW_ ?_ hHeld ?_ ?_
   rotate_left
   ·rintro w' ⟨s0, s1, s2, s3, s4, s5, s6, s7, s8, s9, s10, s11, s12⟩
    go_simp
    rfl
   rotate_left
   ·simp only [pA, pS, pZ, pK, i64_w, i32_w]
    rfl
   refine tk (i := 13) (N := some 30) (v := ?_) (a' := ?_) (bs 13311 15) rfl rfl HT_ HW_ ?_ hHeld ?_ ?_
   rotate_left
   ·rintro w' ⟨s0, s1, s2, s3, s4, s5, s6, s7, s8, s9, s10, s11, s12⟩
    go_simp
    rfl
   rotate_left
   ·simp only [pA, pS, pZ, pK, i64_w, i32_w]
    rfl
   refine one_ (i := 10) (N := some 27) (bs 14335 15) rfl rfl (one_of HT_.out (by kernel_rfl)) (by decide) (fun K hK => ?_)
   refine goes_ Try.func55 (by kernel_rfl) rfl #[.slice A162_0 (rd_L6 l0_0 ((rd_T133 l1_8 x5_1).f0)).length c162_0] (by rfl) rfl rfl (by (try simp only [List.map_toArray, List.map_cons, List.map_nil]); first | done | rfl | (simp only [List.length_drop, List.length_take]; rfl)) ?_
   with_reducible refine (spec_LatestVersion.calls k1 _ _ (rd_L6 l0_0 ((rd_T133 l1_8 x5_1).f0)) t163 t164 t165 t166 t167 _ ?side1 ?side2 A15.out).mono ?_
   (case side1 => exact CB HR162_0.out HB.out)
   (case side2 => exact HC162_0.out)
   rintro e w36 ⟨rfl, hb⟩
   refine ⟨_, rfl, ?_⟩
   replace BK158 := AM_ (BB BK158.out hb)
   replace BK159 := AM_ (BB BK159.out hb)
   replace HB := AM_ (below_step (BT HB.out) hb)
   (try clear hb)
   (try clear hb2)
   (try clear hk)
   (try clear hi)
   refine hK.out _ _ ⟨bc BK158.out 0, bc BK159.out 0, bc BK159.out 1, bc BK159.out 2, bc BK159.out 3, bc BK159.out 4, bc BK159.out 5, bc BK159.out 6, bc BK159.out 7, bc BK159.out 8, (BD HB.out hw161_0), (BD HB.out hw161_1), (BD HB.out hw162_0)⟩ (fun hHeld => ?_)
   clear hK K
   refine norm_ (a' := ?_) ?_ ?_
   rotate_left
   ·show Act.put _ (some 27) _ = _
    simp only [pA, pS, pZ, pK, i64_w, i32_w]
    rfl
   refine pu (i := 11) (N := some 28) (v := ?_) (a' := ?_) (bs 16383 15) rfl rfl HT_ ?_ ?_ ?_
   rotate_left
   ·intro w'
    go_simp
    rfl
   rotate_left
   ·simp only [pA, pS, pZ, pK, i64_w, i32_w]
    rfl
   refine pu (i := 14) (N := some 31) (v := ?_) (a' := ?_) (bs 32767 15) rfl rfl HT_ ?_ ?_ ?_
   rotate_left
   ·intro w'
    go_simp
    rfl
   rotate_left
   ·simp only [pA, pS, pZ, pK, i64_w, i32_w]
    rfl
   refine done_ (done_of HT_.out (by kernel_rfl)) ?_
   obtain ⟨hcz37_0, hcz37_1, hcz37_2, hcz37_3, hcz37_4, hcz37_5, hcz37_6, hcz37_7, hcz37_8, hfz37_0, hfz37_1, hfz37_2, hfz37_3, hfz37_4, hfz37_5, hfz37_6, hfz37_7, hfz37_8⟩ := bk9 BK159.out
   try go_wp2
   go_roundg k1
   case measure => have := HK1.out; omega
   case rel => exact ⟨(wrap64 (x5_1 + 1)), (by first | rfl | (simp; done) | (simp [*]; done)), H', ⟨by have := HK1.out; omega⟩, ⟨BH BK158.out⟩, ⟨BH BK159.out⟩, ⟨BT HB.out⟩⟩

end Go.Proofs.Ytakpkmlbklahhaa.PFnExactCommitCode
