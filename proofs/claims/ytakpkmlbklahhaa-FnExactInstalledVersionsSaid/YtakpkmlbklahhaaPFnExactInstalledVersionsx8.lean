-- Printed by a program of mine (wip/myprint.py), which runs the printer of the kit with contracts of mine beside it.
import Derived.Test.YtakpkmlbklahhaaPFnExactInstalledVersionsx0
import Derived.Test.YtakpkmlbklahhaaPFnExactInstalledVersionsx7
namespace Go.Proofs.Ytakpkmlbklahhaa.PFnExactInstalledVersions
open Go.RowKit Go.Proofs.YtakpkmlbklahhaaW.PrintWords Go.Proofs.YtakpkmlbklahhaaW.PrintLast Go.Proofs.YtakpkmlbklahhaaW.PrintMore
attribute [local go_sem] max2_int min2_int max_two min_two max_three min_three max_four min_four   -- for this text's walks alone
set_option linter.unusedVariables false
set_option linter.unusedSimpArgs false

/-! ### impl_IsValidChain: function 172 -/
def impl_IsValidChain.l0 : Nat → List (S76) → List (S76) → Int → Int → Option (Bool)
 | 0, _, _, _, _ => none
 | k + 1, x0, x5, x6, x7 => if x7 < x6 then (if 0 ≤ x7 then (if x7 < (x5.length : Int) then ((impl_IsValidVersion.f k ((rd_T76 x5 x7).f0) ((rd_T76 x5 x7).f1) ((rd_T76 x5 x7).f2) ((rd_T76 x5 x7).f3) ((rd_T76 x5 x7).f4)).bind fun t260 => (if t260 = true then (if x7 > 0 then (if 0 ≤ (wrap64 (x7 - 1)) then (if (wrap64 (x7 - 1)) < (x0.length : Int) then (if ((rd_T76 x0 (wrap64 (x7 - 1))).f2) ≥ ((rd_T76 x5 x7).f2) then (some false) else (if ((rd_T76 x0 (wrap64 (x7 - 1))).f4) > ((rd_T76 x5 x7).f2) then (some false) else (impl_IsValidChain.l0 k x0 x5 x6 (wrap64 (x7 + 1))))) else (none)) else (none)) else (impl_IsValidChain.l0 k x0 x5 x6 (wrap64 (x7 + 1)))) else (some false))) else (none)) else (none)) else (if (x0.length : Int) > 0 then (if 0 ≤ (wrap64 ((x0.length : Int) - 1)) then (if (wrap64 ((x0.length : Int) - 1)) < (x0.length : Int) then (some (((rd_T76 x0 (wrap64 ((x0.length : Int) - 1))).f4) == 1000)) else (none)) else (none)) else (some false))
def impl_IsValidChain.f (k : Nat) (l0 : List (S76)) : Option (Bool) := impl_IsValidChain.l0 k l0 l0 (l0.length : Int) 0
theorem impl_IsValidChain.mono_l : ∀ k, (∀ y0 y1 y2 y3, LeO (impl_IsValidChain.l0 k y0 y1 y2 y3) (impl_IsValidChain.l0 (k + 1) y0 y1 y2 y3))
 | 0 => fun _ _ _ _ r h => by simp [impl_IsValidChain.l0] at h
 | k + 1 => by
  have ih0 := impl_IsValidChain.mono_l k
  ·intro y0 y1 y2 y3
   unfold impl_IsValidChain.l0
   repeat' first
   | (with_reducible exact ih0 _ _ _ _)
   | (with_reducible exact impl_IsValidVersion.mono _ _ _ _ _ _)
   | (with_reducible exact LeO.refl _)
   | (with_reducible exact LeO.none _)
   | (with_reducible refine LeO.ite ?_ ?_)
   | (with_reducible refine LeO.bind ?_ (fun _ => ?_))
   | exact ih0 _ _ _ _
   | exact impl_IsValidVersion.mono _ _ _ _ _ _
   | exact LeO.none _
   | refine LeO.ite ?_ ?_
   | refine LeO.bind ?_ (fun _ => ?_)
theorem impl_IsValidChain.mono : ∀ a0 k, LeO (impl_IsValidChain.f k a0) (impl_IsValidChain.f (k + 1) a0) := by
 intro a0 k
 have ih0 := impl_IsValidChain.mono_l k
 unfold impl_IsValidChain.f
 repeat' first
   | (with_reducible exact ih0 _ _ _ _)
   | (with_reducible exact impl_IsValidVersion.mono _ _ _ _ _ _)
   | (with_reducible exact LeO.refl _)
   | (with_reducible exact LeO.none _)
   | (with_reducible refine LeO.ite ?_ ?_)
   | (with_reducible refine LeO.bind ?_ (fun _ => ?_))
   | exact ih0 _ _ _ _
   | exact impl_IsValidVersion.mono _ _ _ _ _ _
   | exact LeO.none _
   | refine LeO.ite ?_ ?_
   | refine LeO.bind ?_ (fun _ => ?_)
def impl_IsValidChain.T4 : Bool × List (List Nat × List Nat) := (true, [([], []), ([0], [0]), ([1], [1]), ([2, 1], [2]), ([3], [3]), ([4, 3], [3, 4]), ([5, 3, 3], [3, 5]), ([6], [6]), ([6], [6]), ([8, 6], [6, 8]), ([7, 9, 6], [6, 7, 9]), ([10, 6], [6, 10]), ([11, 6], [6, 11]), ([6], [6]), ([13, 6], [6, 13]), ([12, 14, 6], [6, 12, 14]), ([15, 6, 6], [6, 15]), ([16], [16]), ([16], [16]), ([18, 16], [16, 18]), ([17, 19, 16], [16, 17, 19]), ([20, 16], [16, 20]), ([21, 16], [16, 21]), ([16], [16]), ([23, 16], [16, 23]), ([22, 24, 16], [16, 22, 24]), ([16, 25, 6], [6, 16, 25]), ([6, 26, 3], [3, 6, 26]), ([3, 27], [3, 27])])
def impl_IsValidChain.B4 : List Nat := [0, 1, 3, 7, 15, 31, 63, 127, 127, 383, 1023, 2047, 4095, 127, 8319, 32767, 65535, 131071, 131071, 393215, 1048575, 2097151, 4194303, 131071, 8519679, 33554431, 67108863, 134217727, 268435455]
theorem impl_IsValidChain.tab4 : rtab .any (opsOf Try.f172 4) = impl_IsValidChain.T4 := by kernel_rfl
theorem impl_IsValidChain.bits4 : waitsOk impl_IsValidChain.T4.2 impl_IsValidChain.B4 = true := by kernel_rfl
set_option maxHeartbeats 8000000 in
set_option maxRecDepth 100000 in
theorem impl_IsValidChain.calls (k : Nat) (A0 : Option Addr) (c0 : Nat) (l0 : List (S76)) (r : Bool) (w : World) (hr0 : Kd.C k76 w A0 l0.length l0) (hc0 : l0.length ≤ c0) (h : impl_IsValidChain.f k l0 = some r) :
  Calls Try.prog 172 #[.slice A0 l0.length c0] w fun e w' => e = .returned (.bool r) ∧ Below w.heap.size w w' := by
 have hu76 := Try.underlying76
 have HR0 := AM_ hr0
 have HC0 := AM_ hc0
 clear hr0 hc0
 have HB := AM_ (Below.refl w.heap.size w)
 have H : (impl_IsValidChain.l0 k l0 l0 (l0.length : Int) 0) = some r := h
 clear h
 have H' := AM_ H
 clear H
 go_enter Try.func172, Try.ntmps172
 go_wp2
 go_loopg [7] k (fun kq v7 w' => ∃ (x7_1 : Int), v7 = .int .i64 x7_1 ∧ Aside0 (impl_IsValidChain.l0 kq l0 l0 (l0.length : Int) x7_1 = some r) ∧ Aside0 (kq ≤ k) ∧ Aside0 (Below w.heap.size w w'))
 case atStart => exact ⟨(0), (by first | rfl | (simp; done) | (simp [*]; done)), H', ⟨Nat.le_refl _⟩, ⟨BT HB.out⟩⟩
 case round =>
  clear H'
  try clear c1
  obtain ⟨x7_1, rfl, HA, HK1, HB⟩ := hrel
  cases gk with
  | zero => exact absurd HA.out (by simp [impl_IsValidChain.l0])
  | succ k1 =>
   have H := HA.out
   clear HA
   simp only [impl_IsValidChain.l0] at H
   by_cases c2 : x7_1 < (l0.length : Int)
   rotate_left
   ·rw [if_neg c2] at H
    have c2b0 : decide (x7_1 < (l0.length : Int)) = false := decide_eq_false c2
    clear c2
    by_cases c38 : (l0.length : Int) > 0
    rotate_left
    ·rw [if_neg c38] at H
     have c38b0 : decide (0 < (l0.length : Int)) = false := decide_eq_false c38
     have c38b1 : decide (0 < l0.length) = false := decide_eq_false (by omega)
     clear c38
     obtain rfl := Option.some.inj H
     go_wp2
     go_ret
     exact QT (BT HB.out)
    rw [if_pos c38] at H
    have c38b0 : decide (0 < (l0.length : Int)) = true := decide_eq_true c38
    have c38b1 : decide (0 < l0.length) = true := decide_eq_true (by omega)
    clear c38
    obtain ⟨ji39, hji39⟩ : ∃ j_ : Int, (wrap64 ((l0.length : Int) - 1)) = j_ := ⟨_, rfl⟩
    replace H : (if 0 ≤ (ji39) then (if (ji39) < (l0.length : Int) then (some (((rd_T76 l0 (ji39)).f4) == 1000)) else (none)) else (none)) = some r := by first | (rw [hji39] at H; exact H) | (simp only [hji39] at H ⊢; exact H)
    have hji39w : (IntKind.i64.wrap ((l0.length : Int) - 1)) = ji39 := (i64_w _).trans hji39
    by_cases c40 : 0 ≤ (ji39)
    rotate_left
    ·rw [if_neg c40] at H
     exact absurd H (by simp)
    rw [if_pos c40] at H
    have c40b0 : decide (0 ≤ (ji39)) = true := decide_eq_true c40
    clear c40
    by_cases c41 : (ji39) < (l0.length : Int)
    rotate_left
    ·rw [if_neg c41] at H
     exact absurd H (by simp)
    rw [if_pos c41] at H
    have c41b0 : decide ((ji39) < (l0.length : Int)) = true := decide_eq_true c41
    clear c41
    obtain rfl := Option.some.inj H
    have p263 : 0 ≤ ((ji39) : Int) := DT
    have q263 : (ji39) < (l0.length : Int) := DT
    obtain ⟨ad263, e263, hx263_0, hx263_1, hx263_2, hx263_3, hx263_4⟩ := at_T76 HR0.out (ji39) p263 q263
    cases e263
    replace hx263_0 := BC HB.out hx263_0
    replace hx263_1 := BC HB.out hx263_1
    replace hx263_2 := BC HB.out hx263_2
    replace hx263_3 := BC HB.out hx263_3
    replace hx263_4 := BC HB.out hx263_4
    replace p263 := eq_true p263
    replace q263 := eq_true q263
    go_wp2
    go_ret
    exact ⟨by first | rfl | (simp [errW_none, errW_some] <;> rfl) | (simp only [← hji39]; first | rfl | (simp [errW_none, errW_some] <;> rfl)) | (simp [*, errW_none, errW_some] <;> rfl), BT HB.out⟩
   rw [if_pos c2] at H
   have c2b0 : decide (x7_1 < (l0.length : Int)) = true := decide_eq_true c2
   clear c2
   by_cases c3 : 0 ≤ x7_1
   rotate_left
   ·rw [if_neg c3] at H
    exact absurd H (by simp)
   rw [if_pos c3] at H
   have c3b0 : decide (0 ≤ x7_1) = true := decide_eq_true c3
   clear c3
   by_cases c4 : x7_1 < (l0.length : Int)
   rotate_left
   ·rw [if_neg c4] at H
    exact absurd H (by simp)
   rw [if_pos c4] at H
   have c4b0 : decide (x7_1 < (l0.length : Int)) = true := decide_eq_true c4
   clear c4
   replace H := Option.bind_eq_some_iff.mp H
   obtain ⟨t260, A50, H⟩ := H
   replace H : (if t260 = true then (if x7_1 > 0 then (if 0 ≤ (wrap64 (x7_1 - 1)) then (if (wrap64 (x7_1 - 1)) < (l0.length : Int) then (if ((rd_T76 l0 (wrap64 (x7_1 - 1))).f2) ≥ ((rd_T76 l0 x7_1).f2) then (some false) else (if ((rd_T76 l0 (wrap64 (x7_1 - 1))).f4) > ((rd_T76 l0 x7_1).f2) then (some false) else (impl_IsValidChain.l0 k1 l0 l0 (l0.length : Int) (wrap64 (x7_1 + 1))))) else (none)) else (none)) else (impl_IsValidChain.l0 k1 l0 l0 (l0.length : Int) (wrap64 (x7_1 + 1)))) else (some false)) = some r := H
   have A5 := AM_ A50
   clear A50
   by_cases c6 : t260 = true
   rotate_left
   ·replace c6 := Bool.eq_false_iff.mpr c6
    subst c6
    have H1 : (some false) = some r := by rw [if_neg (show ¬ (false = true) by decide)] at H; exact H
    clear H
    have H := H1
    clear H1
    obtain rfl := Option.some.inj H
    have p258 : 0 ≤ (x7_1 : Int) := DT
    have q258 : x7_1 < (l0.length : Int) := DT
    obtain ⟨ad258, e258, hx258_0, hx258_1, hx258_2, hx258_3, hx258_4⟩ := at_T76 HR0.out x7_1 p258 q258
    cases e258
    replace hx258_0 := BC HB.out hx258_0
    replace hx258_1 := BC HB.out hx258_1
    replace hx258_2 := BC HB.out hx258_2
    replace hx258_3 := BC HB.out hx258_3
    replace hx258_4 := BC HB.out hx258_4
    replace p258 := eq_true p258
    replace q258 := eq_true q258
    try go_wp2_with (first | ((with_reducible refine gate_dst (N := 4) rfl ?_); (try (refine gate_guard (by rfl) ?_; dsimp only)); refine box_event ?hg (N := 4) ?hd (cs := #[.int .i64 0, .int .i64 0, .int .i64 0, .int .i64 0, .int .i64 0]) (t := 76) ?hr ?_; (case hd => rfl); (case hg => rfl); (case hr => first | (go_simp; done) | (go_simp; rfl)); intro gb259 hg w33 hbox hb; have BK259 := AM_ (hbox); have GW259 := AM_ ((GS HB.out hg)); have GE259 := AM_ ((GS HB.out hg)); replace HB := AM_ (below_step (BT HB.out) hb); clear hb hbox hg; obtain ⟨hcz34_0, hcz34_1, hcz34_2, hcz34_3, hcz34_4, hfz34_0, hfz34_1, hfz34_2, hfz34_3, hfz34_4⟩ := bk5 BK259.out))
    have n0_ : Aside0 ((((((w33.setCell ⟨gb259, 0, none⟩ (.int .i64 ((rd_T76 l0 x7_1).f0))).setCell ⟨gb259, 1, none⟩ (.int .i64 ((rd_T76 l0 x7_1).f1))).setCell ⟨gb259, 2, none⟩ (.int .i64 ((rd_T76 l0 x7_1).f2))).setCell ⟨gb259, 3, none⟩ (.int .i64 ((rd_T76 l0 x7_1).f3))).setCell ⟨gb259, 4, none⟩ (.int .i64 ((rd_T76 l0 x7_1).f4))).heap[gb259]? = some (.cells #[.int .i64 ((rd_T76 l0 x7_1).f0), .int .i64 ((rd_T76 l0 x7_1).f1), .int .i64 ((rd_T76 l0 x7_1).f2), .int .i64 ((rd_T76 l0 x7_1).f3), .int .i64 ((rd_T76 l0 x7_1).f4)] 76 (0, 0))) := ⟨BQ BK259.out⟩
    have n1_ : Aside0 (Below w.heap.size w (((((w33.setCell ⟨gb259, 0, none⟩ (.int .i64 ((rd_T76 l0 x7_1).f0))).setCell ⟨gb259, 1, none⟩ (.int .i64 ((rd_T76 l0 x7_1).f1))).setCell ⟨gb259, 2, none⟩ (.int .i64 ((rd_T76 l0 x7_1).f2))).setCell ⟨gb259, 3, none⟩ (.int .i64 ((rd_T76 l0 x7_1).f3))).setCell ⟨gb259, 4, none⟩ (.int .i64 ((rd_T76 l0 x7_1).f4)))) := ⟨BT HB.out⟩
    (try clear BK259)
    (try clear HB)
    generalize (((((w33.setCell ⟨gb259, 0, none⟩ (.int .i64 ((rd_T76 l0 x7_1).f0))).setCell ⟨gb259, 1, none⟩ (.int .i64 ((rd_T76 l0 x7_1).f1))).setCell ⟨gb259, 2, none⟩ (.int .i64 ((rd_T76 l0 x7_1).f2))).setCell ⟨gb259, 3, none⟩ (.int .i64 ((rd_T76 l0 x7_1).f3))).setCell ⟨gb259, 4, none⟩ (.int .i64 ((rd_T76 l0 x7_1).f4))) = w35 at n0_ n1_ ⊢
    have BK259 := n0_
    have HB := n1_
    clear n0_ n1_
    replace BK259 := AM_ (blk_drew BK259.out)
    replace HB := AM_ (below_drew1 HB.out)
    refine start_ (n := 29) (S := fun w' => w'.cell? ⟨gb259, 0, none⟩ = some (.int .i64 ((rd_T76 l0 x7_1).f0)) ∧ w'.cell? ⟨gb259, 1, none⟩ = some (.int .i64 ((rd_T76 l0 x7_1).f1)) ∧ w'.cell? ⟨gb259, 2, none⟩ = some (.int .i64 ((rd_T76 l0 x7_1).f2)) ∧ w'.cell? ⟨gb259, 3, none⟩ = some (.int .i64 ((rd_T76 l0 x7_1).f3)) ∧ w'.cell? ⟨gb259, 4, none⟩ = some (.int .i64 ((rd_T76 l0 x7_1).f4))) (ds := []) (bs 0 29) (by kernel_rfl) rfl rfl ⟨bc BK259.out 0, bc BK259.out 1, bc BK259.out 2, bc BK259.out 3, bc BK259.out 4⟩ (fun hHeld => ?_); refine with_tabW impl_IsValidChain.tab4 impl_IsValidChain.bits4 (fun HT_ HW_ => ?_)
    generalize w35.drew = w36 at BK259 HB hHeld ⊢
    refine tk (i := 0) (N := some 12) (v := ?_) (a' := ?_) (bs 1 29) rfl rfl HT_ HW_ ?_ hHeld ?_ ?_
    rotate_left
    ·rintro w' ⟨s0, s1, s2, s3, s4⟩
     go_simp
     with_reducible rfl
    rotate_left
    ·simp only [pA, pS, pZ, pK, i64_w, i32_w]
     rfl
    refine one_ (i := 1) (N := some 13) (bs 3 29) rfl rfl (one_of HT_.out (by kernel_rfl)) (by decide) (fun K hK => ?_)
    refine goes_ Try.func202 (by kernel_rfl) rfl #[.agg #[.int .i64 ((rd_T76 l0 x7_1).f0), .int .i64 ((rd_T76 l0 x7_1).f1), .int .i64 ((rd_T76 l0 x7_1).f2), .int .i64 ((rd_T76 l0 x7_1).f3), .int .i64 ((rd_T76 l0 x7_1).f4)]] (by rfl) rfl rfl (by (try simp only [List.map_toArray, List.map_cons, List.map_nil]); first | done | rfl | (simp only [List.length_drop, List.length_take]; rfl)) ?_
    with_reducible refine (impl_IsValidVersion.calls k1 ((rd_T76 l0 x7_1).f0) ((rd_T76 l0 x7_1).f1) ((rd_T76 l0 x7_1).f2) ((rd_T76 l0 x7_1).f3) ((rd_T76 l0 x7_1).f4) false _ A5.out).mono ?_
    rintro e w37 ⟨rfl, hb⟩
    refine ⟨_, rfl, ?_⟩
    replace BK259 := AM_ (BB BK259.out hb)
    replace HB := AM_ (below_step (BT HB.out) hb)
    (try clear hb)
    (try clear hb2)
    (try clear hk)
    (try clear hi)
    refine hK.out _ _ ⟨bc BK259.out 0, bc BK259.out 1, bc BK259.out 2, bc BK259.out 3, bc BK259.out 4⟩ (fun hHeld => ?_)
    clear hK K
    refine norm_ (a' := ?_) ?_ ?_
    rotate_left
    ·show Act.put _ (some 13) _ = _
     simp only [pA, pS, pZ, pK, i64_w, i32_w]
     rfl
    refine pu (i := 2) (N := some 14) (v := ?_) (a' := ?_) (bs 7 29) rfl rfl HT_ ?_ ?_ ?_
    rotate_left
    ·intro w'
     go_simp
     with_reducible rfl
    rotate_left
    ·simp only [pA, pS, pZ, pK, i64_w, i32_w]
     rfl
    refine pu (i := 3) (N := some 15) (v := ?_) (a' := ?_) (bs 15 29) rfl rfl HT_ ?_ ?_ ?_
    rotate_left
    ·intro w'
     go_simp
     with_reducible rfl
    rotate_left
    ·simp only [pA, pS, pZ, pK, i64_w, i32_w]
     rfl
    refine pn (i := 4) (N := some 16) (v := undef) (a' := ?_) (bs 31 29) rfl rfl HT_ ?_ ?_
    rotate_left
    ·simp only [pA, pS, pZ, pK, i64_w, i32_w]
     rfl
    refine pn (i := 5) (N := some 17) (v := undef) (a' := ?_) (bs 63 29) rfl rfl HT_ ?_ ?_
    rotate_left
    ·simp only [pA, pS, pZ, pK, i64_w, i32_w]
     rfl
    refine pn (i := 6) (N := some 18) (v := undef) (a' := ?_) (bs 127 29) rfl rfl HT_ ?_ ?_
    rotate_left
    ·simp only [pA, pS, pZ, pK, i64_w, i32_w]
     rfl
    refine pn (i := 7) (N := some 19) (v := undef) (a' := ?_) (bs 255 29) rfl rfl HT_ ?_ ?_
    rotate_left
    ·simp only [pA, pS, pZ, pK, i64_w, i32_w]
     rfl
    refine pn (i := 8) (N := some 20) (v := undef) (a' := ?_) (bs 511 29) rfl rfl HT_ ?_ ?_
    rotate_left
    ·simp only [pA, pS, pZ, pK, i64_w, i32_w]
     rfl
    refine pn (i := 9) (N := some 21) (v := undef) (a' := ?_) (bs 1023 29) rfl rfl HT_ ?_ ?_
    rotate_left
    ·simp only [pA, pS, pZ, pK, i64_w, i32_w]
     rfl
    refine pn (i := 10) (N := some 22) (v := undef) (a' := ?_) (bs 2047 29) rfl rfl HT_ ?_ ?_
    rotate_left
    ·simp only [pA, pS, pZ, pK, i64_w, i32_w]
     rfl
    refine pn (i := 11) (N := some 23) (v := undef) (a' := ?_) (bs 4095 29) rfl rfl HT_ ?_ ?_
    rotate_left
    ·simp only [pA, pS, pZ, pK, i64_w, i32_w]
     rfl
    refine pn (i := 12) (N := some 24) (v := undef) (a' := ?_) (bs 8191 29) rfl rfl HT_ ?_ ?_
    rotate_left
    ·simp only [pA, pS, pZ, pK, i64_w, i32_w]
     rfl
    refine pn (i := 13) (N := some 25) (v := undef) (a' := ?_) (bs 16383 29) rfl rfl HT_ ?_ ?_
    rotate_left
    ·simp only [pA, pS, pZ, pK, i64_w, i32_w]
     rfl
    refine pn (i := 14) (N := some 26) (v := undef) (a' := ?_) (bs 32767 29) rfl rfl HT_ ?_ ?_
    rotate_left
    ·simp only [pA, pS, pZ, pK, i64_w, i32_w]
     rfl
    refine pn (i := 15) (N := some 27) (v := undef) (a' := ?_) (bs 65535 29) rfl rfl HT_ ?_ ?_
    rotate_left
    ·simp only [pA, pS, pZ, pK, i64_w, i32_w]
     rfl
    refine pn (i := 16) (N := some 28) (v := undef) (a' := ?_) (bs 131071 29) rfl rfl HT_ ?_ ?_
    rotate_left
    ·simp only [pA, pS, pZ, pK, i64_w, i32_w]
     rfl
    refine pn (i := 17) (N := some 29) (v := undef) (a' := ?_) (bs 262143 29) rfl rfl HT_ ?_ ?_
    rotate_left
    ·simp only [pA, pS, pZ, pK, i64_w, i32_w]
     rfl
    refine pn (i := 18) (N := some 30) (v := undef) (a' := ?_) (bs 524287 29) rfl rfl HT_ ?_ ?_
    rotate_left
    ·simp only [pA, pS, pZ, pK, i64_w, i32_w]
     rfl
    refine pn (i := 19) (N := some 31) (v := undef) (a' := ?_) (bs 1048575 29) rfl rfl HT_ ?_ ?_
    rotate_left
    ·simp only [pA, pS, pZ, pK, i64_w, i32_w]
     rfl
    refine pn (i := 20) (N := some 32) (v := undef) (a' := ?_) (bs 2097151 29) rfl rfl HT_ ?_ ?_
    rotate_left
    ·simp only [pA, pS, pZ, pK, i64_w, i32_w]
     rfl
    refine pn (i := 21) (N := some 33) (v := undef) (a' := ?_) (bs 4194303 29) rfl rfl HT_ ?_ ?_
    rotate_left
    ·simp only [pA, pS, pZ, pK, i64_w, i32_w]
     rfl
    refine pn (i := 22) (N := some 34) (v := undef) (a' := ?_) (bs 8388607 29) rfl rfl HT_ ?_ ?_
    rotate_left
    ·simp only [pA, pS, pZ, pK, i64_w, i32_w]
     rfl
    refine pn (i := 23) (N := some 35) (v := undef) (a' := ?_) (bs 16777215 29) rfl rfl HT_ ?_ ?_
    rotate_left
    ·simp only [pA, pS, pZ, pK, i64_w, i32_w]
     rfl
    refine pn (i := 24) (N := some 36) (v := undef) (a' := ?_) (bs 33554431 29) rfl rfl HT_ ?_ ?_
    rotate_left
    ·simp only [pA, pS, pZ, pK, i64_w, i32_w]
     rfl
    refine pn (i := 25) (N := some 37) (v := undef) (a' := ?_) (bs 67108863 29) rfl rfl HT_ ?_ ?_
    rotate_left
    ·simp only [pA, pS, pZ, pK, i64_w, i32_w]
     rfl
    refine pn (i := 26) (N := some 38) (v := undef) (a' := ?_) (bs 134217727 29) rfl rfl HT_ ?_ ?_
    rotate_left
    ·simp only [pA, pS, pZ, pK, i64_w, i32_w]
     rfl
    refine pn (i := 27) (N := some 39) (v := undef) (a' := ?_) (bs 268435455 29) rfl rfl HT_ ?_ ?_
    rotate_left
    ·simp only [pA, pS, pZ, pK, i64_w, i32_w]
     rfl
    refine pu (i := 28) (N := some 40) (v := ?_) (a' := ?_) (bs 536870911 29) rfl rfl HT_ ?_ ?_ ?_
    rotate_left
    ·intro w'
     go_simp
     with_reducible rfl
    rotate_left
    ·simp only [pA, pS, pZ, pK, i64_w, i32_w]
     rfl
    refine done_ (done_of HT_.out (by kernel_rfl)) ?_
    try go_wp2
    go_ret
    exact QT (BT HB.out)
   subst c6
   have H1 : (if x7_1 > 0 then (if 0 ≤ (wrap64 (x7_1 - 1)) then (if (wrap64 (x7_1 - 1)) < (l0.length : Int) then (if ((rd_T76 l0 (wrap64 (x7_1 - 1))).f2) ≥ ((rd_T76 l0 x7_1).f2) then (some false) else (if ((rd_T76 l0 (wrap64 (x7_1 - 1))).f4) > ((rd_T76 l0 x7_1).f2) then (some false) else (impl_IsValidChain.l0 k1 l0 l0 (l0.length : Int) (wrap64 (x7_1 + 1))))) else (none)) else (none)) else (impl_IsValidChain.l0 k1 l0 l0 (l0.length : Int) (wrap64 (x7_1 + 1)))) = some r := by rw [if_pos rfl] at H; exact H
   clear H
   have H := H1
   clear H1
   by_cases c7 : x7_1 > 0
   rotate_left
   ·rw [if_neg c7] at H
    have c7b0 : decide (0 < x7_1) = false := decide_eq_false c7
    clear c7
    have H' := AM_ H
    clear H
    have p258 : 0 ≤ (x7_1 : Int) := DT
    have q258 : x7_1 < (l0.length : Int) := DT
    obtain ⟨ad258, e258, hx258_0, hx258_1, hx258_2, hx258_3, hx258_4⟩ := at_T76 HR0.out x7_1 p258 q258
    cases e258
    replace hx258_0 := BC HB.out hx258_0
    replace hx258_1 := BC HB.out hx258_1
    replace hx258_2 := BC HB.out hx258_2
    replace hx258_3 := BC HB.out hx258_3
    replace hx258_4 := BC HB.out hx258_4
    replace p258 := eq_true p258
    replace q258 := eq_true q258
    try go_wp2_with (first | ((with_reducible refine gate_dst (N := 4) rfl ?_); (try (refine gate_guard (by rfl) ?_; dsimp only)); refine box_event ?hg (N := 4) ?hd (cs := #[.int .i64 0, .int .i64 0, .int .i64 0, .int .i64 0, .int .i64 0]) (t := 76) ?hr ?_; (case hd => rfl); (case hg => rfl); (case hr => first | (go_simp; done) | (go_simp; rfl)); intro gb259 hg w28 hbox hb; have BK259 := AM_ (hbox); have GW259 := AM_ ((GS HB.out hg)); have GE259 := AM_ ((GS HB.out hg)); replace HB := AM_ (below_step (BT HB.out) hb); clear hb hbox hg; obtain ⟨hcz29_0, hcz29_1, hcz29_2, hcz29_3, hcz29_4, hfz29_0, hfz29_1, hfz29_2, hfz29_3, hfz29_4⟩ := bk5 BK259.out))
    have n0_ : Aside0 ((((((w28.setCell ⟨gb259, 0, none⟩ (.int .i64 ((rd_T76 l0 x7_1).f0))).setCell ⟨gb259, 1, none⟩ (.int .i64 ((rd_T76 l0 x7_1).f1))).setCell ⟨gb259, 2, none⟩ (.int .i64 ((rd_T76 l0 x7_1).f2))).setCell ⟨gb259, 3, none⟩ (.int .i64 ((rd_T76 l0 x7_1).f3))).setCell ⟨gb259, 4, none⟩ (.int .i64 ((rd_T76 l0 x7_1).f4))).heap[gb259]? = some (.cells #[.int .i64 ((rd_T76 l0 x7_1).f0), .int .i64 ((rd_T76 l0 x7_1).f1), .int .i64 ((rd_T76 l0 x7_1).f2), .int .i64 ((rd_T76 l0 x7_1).f3), .int .i64 ((rd_T76 l0 x7_1).f4)] 76 (0, 0))) := ⟨BQ BK259.out⟩
    have n1_ : Aside0 (Below w.heap.size w (((((w28.setCell ⟨gb259, 0, none⟩ (.int .i64 ((rd_T76 l0 x7_1).f0))).setCell ⟨gb259, 1, none⟩ (.int .i64 ((rd_T76 l0 x7_1).f1))).setCell ⟨gb259, 2, none⟩ (.int .i64 ((rd_T76 l0 x7_1).f2))).setCell ⟨gb259, 3, none⟩ (.int .i64 ((rd_T76 l0 x7_1).f3))).setCell ⟨gb259, 4, none⟩ (.int .i64 ((rd_T76 l0 x7_1).f4)))) := ⟨BT HB.out⟩
    (try clear BK259)
    (try clear HB)
    generalize (((((w28.setCell ⟨gb259, 0, none⟩ (.int .i64 ((rd_T76 l0 x7_1).f0))).setCell ⟨gb259, 1, none⟩ (.int .i64 ((rd_T76 l0 x7_1).f1))).setCell ⟨gb259, 2, none⟩ (.int .i64 ((rd_T76 l0 x7_1).f2))).setCell ⟨gb259, 3, none⟩ (.int .i64 ((rd_T76 l0 x7_1).f3))).setCell ⟨gb259, 4, none⟩ (.int .i64 ((rd_T76 l0 x7_1).f4))) = w30 at n0_ n1_ ⊢
    have BK259 := n0_
    have HB := n1_
    clear n0_ n1_
    replace BK259 := AM_ (blk_drew BK259.out)
    replace HB := AM_ (below_drew1 HB.out)
    refine start_ (n := 29) (S := fun w' => w'.cell? ⟨gb259, 0, none⟩ = some (.int .i64 ((rd_T76 l0 x7_1).f0)) ∧ w'.cell? ⟨gb259, 1, none⟩ = some (.int .i64 ((rd_T76 l0 x7_1).f1)) ∧ w'.cell? ⟨gb259, 2, none⟩ = some (.int .i64 ((rd_T76 l0 x7_1).f2)) ∧ w'.cell? ⟨gb259, 3, none⟩ = some (.int .i64 ((rd_T76 l0 x7_1).f3)) ∧ w'.cell? ⟨gb259, 4, none⟩ = some (.int .i64 ((rd_T76 l0 x7_1).f4))) (ds := []) (bs 0 29) (by kernel_rfl) rfl rfl ⟨bc BK259.out 0, bc BK259.out 1, bc BK259.out 2, bc BK259.out 3, bc BK259.out 4⟩ (fun hHeld => ?_); refine with_tabW impl_IsValidChain.tab4 impl_IsValidChain.bits4 (fun HT_ HW_ => ?_)
    generalize w30.drew = w31 at BK259 HB hHeld ⊢
    refine tk (i := 0) (N := some 12) (v := ?_) (a' := ?_) (bs 1 29) rfl rfl HT_ HW_ ?_ hHeld ?_ ?_
    rotate_left
    ·rintro w' ⟨s0, s1, s2, s3, s4⟩
     go_simp
     with_reducible rfl
    rotate_left
    ·simp only [pA, pS, pZ, pK, i64_w, i32_w]
     rfl
    refine one_ (i := 1) (N := some 13) (bs 3 29) rfl rfl (one_of HT_.out (by kernel_rfl)) (by decide) (fun K hK => ?_)
    refine goes_ Try.func202 (by kernel_rfl) rfl #[.agg #[.int .i64 ((rd_T76 l0 x7_1).f0), .int .i64 ((rd_T76 l0 x7_1).f1), .int .i64 ((rd_T76 l0 x7_1).f2), .int .i64 ((rd_T76 l0 x7_1).f3), .int .i64 ((rd_T76 l0 x7_1).f4)]] (by rfl) rfl rfl (by (try simp only [List.map_toArray, List.map_cons, List.map_nil]); first | done | rfl | (simp only [List.length_drop, List.length_take]; rfl)) ?_
    with_reducible refine (impl_IsValidVersion.calls k1 ((rd_T76 l0 x7_1).f0) ((rd_T76 l0 x7_1).f1) ((rd_T76 l0 x7_1).f2) ((rd_T76 l0 x7_1).f3) ((rd_T76 l0 x7_1).f4) true _ A5.out).mono ?_
    rintro e w32 ⟨rfl, hb⟩
    refine ⟨_, rfl, ?_⟩
    replace BK259 := AM_ (BB BK259.out hb)
    replace HB := AM_ (below_step (BT HB.out) hb)
    (try clear hb)
    (try clear hb2)
    (try clear hk)
    (try clear hi)
    refine hK.out _ _ ⟨bc BK259.out 0, bc BK259.out 1, bc BK259.out 2, bc BK259.out 3, bc BK259.out 4⟩ (fun hHeld => ?_)
    clear hK K
    refine norm_ (a' := ?_) ?_ ?_
    rotate_left
    ·show Act.put _ (some 13) _ = _
     simp only [pA, pS, pZ, pK, i64_w, i32_w]
     rfl
    refine pu (i := 2) (N := some 14) (v := ?_) (a' := ?_) (bs 7 29) rfl rfl HT_ ?_ ?_ ?_
    rotate_left
    ·intro w'
     go_simp
     with_reducible rfl
    rotate_left
    ·simp only [pA, pS, pZ, pK, i64_w, i32_w]
     rfl
    refine pu (i := 3) (N := some 15) (v := ?_) (a' := ?_) (bs 15 29) rfl rfl HT_ ?_ ?_ ?_
    rotate_left
    ·intro w'
     go_simp
     with_reducible rfl
    rotate_left
    ·simp only [pA, pS, pZ, pK, i64_w, i32_w]
     rfl
    refine pu (i := 4) (N := some 16) (v := ?_) (a' := ?_) (bs 31 29) rfl rfl HT_ ?_ ?_ ?_
    rotate_left
    ·intro w'
     go_simp
     with_reducible rfl
    rotate_left
    ·simp only [pA, pS, pZ, pK, i64_w, i32_w]
     rfl
    refine pu (i := 5) (N := some 17) (v := ?_) (a' := ?_) (bs 63 29) rfl rfl HT_ ?_ ?_ ?_
    rotate_left
    ·intro w'
     go_simp
     with_reducible rfl
    rotate_left
    ·simp only [pA, pS, pZ, pK, i64_w, i32_w]
     rfl
    refine pu (i := 6) (N := some 18) (v := ?_) (a' := ?_) (bs 127 29) rfl rfl HT_ ?_ ?_ ?_
    rotate_left
    ·intro w'
     go_simp
     with_reducible rfl
    rotate_left
    ·simp only [pA, pS, pZ, pK, i64_w, i32_w]
     rfl
    refine pn (i := 7) (N := some 19) (v := undef) (a' := ?_) (bs 255 29) rfl rfl HT_ ?_ ?_
    rotate_left
    ·simp only [pA, pS, pZ, pK, i64_w, i32_w]
     rfl
    refine pn (i := 8) (N := some 20) (v := undef) (a' := ?_) (bs 511 29) rfl rfl HT_ ?_ ?_
    rotate_left
    ·simp only [pA, pS, pZ, pK, i64_w, i32_w]
     rfl
    refine pn (i := 9) (N := some 21) (v := undef) (a' := ?_) (bs 1023 29) rfl rfl HT_ ?_ ?_
    rotate_left
    ·simp only [pA, pS, pZ, pK, i64_w, i32_w]
     rfl
    refine pn (i := 10) (N := some 22) (v := undef) (a' := ?_) (bs 2047 29) rfl rfl HT_ ?_ ?_
    rotate_left
    ·simp only [pA, pS, pZ, pK, i64_w, i32_w]
     rfl
    refine pn (i := 11) (N := some 23) (v := undef) (a' := ?_) (bs 4095 29) rfl rfl HT_ ?_ ?_
    rotate_left
    ·simp only [pA, pS, pZ, pK, i64_w, i32_w]
     rfl
    refine pn (i := 12) (N := some 24) (v := undef) (a' := ?_) (bs 8191 29) rfl rfl HT_ ?_ ?_
    rotate_left
    ·simp only [pA, pS, pZ, pK, i64_w, i32_w]
     rfl
    refine pn (i := 13) (N := some 25) (v := undef) (a' := ?_) (bs 16383 29) rfl rfl HT_ ?_ ?_
    rotate_left
    ·simp only [pA, pS, pZ, pK, i64_w, i32_w]
     rfl
    refine pn (i := 14) (N := some 26) (v := undef) (a' := ?_) (bs 32767 29) rfl rfl HT_ ?_ ?_
    rotate_left
    ·simp only [pA, pS, pZ, pK, i64_w, i32_w]
     rfl
    refine pn (i := 15) (N := some 27) (v := undef) (a' := ?_) (bs 65535 29) rfl rfl HT_ ?_ ?_
    rotate_left
    ·simp only [pA, pS, pZ, pK, i64_w, i32_w]
     rfl
    refine pn (i := 16) (N := some 28) (v := undef) (a' := ?_) (bs 131071 29) rfl rfl HT_ ?_ ?_
    rotate_left
    ·simp only [pA, pS, pZ, pK, i64_w, i32_w]
     rfl
    refine pn (i := 17) (N := some 29) (v := undef) (a' := ?_) (bs 262143 29) rfl rfl HT_ ?_ ?_
    rotate_left
    ·simp only [pA, pS, pZ, pK, i64_w, i32_w]
     rfl
    refine pn (i := 18) (N := some 30) (v := undef) (a' := ?_) (bs 524287 29) rfl rfl HT_ ?_ ?_
    rotate_left
    ·simp only [pA, pS, pZ, pK, i64_w, i32_w]
     rfl
    refine pn (i := 19) (N := some 31) (v := undef) (a' := ?_) (bs 1048575 29) rfl rfl HT_ ?_ ?_
    rotate_left
    ·simp only [pA, pS, pZ, pK, i64_w, i32_w]
     rfl
    refine pn (i := 20) (N := some 32) (v := undef) (a' := ?_) (bs 2097151 29) rfl rfl HT_ ?_ ?_
    rotate_left
    ·simp only [pA, pS, pZ, pK, i64_w, i32_w]
     rfl
    refine pn (i := 21) (N := some 33) (v := undef) (a' := ?_) (bs 4194303 29) rfl rfl HT_ ?_ ?_
    rotate_left
    ·simp only [pA, pS, pZ, pK, i64_w, i32_w]
     rfl
    refine pn (i := 22) (N := some 34) (v := undef) (a' := ?_) (bs 8388607 29) rfl rfl HT_ ?_ ?_
    rotate_left
    ·simp only [pA, pS, pZ, pK, i64_w, i32_w]
     rfl
    refine pn (i := 23) (N := some 35) (v := undef) (a' := ?_) (bs 16777215 29) rfl rfl HT_ ?_ ?_
    rotate_left
    ·simp only [pA, pS, pZ, pK, i64_w, i32_w]
     rfl
    refine pn (i := 24) (N := some 36) (v := undef) (a' := ?_) (bs 33554431 29) rfl rfl HT_ ?_ ?_
    rotate_left
    ·simp only [pA, pS, pZ, pK, i64_w, i32_w]
     rfl
    refine pn (i := 25) (N := some 37) (v := undef) (a' := ?_) (bs 67108863 29) rfl rfl HT_ ?_ ?_
    rotate_left
    ·simp only [pA, pS, pZ, pK, i64_w, i32_w]
     rfl
    refine pn (i := 26) (N := some 38) (v := undef) (a' := ?_) (bs 134217727 29) rfl rfl HT_ ?_ ?_
    rotate_left
    ·simp only [pA, pS, pZ, pK, i64_w, i32_w]
     rfl
    refine pu (i := 27) (N := some 39) (v := ?_) (a' := ?_) (bs 268435455 29) rfl rfl HT_ ?_ ?_ ?_
    rotate_left
    ·intro w'
     go_simp
     with_reducible rfl
    rotate_left
    ·simp only [pA, pS, pZ, pK, i64_w, i32_w]
     rfl
    refine pu (i := 28) (N := some 40) (v := ?_) (a' := ?_) (bs 536870911 29) rfl rfl HT_ ?_ ?_ ?_
    rotate_left
    ·intro w'
     go_simp
     with_reducible rfl
    rotate_left
    ·simp only [pA, pS, pZ, pK, i64_w, i32_w]
     rfl
    refine done_ (done_of HT_.out (by kernel_rfl)) ?_
    try go_wp2
    go_roundg k1
    case measure => have := HK1.out; omega
    case rel => exact ⟨(wrap64 (x7_1 + 1)), (by first | rfl | (simp; done) | (simp [*]; done)), H', ⟨by have := HK1.out; omega⟩, ⟨BT HB.out⟩⟩
   rw [if_pos c7] at H
   have c7b0 : decide (0 < x7_1) = true := decide_eq_true c7
   clear c7
   obtain ⟨ji8, hji8⟩ : ∃ j_ : Int, (wrap64 (x7_1 - 1)) = j_ := ⟨_, rfl⟩
   replace H : (if 0 ≤ (ji8) then (if (ji8) < (l0.length : Int) then (if ((rd_T76 l0 (ji8)).f2) ≥ ((rd_T76 l0 x7_1).f2) then (some false) else (if ((rd_T76 l0 (ji8)).f4) > ((rd_T76 l0 x7_1).f2) then (some false) else (impl_IsValidChain.l0 k1 l0 l0 (l0.length : Int) (wrap64 (x7_1 + 1))))) else (none)) else (none)) = some r := by first | (rw [hji8] at H; exact H) | (simp only [hji8] at H ⊢; exact H)
   (try rw [hji8] at A5)
   have hji8w : (IntKind.i64.wrap (x7_1 - 1)) = ji8 := (i64_w _).trans hji8
   by_cases c9 : 0 ≤ (ji8)
   rotate_left
   ·rw [if_neg c9] at H
    exact absurd H (by simp)
   rw [if_pos c9] at H
   have c9b0 : decide (0 ≤ (ji8)) = true := decide_eq_true c9
   clear c9
   by_cases c10 : (ji8) < (l0.length : Int)
   rotate_left
   ·rw [if_neg c10] at H
    exact absurd H (by simp)
   rw [if_pos c10] at H
   have c10b0 : decide ((ji8) < (l0.length : Int)) = true := decide_eq_true c10
   clear c10
   by_cases c11 : ((rd_T76 l0 (ji8)).f2) ≥ ((rd_T76 l0 x7_1).f2)
   ·rw [if_pos c11] at H
    have c11b0 : decide (((rd_T76 l0 x7_1).f2) ≤ ((rd_T76 l0 (ji8)).f2)) = true := decide_eq_true c11
    clear c11
    obtain rfl := Option.some.inj H
    have p258 : 0 ≤ (x7_1 : Int) := DT
    have q258 : x7_1 < (l0.length : Int) := DT
    obtain ⟨ad258, e258, hx258_0, hx258_1, hx258_2, hx258_3, hx258_4⟩ := at_T76 HR0.out x7_1 p258 q258
    cases e258
    replace hx258_0 := BC HB.out hx258_0
    replace hx258_1 := BC HB.out hx258_1
    replace hx258_2 := BC HB.out hx258_2
    replace hx258_3 := BC HB.out hx258_3
    replace hx258_4 := BC HB.out hx258_4
    replace p258 := eq_true p258
    replace q258 := eq_true q258
    try go_wp2_with (first | ((with_reducible refine gate_dst (N := 4) rfl ?_); (try (refine gate_guard (by rfl) ?_; dsimp only)); refine box_event ?hg (N := 4) ?hd (cs := #[.int .i64 0, .int .i64 0, .int .i64 0, .int .i64 0, .int .i64 0]) (t := 76) ?hr ?_; (case hd => rfl); (case hg => rfl); (case hr => first | (go_simp; done) | (go_simp; rfl)); intro gb259 hg w12 hbox hb; have BK259 := AM_ (hbox); have GW259 := AM_ ((GS HB.out hg)); have GE259 := AM_ ((GS HB.out hg)); replace HB := AM_ (below_step (BT HB.out) hb); clear hb hbox hg; obtain ⟨hcz13_0, hcz13_1, hcz13_2, hcz13_3, hcz13_4, hfz13_0, hfz13_1, hfz13_2, hfz13_3, hfz13_4⟩ := bk5 BK259.out))
    have n0_ : Aside0 ((((((w12.setCell ⟨gb259, 0, none⟩ (.int .i64 ((rd_T76 l0 x7_1).f0))).setCell ⟨gb259, 1, none⟩ (.int .i64 ((rd_T76 l0 x7_1).f1))).setCell ⟨gb259, 2, none⟩ (.int .i64 ((rd_T76 l0 x7_1).f2))).setCell ⟨gb259, 3, none⟩ (.int .i64 ((rd_T76 l0 x7_1).f3))).setCell ⟨gb259, 4, none⟩ (.int .i64 ((rd_T76 l0 x7_1).f4))).heap[gb259]? = some (.cells #[.int .i64 ((rd_T76 l0 x7_1).f0), .int .i64 ((rd_T76 l0 x7_1).f1), .int .i64 ((rd_T76 l0 x7_1).f2), .int .i64 ((rd_T76 l0 x7_1).f3), .int .i64 ((rd_T76 l0 x7_1).f4)] 76 (0, 0))) := ⟨BQ BK259.out⟩
    have n1_ : Aside0 (Below w.heap.size w (((((w12.setCell ⟨gb259, 0, none⟩ (.int .i64 ((rd_T76 l0 x7_1).f0))).setCell ⟨gb259, 1, none⟩ (.int .i64 ((rd_T76 l0 x7_1).f1))).setCell ⟨gb259, 2, none⟩ (.int .i64 ((rd_T76 l0 x7_1).f2))).setCell ⟨gb259, 3, none⟩ (.int .i64 ((rd_T76 l0 x7_1).f3))).setCell ⟨gb259, 4, none⟩ (.int .i64 ((rd_T76 l0 x7_1).f4)))) := ⟨BT HB.out⟩
    (try clear BK259)
    (try clear HB)
    generalize (((((w12.setCell ⟨gb259, 0, none⟩ (.int .i64 ((rd_T76 l0 x7_1).f0))).setCell ⟨gb259, 1, none⟩ (.int .i64 ((rd_T76 l0 x7_1).f1))).setCell ⟨gb259, 2, none⟩ (.int .i64 ((rd_T76 l0 x7_1).f2))).setCell ⟨gb259, 3, none⟩ (.int .i64 ((rd_T76 l0 x7_1).f3))).setCell ⟨gb259, 4, none⟩ (.int .i64 ((rd_T76 l0 x7_1).f4))) = w14 at n0_ n1_ ⊢
    have BK259 := n0_
    have HB := n1_
    clear n0_ n1_
    replace BK259 := AM_ (blk_drew BK259.out)
    replace HB := AM_ (below_drew1 HB.out)
    have p261 : 0 ≤ ((ji8) : Int) := DT
    have q261 : (ji8) < (l0.length : Int) := DT
    obtain ⟨ad261, e261, hx261_0, hx261_1, hx261_2, hx261_3, hx261_4⟩ := at_T76 HR0.out (ji8) p261 q261
    have hw261_4 := hx261_4
    have hw261_3 := hx261_3
    have hw261_2 := hx261_2
    have hw261_1 := hx261_1
    have hw261_0 := hx261_0
    obtain rfl : ad258 = ad261 := (by injection e261)
    replace hx261_0 := BC HB.out hx261_0
    replace hx261_1 := BC HB.out hx261_1
    replace hx261_2 := BC HB.out hx261_2
    replace hx261_3 := BC HB.out hx261_3
    replace hx261_4 := BC HB.out hx261_4
    replace p261 := eq_true p261
    replace q261 := eq_true q261
    refine start_ (n := 29) (S := fun w' => w'.cell? ⟨gb259, 0, none⟩ = some (.int .i64 ((rd_T76 l0 x7_1).f0)) ∧ w'.cell? ⟨gb259, 1, none⟩ = some (.int .i64 ((rd_T76 l0 x7_1).f1)) ∧ w'.cell? ⟨gb259, 2, none⟩ = some (.int .i64 ((rd_T76 l0 x7_1).f2)) ∧ w'.cell? ⟨gb259, 3, none⟩ = some (.int .i64 ((rd_T76 l0 x7_1).f3)) ∧ w'.cell? ⟨gb259, 4, none⟩ = some (.int .i64 ((rd_T76 l0 x7_1).f4)) ∧ w'.cell? (ad258.add (((ji8)).toNat * 5)) = some (.int .i64 ((rd_T76 l0 (ji8)).f0)) ∧ w'.cell? ⟨(ad258.add (((ji8)).toNat * 5)).block, (ad258.add (((ji8)).toNat * 5)).off + 1, none⟩ = some (.int .i64 ((rd_T76 l0 (ji8)).f1)) ∧ w'.cell? ⟨(ad258.add (((ji8)).toNat * 5)).block, (ad258.add (((ji8)).toNat * 5)).off + 2, none⟩ = some (.int .i64 ((rd_T76 l0 (ji8)).f2)) ∧ w'.cell? ⟨(ad258.add (((ji8)).toNat * 5)).block, (ad258.add (((ji8)).toNat * 5)).off + 3, none⟩ = some (.int .i64 ((rd_T76 l0 (ji8)).f3)) ∧ w'.cell? ⟨(ad258.add (((ji8)).toNat * 5)).block, (ad258.add (((ji8)).toNat * 5)).off + 4, none⟩ = some (.int .i64 ((rd_T76 l0 (ji8)).f4))) (ds := []) (bs 0 29) (by kernel_rfl) rfl rfl ⟨bc BK259.out 0, bc BK259.out 1, bc BK259.out 2, bc BK259.out 3, bc BK259.out 4, (BD HB.out hw261_0), (BD HB.out hw261_1), (BD HB.out hw261_2), (BD HB.out hw261_3), (BD HB.out hw261_4)⟩ (fun hHeld => ?_); refine with_tabW impl_IsValidChain.tab4 impl_IsValidChain.bits4 (fun HT_ HW_ => ?_)
    generalize w14.drew = w15 at BK259 HB hx261_0 hx261_1 hx261_2 hx261_3 hx261_4 hHeld ⊢
    refine tk (i := 0) (N := some 12) (v := ?_) (a' := ?_) (bs 1 29) rfl rfl HT_ HW_ ?_ hHeld ?_ ?_
    rotate_left
    ·rintro w' ⟨s0, s1, s2, s3, s4, s5, s6, s7, s8, s9⟩
     go_simp
     with_reducible rfl
    rotate_left
    ·simp only [pA, pS, pZ, pK, i64_w, i32_w]
     rfl
    refine one_ (i := 1) (N := some 13) (bs 3 29) rfl rfl (one_of HT_.out (by kernel_rfl)) (by decide) (fun K hK => ?_)
    refine goes_ Try.func202 (by kernel_rfl) rfl #[.agg #[.int .i64 ((rd_T76 l0 x7_1).f0), .int .i64 ((rd_T76 l0 x7_1).f1), .int .i64 ((rd_T76 l0 x7_1).f2), .int .i64 ((rd_T76 l0 x7_1).f3), .int .i64 ((rd_T76 l0 x7_1).f4)]] (by rfl) rfl rfl (by (try simp only [List.map_toArray, List.map_cons, List.map_nil]); first | done | rfl | (simp only [List.length_drop, List.length_take]; rfl)) ?_
    with_reducible refine (impl_IsValidVersion.calls k1 ((rd_T76 l0 x7_1).f0) ((rd_T76 l0 x7_1).f1) ((rd_T76 l0 x7_1).f2) ((rd_T76 l0 x7_1).f3) ((rd_T76 l0 x7_1).f4) true _ A5.out).mono ?_
    rintro e w16 ⟨rfl, hb⟩
    refine ⟨_, rfl, ?_⟩
    replace BK259 := AM_ (BB BK259.out hb)
    replace HB := AM_ (below_step (BT HB.out) hb)
    (try clear hb)
    (try clear hb2)
    (try clear hk)
    (try clear hi)
    refine hK.out _ _ ⟨bc BK259.out 0, bc BK259.out 1, bc BK259.out 2, bc BK259.out 3, bc BK259.out 4, (BD HB.out hw261_0), (BD HB.out hw261_1), (BD HB.out hw261_2), (BD HB.out hw261_3), (BD HB.out hw261_4)⟩ (fun hHeld => ?_)
    clear hK K
    refine norm_ (a' := ?_) ?_ ?_
    rotate_left
    ·show Act.put _ (some 13) _ = _
     simp only [pA, pS, pZ, pK, i64_w, i32_w]
     rfl
    refine pu (i := 2) (N := some 14) (v := ?_) (a' := ?_) (bs 7 29) rfl rfl HT_ ?_ ?_ ?_
    rotate_left
    ·intro w'
     go_simp
     with_reducible rfl
    rotate_left
    ·simp only [pA, pS, pZ, pK, i64_w, i32_w]
     rfl
    refine pu (i := 3) (N := some 15) (v := ?_) (a' := ?_) (bs 15 29) rfl rfl HT_ ?_ ?_ ?_
    rotate_left
    ·intro w'
     go_simp
     with_reducible rfl
    rotate_left
    ·simp only [pA, pS, pZ, pK, i64_w, i32_w]
     rfl
    refine pu (i := 4) (N := some 16) (v := ?_) (a' := ?_) (bs 31 29) rfl rfl HT_ ?_ ?_ ?_
    rotate_left
    ·intro w'
     go_simp
     with_reducible rfl
    rotate_left
    ·simp only [pA, pS, pZ, pK, i64_w, i32_w]
     rfl
    refine pu (i := 5) (N := some 17) (v := ?_) (a' := ?_) (bs 63 29) rfl rfl HT_ ?_ ?_ ?_
    rotate_left
    ·intro w'
     go_simp
     with_reducible rfl
    rotate_left
    ·simp only [pA, pS, pZ, pK, i64_w, i32_w]
     rfl
    refine pu (i := 6) (N := some 18) (v := ?_) (a' := ?_) (bs 127 29) rfl rfl HT_ ?_ ?_ ?_
    rotate_left
    ·intro w'
     go_simp
     with_reducible rfl
    rotate_left
    ·simp only [pA, pS, pZ, pK, i64_w, i32_w]
     rfl
    refine pu (i := 7) (N := some 19) (v := ?_) (a' := ?_) (bs 255 29) rfl rfl HT_ ?_ ?_ ?_
    rotate_left
    ·intro w'
     go_simp
     with_reducible rfl
    rotate_left
    ·simp only [pA, pS, pZ, pK, i64_w, i32_w]
     rfl
    refine pu (i := 8) (N := some 20) (v := ?_) (a' := ?_) (bs 511 29) rfl rfl HT_ ?_ ?_ ?_
    rotate_left
    ·intro w'
     go_simp
     with_reducible rfl
    rotate_left
    ·simp only [pA, pS, pZ, pK, i64_w, i32_w]
     rfl
    refine pu (i := 9) (N := some 21) (v := ?_) (a' := ?_) (bs 1023 29) rfl rfl HT_ ?_ ?_ ?_
    rotate_left
    ·intro w'
     go_simp
     with_reducible rfl
    rotate_left
    ·simp only [pA, pS, pZ, pK, i64_w, i32_w]
     rfl
    refine pu (i := 10) (N := some 22) (v := ?_) (a' := ?_) (bs 2047 29) rfl rfl HT_ ?_ ?_ ?_
    rotate_left
    ·intro w'
     go_simp
     with_reducible rfl
    rotate_left
    ·simp only [pA, pS, pZ, pK, i64_w, i32_w]
     rfl
    refine pu (i := 11) (N := some 23) (v := ?_) (a' := ?_) (bs 4095 29) rfl rfl HT_ ?_ ?_ ?_
    rotate_left
    ·intro w'
     go_simp
     with_reducible rfl
    rotate_left
    ·simp only [pA, pS, pZ, pK, i64_w, i32_w]
     rfl
    refine pu (i := 13) (N := some 25) (v := ?_) (a' := ?_) (bs 12287 29) rfl rfl HT_ ?_ ?_ ?_
    rotate_left
    ·intro w'
     go_simp
     with_reducible rfl
    rotate_left
    ·simp only [pA, pS, pZ, pK, i64_w, i32_w]
     rfl
    refine tk (i := 12) (N := some 24) (v := ?_) (a' := ?_) (bs 16383 29) rfl rfl HT_ HW_ ?_ hHeld ?_ ?_
    rotate_left
    ·rintro w' ⟨s0, s1, s2, s3, s4, s5, s6, s7, s8, s9⟩
     go_simp
     with_reducible rfl
    rotate_left
    ·simp only [pA, pS, pZ, pK, i64_w, i32_w]
     rfl
    refine tk (i := 14) (N := some 26) (v := ?_) (a' := ?_) (bs 32767 29) rfl rfl HT_ HW_ ?_ hHeld ?_ ?_
    rotate_left
    ·rintro w' ⟨s0, s1, s2, s3, s4, s5, s6, s7, s8, s9⟩
     go_simp
     with_reducible rfl
    rotate_left
    ·simp only [pA, pS, pZ, pK, i64_w, i32_w]
     rfl
    refine pu (i := 15) (N := some 27) (v := ?_) (a' := ?_) (bs 65535 29) rfl rfl HT_ ?_ ?_ ?_
    rotate_left
    ·intro w'
     go_simp
     with_reducible rfl
    rotate_left
    ·simp only [pA, pS, pZ, pK, i64_w, i32_w]
     rfl
    refine pu (i := 16) (N := some 28) (v := ?_) (a' := ?_) (bs 131071 29) rfl rfl HT_ ?_ ?_ ?_
    rotate_left
    ·intro w'
     go_simp
     with_reducible rfl
    rotate_left
    ·simp only [pA, pS, pZ, pK, i64_w, i32_w]
     rfl
    refine pn (i := 17) (N := some 29) (v := undef) (a' := ?_) (bs 262143 29) rfl rfl HT_ ?_ ?_
    rotate_left
    ·simp only [pA, pS, pZ, pK, i64_w, i32_w]
     rfl
    refine pn (i := 18) (N := some 30) (v := undef) (a' := ?_) (bs 524287 29) rfl rfl HT_ ?_ ?_
    rotate_left
    ·simp only [pA, pS, pZ, pK, i64_w, i32_w]
     rfl
    refine pn (i := 19) (N := some 31) (v := undef) (a' := ?_) (bs 1048575 29) rfl rfl HT_ ?_ ?_
    rotate_left
    ·simp only [pA, pS, pZ, pK, i64_w, i32_w]
     rfl
    refine pn (i := 20) (N := some 32) (v := undef) (a' := ?_) (bs 2097151 29) rfl rfl HT_ ?_ ?_
    rotate_left
    ·simp only [pA, pS, pZ, pK, i64_w, i32_w]
     rfl
    refine pn (i := 21) (N := some 33) (v := undef) (a' := ?_) (bs 4194303 29) rfl rfl HT_ ?_ ?_
    rotate_left
    ·simp only [pA, pS, pZ, pK, i64_w, i32_w]
     rfl
    refine pn (i := 22) (N := some 34) (v := undef) (a' := ?_) (bs 8388607 29) rfl rfl HT_ ?_ ?_
    rotate_left
    ·simp only [pA, pS, pZ, pK, i64_w, i32_w]
     rfl
    refine pn (i := 23) (N := some 35) (v := undef) (a' := ?_) (bs 16777215 29) rfl rfl HT_ ?_ ?_
    rotate_left
    ·simp only [pA, pS, pZ, pK, i64_w, i32_w]
     rfl
    refine pn (i := 24) (N := some 36) (v := undef) (a' := ?_) (bs 33554431 29) rfl rfl HT_ ?_ ?_
    rotate_left
    ·simp only [pA, pS, pZ, pK, i64_w, i32_w]
     rfl
    refine pn (i := 25) (N := some 37) (v := undef) (a' := ?_) (bs 67108863 29) rfl rfl HT_ ?_ ?_
    rotate_left
    ·simp only [pA, pS, pZ, pK, i64_w, i32_w]
     rfl
    refine pu (i := 26) (N := some 38) (v := ?_) (a' := ?_) (bs 134217727 29) rfl rfl HT_ ?_ ?_ ?_
    rotate_left
    ·intro w'
     go_simp
     with_reducible rfl
    rotate_left
    ·simp only [pA, pS, pZ, pK, i64_w, i32_w]
     rfl
    refine pu (i := 27) (N := some 39) (v := ?_) (a' := ?_) (bs 268435455 29) rfl rfl HT_ ?_ ?_ ?_
    rotate_left
    ·intro w'
     go_simp
     with_reducible rfl
    rotate_left
    ·simp only [pA, pS, pZ, pK, i64_w, i32_w]
     rfl
    refine pu (i := 28) (N := some 40) (v := ?_) (a' := ?_) (bs 536870911 29) rfl rfl HT_ ?_ ?_ ?_
    rotate_left
    ·intro w'
     go_simp
     with_reducible rfl
    rotate_left
    ·simp only [pA, pS, pZ, pK, i64_w, i32_w]
     rfl
    refine done_ (done_of HT_.out (by kernel_rfl)) ?_
    try go_wp2
    go_ret
    exact ⟨by first | rfl | (simp [errW_none, errW_some] <;> rfl) | (simp only [← hji8]; first | rfl | (simp [errW_none, errW_some] <;> rfl)) | (simp [*, errW_none, errW_some] <;> rfl), BT HB.out⟩
   rw [if_neg c11] at H
   have c11b0 : decide (((rd_T76 l0 x7_1).f2) ≤ ((rd_T76 l0 (ji8)).f2)) = false := decide_eq_false c11
   clear c11
   by_cases c17 : ((rd_T76 l0 (ji8)).f4) > ((rd_T76 l0 x7_1).f2)
   rotate_left
   ·rw [if_neg c17] at H
    have c17b0 : decide (((rd_T76 l0 x7_1).f2) < ((rd_T76 l0 (ji8)).f4)) = false := decide_eq_false c17
    clear c17
    have H' := AM_ H
    clear H
    have p258 : 0 ≤ (x7_1 : Int) := DT
    have q258 : x7_1 < (l0.length : Int) := DT
    obtain ⟨ad258, e258, hx258_0, hx258_1, hx258_2, hx258_3, hx258_4⟩ := at_T76 HR0.out x7_1 p258 q258
    cases e258
    replace hx258_0 := BC HB.out hx258_0
    replace hx258_1 := BC HB.out hx258_1
    replace hx258_2 := BC HB.out hx258_2
    replace hx258_3 := BC HB.out hx258_3
    replace hx258_4 := BC HB.out hx258_4
    replace p258 := eq_true p258
    replace q258 := eq_true q258
    try go_wp2_with (first | ((with_reducible refine gate_dst (N := 4) rfl ?_); (try (refine gate_guard (by rfl) ?_; dsimp only)); refine box_event ?hg (N := 4) ?hd (cs := #[.int .i64 0, .int .i64 0, .int .i64 0, .int .i64 0, .int .i64 0]) (t := 76) ?hr ?_; (case hd => rfl); (case hg => rfl); (case hr => first | (go_simp; done) | (go_simp; rfl)); intro gb259 hg w23 hbox hb; have BK259 := AM_ (hbox); have GW259 := AM_ ((GS HB.out hg)); have GE259 := AM_ ((GS HB.out hg)); replace HB := AM_ (below_step (BT HB.out) hb); clear hb hbox hg; obtain ⟨hcz24_0, hcz24_1, hcz24_2, hcz24_3, hcz24_4, hfz24_0, hfz24_1, hfz24_2, hfz24_3, hfz24_4⟩ := bk5 BK259.out))
    have n0_ : Aside0 ((((((w23.setCell ⟨gb259, 0, none⟩ (.int .i64 ((rd_T76 l0 x7_1).f0))).setCell ⟨gb259, 1, none⟩ (.int .i64 ((rd_T76 l0 x7_1).f1))).setCell ⟨gb259, 2, none⟩ (.int .i64 ((rd_T76 l0 x7_1).f2))).setCell ⟨gb259, 3, none⟩ (.int .i64 ((rd_T76 l0 x7_1).f3))).setCell ⟨gb259, 4, none⟩ (.int .i64 ((rd_T76 l0 x7_1).f4))).heap[gb259]? = some (.cells #[.int .i64 ((rd_T76 l0 x7_1).f0), .int .i64 ((rd_T76 l0 x7_1).f1), .int .i64 ((rd_T76 l0 x7_1).f2), .int .i64 ((rd_T76 l0 x7_1).f3), .int .i64 ((rd_T76 l0 x7_1).f4)] 76 (0, 0))) := ⟨BQ BK259.out⟩
    have n1_ : Aside0 (Below w.heap.size w (((((w23.setCell ⟨gb259, 0, none⟩ (.int .i64 ((rd_T76 l0 x7_1).f0))).setCell ⟨gb259, 1, none⟩ (.int .i64 ((rd_T76 l0 x7_1).f1))).setCell ⟨gb259, 2, none⟩ (.int .i64 ((rd_T76 l0 x7_1).f2))).setCell ⟨gb259, 3, none⟩ (.int .i64 ((rd_T76 l0 x7_1).f3))).setCell ⟨gb259, 4, none⟩ (.int .i64 ((rd_T76 l0 x7_1).f4)))) := ⟨BT HB.out⟩
    (try clear BK259)
    (try clear HB)
    generalize (((((w23.setCell ⟨gb259, 0, none⟩ (.int .i64 ((rd_T76 l0 x7_1).f0))).setCell ⟨gb259, 1, none⟩ (.int .i64 ((rd_T76 l0 x7_1).f1))).setCell ⟨gb259, 2, none⟩ (.int .i64 ((rd_T76 l0 x7_1).f2))).setCell ⟨gb259, 3, none⟩ (.int .i64 ((rd_T76 l0 x7_1).f3))).setCell ⟨gb259, 4, none⟩ (.int .i64 ((rd_T76 l0 x7_1).f4))) = w25 at n0_ n1_ ⊢
    have BK259 := n0_
    have HB := n1_
    clear n0_ n1_
    replace BK259 := AM_ (blk_drew BK259.out)
    replace HB := AM_ (below_drew1 HB.out)
    have p261 : 0 ≤ ((ji8) : Int) := DT
    have q261 : (ji8) < (l0.length : Int) := DT
    obtain ⟨ad261, e261, hx261_0, hx261_1, hx261_2, hx261_3, hx261_4⟩ := at_T76 HR0.out (ji8) p261 q261
    have hw261_4 := hx261_4
    have hw261_3 := hx261_3
    have hw261_2 := hx261_2
    have hw261_1 := hx261_1
    have hw261_0 := hx261_0
    obtain rfl : ad258 = ad261 := (by injection e261)
    replace hx261_0 := BC HB.out hx261_0
    replace hx261_1 := BC HB.out hx261_1
    replace hx261_2 := BC HB.out hx261_2
    replace hx261_3 := BC HB.out hx261_3
    replace hx261_4 := BC HB.out hx261_4
    replace p261 := eq_true p261
    replace q261 := eq_true q261
    have p262 : 0 ≤ ((ji8) : Int) := DT
    have q262 : (ji8) < (l0.length : Int) := DT
    obtain ⟨ad262, e262, hx262_0, hx262_1, hx262_2, hx262_3, hx262_4⟩ := at_T76 HR0.out (ji8) p262 q262
    have hw262_4 := hx262_4
    have hw262_3 := hx262_3
    have hw262_2 := hx262_2
    have hw262_1 := hx262_1
    have hw262_0 := hx262_0
    obtain rfl : ad258 = ad262 := (by injection e262)
    replace hx262_0 := BC HB.out hx262_0
    replace hx262_1 := BC HB.out hx262_1
    replace hx262_2 := BC HB.out hx262_2
    replace hx262_3 := BC HB.out hx262_3
    replace hx262_4 := BC HB.out hx262_4
    replace p262 := eq_true p262
    replace q262 := eq_true q262
    refine start_ (n := 29) (S := fun w' => w'.cell? ⟨gb259, 0, none⟩ = some (.int .i64 ((rd_T76 l0 x7_1).f0)) ∧ w'.cell? ⟨gb259, 1, none⟩ = some (.int .i64 ((rd_T76 l0 x7_1).f1)) ∧ w'.cell? ⟨gb259, 2, none⟩ = some (.int .i64 ((rd_T76 l0 x7_1).f2)) ∧ w'.cell? ⟨gb259, 3, none⟩ = some (.int .i64 ((rd_T76 l0 x7_1).f3)) ∧ w'.cell? ⟨gb259, 4, none⟩ = some (.int .i64 ((rd_T76 l0 x7_1).f4)) ∧ w'.cell? (ad258.add (((ji8)).toNat * 5)) = some (.int .i64 ((rd_T76 l0 (ji8)).f0)) ∧ w'.cell? ⟨(ad258.add (((ji8)).toNat * 5)).block, (ad258.add (((ji8)).toNat * 5)).off + 1, none⟩ = some (.int .i64 ((rd_T76 l0 (ji8)).f1)) ∧ w'.cell? ⟨(ad258.add (((ji8)).toNat * 5)).block, (ad258.add (((ji8)).toNat * 5)).off + 2, none⟩ = some (.int .i64 ((rd_T76 l0 (ji8)).f2)) ∧ w'.cell? ⟨(ad258.add (((ji8)).toNat * 5)).block, (ad258.add (((ji8)).toNat * 5)).off + 3, none⟩ = some (.int .i64 ((rd_T76 l0 (ji8)).f3)) ∧ w'.cell? ⟨(ad258.add (((ji8)).toNat * 5)).block, (ad258.add (((ji8)).toNat * 5)).off + 4, none⟩ = some (.int .i64 ((rd_T76 l0 (ji8)).f4)) ∧ w'.cell? (ad258.add (((ji8)).toNat * 5)) = some (.int .i64 ((rd_T76 l0 (ji8)).f0)) ∧ w'.cell? ⟨(ad258.add (((ji8)).toNat * 5)).block, (ad258.add (((ji8)).toNat * 5)).off + 1, none⟩ = some (.int .i64 ((rd_T76 l0 (ji8)).f1)) ∧ w'.cell? ⟨(ad258.add (((ji8)).toNat * 5)).block, (ad258.add (((ji8)).toNat * 5)).off + 2, none⟩ = some (.int .i64 ((rd_T76 l0 (ji8)).f2)) ∧ w'.cell? ⟨(ad258.add (((ji8)).toNat * 5)).block, (ad258.add (((ji8)).toNat * 5)).off + 3, none⟩ = some (.int .i64 ((rd_T76 l0 (ji8)).f3)) ∧ w'.cell? ⟨(ad258.add (((ji8)).toNat * 5)).block, (ad258.add (((ji8)).toNat * 5)).off + 4, none⟩ = some (.int .i64 ((rd_T76 l0 (ji8)).f4))) (ds := []) (bs 0 29) (by kernel_rfl) rfl rfl ⟨bc BK259.out 0, bc BK259.out 1, bc BK259.out 2, bc BK259.out 3, bc BK259.out 4, (BD HB.out hw261_0), (BD HB.out hw261_1), (BD HB.out hw261_2), (BD HB.out hw261_3), (BD HB.out hw261_4), (BD HB.out hw262_0), (BD HB.out hw262_1), (BD HB.out hw262_2), (BD HB.out hw262_3), (BD HB.out hw262_4)⟩ (fun hHeld => ?_); refine with_tabW impl_IsValidChain.tab4 impl_IsValidChain.bits4 (fun HT_ HW_ => ?_)
    generalize w25.drew = w26 at BK259 HB hx261_0 hx261_1 hx261_2 hx261_3 hx261_4 hx262_0 hx262_1 hx262_2 hx262_3 hx262_4 hHeld ⊢
    refine tk (i := 0) (N := some 12) (v := ?_) (a' := ?_) (bs 1 29) rfl rfl HT_ HW_ ?_ hHeld ?_ ?_
    rotate_left
    ·rintro w' ⟨s0, s1, s2, s3, s4, s5, s6, s7, s8, s9, s10, s11, s12, s13, s14⟩
     go_simp
     with_reducible rfl
    rotate_left
    ·simp only [pA, pS, pZ, pK, i64_w, i32_w]
     rfl
    refine one_ (i := 1) (N := some 13) (bs 3 29) rfl rfl (one_of HT_.out (by kernel_rfl)) (by decide) (fun K hK => ?_)
    refine goes_ Try.func202 (by kernel_rfl) rfl #[.agg #[.int .i64 ((rd_T76 l0 x7_1).f0), .int .i64 ((rd_T76 l0 x7_1).f1), .int .i64 ((rd_T76 l0 x7_1).f2), .int .i64 ((rd_T76 l0 x7_1).f3), .int .i64 ((rd_T76 l0 x7_1).f4)]] (by rfl) rfl rfl (by (try simp only [List.map_toArray, List.map_cons, List.map_nil]); first | done | rfl | (simp only [List.length_drop, List.length_take]; rfl)) ?_
    with_reducible refine (impl_IsValidVersion.calls k1 ((rd_T76 l0 x7_1).f0) ((rd_T76 l0 x7_1).f1) ((rd_T76 l0 x7_1).f2) ((rd_T76 l0 x7_1).f3) ((rd_T76 l0 x7_1).f4) true _ A5.out).mono ?_
    rintro e w27 ⟨rfl, hb⟩
    refine ⟨_, rfl, ?_⟩
    replace BK259 := AM_ (BB BK259.out hb)
    replace HB := AM_ (below_step (BT HB.out) hb)
    (try clear hb)
    (try clear hb2)
    (try clear hk)
    (try clear hi)
    refine hK.out _ _ ⟨bc BK259.out 0, bc BK259.out 1, bc BK259.out 2, bc BK259.out 3, bc BK259.out 4, (BD HB.out hw261_0), (BD HB.out hw261_1), (BD HB.out hw261_2), (BD HB.out hw261_3), (BD HB.out hw261_4), (BD HB.out hw262_0), (BD HB.out hw262_1), (BD HB.out hw262_2), (BD HB.out hw262_3), (BD HB.out hw262_4)⟩ (fun hHeld => ?_)
    clear hK K
    refine norm_ (a' := ?_) ?_ ?_
    rotate_left
    ·show Act.put _ (some 13) _ = _
     simp only [pA, pS, pZ, pK, i64_w, i32_w]
     rfl
    refine pu (i := 2) (N := some 14) (v := ?_) (a' := ?_) (bs 7 29) rfl rfl HT_ ?_ ?_ ?_
    rotate_left
    ·intro w'
     go_simp
     with_reducible rfl
    rotate_left
    ·simp only [pA, pS, pZ, pK, i64_w, i32_w]
     rfl
    refine pu (i := 3) (N := some 15) (v := ?_) (a' := ?_) (bs 15 29) rfl rfl HT_ ?_ ?_ ?_
    rotate_left
    ·intro w'
     go_simp
     with_reducible rfl
    rotate_left
    ·simp only [pA, pS, pZ, pK, i64_w, i32_w]
     rfl
    refine pu (i := 4) (N := some 16) (v := ?_) (a' := ?_) (bs 31 29) rfl rfl HT_ ?_ ?_ ?_
    rotate_left
    ·intro w'
     go_simp
     with_reducible rfl
    rotate_left
    ·simp only [pA, pS, pZ, pK, i64_w, i32_w]
     rfl
    refine pu (i := 5) (N := some 17) (v := ?_) (a' := ?_) (bs 63 29) rfl rfl HT_ ?_ ?_ ?_
    rotate_left
    ·intro w'
     go_simp
     with_reducible rfl
    rotate_left
    ·simp only [pA, pS, pZ, pK, i64_w, i32_w]
     rfl
    refine pu (i := 6) (N := some 18) (v := ?_) (a' := ?_) (bs 127 29) rfl rfl HT_ ?_ ?_ ?_
    rotate_left
    ·intro w'
     go_simp
     with_reducible rfl
    rotate_left
    ·simp only [pA, pS, pZ, pK, i64_w, i32_w]
     rfl
    refine pu (i := 7) (N := some 19) (v := ?_) (a' := ?_) (bs 255 29) rfl rfl HT_ ?_ ?_ ?_
    rotate_left
    ·intro w'
     go_simp
     with_reducible rfl
    rotate_left
    ·simp only [pA, pS, pZ, pK, i64_w, i32_w]
     rfl
    refine pu (i := 8) (N := some 20) (v := ?_) (a' := ?_) (bs 511 29) rfl rfl HT_ ?_ ?_ ?_
    rotate_left
    ·intro w'
     go_simp
     with_reducible rfl
    rotate_left
    ·simp only [pA, pS, pZ, pK, i64_w, i32_w]
     rfl
    refine pu (i := 9) (N := some 21) (v := ?_) (a' := ?_) (bs 1023 29) rfl rfl HT_ ?_ ?_ ?_
    rotate_left
    ·intro w'
     go_simp
     with_reducible rfl
    rotate_left
    ·simp only [pA, pS, pZ, pK, i64_w, i32_w]
     rfl
    refine pu (i := 10) (N := some 22) (v := ?_) (a' := ?_) (bs 2047 29) rfl rfl HT_ ?_ ?_ ?_
    rotate_left
    ·intro w'
     go_simp
     with_reducible rfl
    rotate_left
    ·simp only [pA, pS, pZ, pK, i64_w, i32_w]
     rfl
    refine pu (i := 11) (N := some 23) (v := ?_) (a' := ?_) (bs 4095 29) rfl rfl HT_ ?_ ?_ ?_
    rotate_left
    ·intro w'
     go_simp
     with_reducible rfl
    rotate_left
    ·simp only [pA, pS, pZ, pK, i64_w, i32_w]
     rfl
    refine pu (i := 13) (N := some 25) (v := ?_) (a' := ?_) (bs 12287 29) rfl rfl HT_ ?_ ?_ ?_
    rotate_left
    ·intro w'
     go_simp
     with_reducible rfl
    rotate_left
    ·simp only [pA, pS, pZ, pK, i64_w, i32_w]
     rfl
    refine tk (i := 12) (N := some 24) (v := ?_) (a' := ?_) (bs 16383 29) rfl rfl HT_ HW_ ?_ hHeld ?_ ?_
    rotate_left
    ·rintro w' ⟨s0, s1, s2, s3, s4, s5, s6, s7, s8, s9, s10, s11, s12, s13, s14⟩
     go_simp
     with_reducible rfl
    rotate_left
    ·simp only [pA, pS, pZ, pK, i64_w, i32_w]
     rfl
    refine tk (i := 14) (N := some 26) (v := ?_) (a' := ?_) (bs 32767 29) rfl rfl HT_ HW_ ?_ hHeld ?_ ?_
    rotate_left
    ·rintro w' ⟨s0, s1, s2, s3, s4, s5, s6, s7, s8, s9, s10, s11, s12, s13, s14⟩
     go_simp
     with_reducible rfl
    rotate_left
    ·simp only [pA, pS, pZ, pK, i64_w, i32_w]
     rfl
    refine pu (i := 15) (N := some 27) (v := ?_) (a' := ?_) (bs 65535 29) rfl rfl HT_ ?_ ?_ ?_
    rotate_left
    ·intro w'
     go_simp
     with_reducible rfl
    rotate_left
    ·simp only [pA, pS, pZ, pK, i64_w, i32_w]
     rfl
    refine pu (i := 16) (N := some 28) (v := ?_) (a' := ?_) (bs 131071 29) rfl rfl HT_ ?_ ?_ ?_
    rotate_left
    ·intro w'
     go_simp
     with_reducible rfl
    rotate_left
    ·simp only [pA, pS, pZ, pK, i64_w, i32_w]
     rfl
    refine pu (i := 17) (N := some 29) (v := ?_) (a' := ?_) (bs 262143 29) rfl rfl HT_ ?_ ?_ ?_
    rotate_left
    ·intro w'
     go_simp
     with_reducible rfl
    rotate_left
    ·simp only [pA, pS, pZ, pK, i64_w, i32_w]
     rfl
    refine pu (i := 18) (N := some 30) (v := ?_) (a' := ?_) (bs 524287 29) rfl rfl HT_ ?_ ?_ ?_
    rotate_left
    ·intro w'
     go_simp
     with_reducible rfl
    rotate_left
    ·simp only [pA, pS, pZ, pK, i64_w, i32_w]
     rfl
    refine pu (i := 19) (N := some 31) (v := ?_) (a' := ?_) (bs 1048575 29) rfl rfl HT_ ?_ ?_ ?_
    rotate_left
    ·intro w'
     go_simp
     with_reducible rfl
    rotate_left
    ·simp only [pA, pS, pZ, pK, i64_w, i32_w]
     rfl
    refine pu (i := 20) (N := some 32) (v := ?_) (a' := ?_) (bs 2097151 29) rfl rfl HT_ ?_ ?_ ?_
    rotate_left
    ·intro w'
     go_simp
     with_reducible rfl
    rotate_left
    ·simp only [pA, pS, pZ, pK, i64_w, i32_w]
     rfl
    refine pu (i := 21) (N := some 33) (v := ?_) (a' := ?_) (bs 4194303 29) rfl rfl HT_ ?_ ?_ ?_
    rotate_left
    ·intro w'
     go_simp
     with_reducible rfl
    rotate_left
    ·simp only [pA, pS, pZ, pK, i64_w, i32_w]
     rfl
    refine pu (i := 23) (N := some 35) (v := ?_) (a' := ?_) (bs 12582911 29) rfl rfl HT_ ?_ ?_ ?_
    rotate_left
    ·intro w'
     go_simp
     with_reducible rfl
    rotate_left
    ·simp only [pA, pS, pZ, pK, i64_w, i32_w]
     rfl
    refine tk (i := 22) (N := some 34) (v := ?_) (a' := ?_) (bs 16777215 29) rfl rfl HT_ HW_ ?_ hHeld ?_ ?_
    rotate_left
    ·rintro w' ⟨s0, s1, s2, s3, s4, s5, s6, s7, s8, s9, s10, s11, s12, s13, s14⟩
     go_simp
     with_reducible rfl
    rotate_left
    ·simp only [pA, pS, pZ, pK, i64_w, i32_w]
     rfl
    refine tk (i := 24) (N := some 36) (v := ?_) (a' := ?_) (bs 33554431 29) rfl rfl HT_ HW_ ?_ hHeld ?_ ?_
    rotate_left
    ·rintro w' ⟨s0, s1, s2, s3, s4, s5, s6, s7, s8, s9, s10, s11, s12, s13, s14⟩
     go_simp
     with_reducible rfl
    rotate_left
    ·simp only [pA, pS, pZ, pK, i64_w, i32_w]
     rfl
    refine pu (i := 25) (N := some 37) (v := ?_) (a' := ?_) (bs 67108863 29) rfl rfl HT_ ?_ ?_ ?_
    rotate_left
    ·intro w'
     go_simp
     with_reducible rfl
    rotate_left
    ·simp only [pA, pS, pZ, pK, i64_w, i32_w]
     rfl
    refine pu (i := 26) (N := some 38) (v := ?_) (a' := ?_) (bs 134217727 29) rfl rfl HT_ ?_ ?_ ?_
    rotate_left
    ·intro w'
     go_simp
     with_reducible rfl
    rotate_left
    ·simp only [pA, pS, pZ, pK, i64_w, i32_w]
     rfl
    refine pu (i := 27) (N := some 39) (v := ?_) (a' := ?_) (bs 268435455 29) rfl rfl HT_ ?_ ?_ ?_
    rotate_left
    ·intro w'
     go_simp
     with_reducible rfl
    rotate_left
    ·simp only [pA, pS, pZ, pK, i64_w, i32_w]
     rfl
    refine pu (i := 28) (N := some 40) (v := ?_) (a' := ?_) (bs 536870911 29) rfl rfl HT_ ?_ ?_ ?_
    rotate_left
    ·intro w'
     go_simp
     with_reducible rfl
    rotate_left
    ·simp only [pA, pS, pZ, pK, i64_w, i32_w]
     rfl
    refine done_ (done_of HT_.out (by kernel_rfl)) ?_
    try go_wp2
    go_roundg k1
    case measure => have := HK1.out; omega
    case rel => exact ⟨(wrap64 (x7_1 + 1)), (by first | rfl | (simp; done) | (simp [*]; done)), H', ⟨by have := HK1.out; omega⟩, ⟨BT HB.out⟩⟩
   rw [if_pos c17] at H
   have c17b0 : decide (((rd_T76 l0 x7_1).f2) < ((rd_T76 l0 (ji8)).f4)) = true := decide_eq_true c17
   clear c17
   obtain rfl := Option.some.inj H
   have p258 : 0 ≤ (x7_1 : Int) := DT
   have q258 : x7_1 < (l0.length : Int) := DT
   obtain ⟨ad258, e258, hx258_0, hx258_1, hx258_2, hx258_3, hx258_4⟩ := at_T76 HR0.out x7_1 p258 q258
   cases e258
   replace hx258_0 := BC HB.out hx258_0
   replace hx258_1 := BC HB.out hx258_1
   replace hx258_2 := BC HB.out hx258_2
   replace hx258_3 := BC HB.out hx258_3
   replace hx258_4 := BC HB.out hx258_4
   replace p258 := eq_true p258
   replace q258 := eq_true q258
   try go_wp2_with (first | ((with_reducible refine gate_dst (N := 4) rfl ?_); (try (refine gate_guard (by rfl) ?_; dsimp only)); refine box_event ?hg (N := 4) ?hd (cs := #[.int .i64 0, .int .i64 0, .int .i64 0, .int .i64 0, .int .i64 0]) (t := 76) ?hr ?_; (case hd => rfl); (case hg => rfl); (case hr => first | (go_simp; done) | (go_simp; rfl)); intro gb259 hg w18 hbox hb; have BK259 := AM_ (hbox); have GW259 := AM_ ((GS HB.out hg)); have GE259 := AM_ ((GS HB.out hg)); replace HB := AM_ (below_step (BT HB.out) hb); clear hb hbox hg; obtain ⟨hcz19_0, hcz19_1, hcz19_2, hcz19_3, hcz19_4, hfz19_0, hfz19_1, hfz19_2, hfz19_3, hfz19_4⟩ := bk5 BK259.out))
   have n0_ : Aside0 ((((((w18.setCell ⟨gb259, 0, none⟩ (.int .i64 ((rd_T76 l0 x7_1).f0))).setCell ⟨gb259, 1, none⟩ (.int .i64 ((rd_T76 l0 x7_1).f1))).setCell ⟨gb259, 2, none⟩ (.int .i64 ((rd_T76 l0 x7_1).f2))).setCell ⟨gb259, 3, none⟩ (.int .i64 ((rd_T76 l0 x7_1).f3))).setCell ⟨gb259, 4, none⟩ (.int .i64 ((rd_T76 l0 x7_1).f4))).heap[gb259]? = some (.cells #[.int .i64 ((rd_T76 l0 x7_1).f0), .int .i64 ((rd_T76 l0 x7_1).f1), .int .i64 ((rd_T76 l0 x7_1).f2), .int .i64 ((rd_T76 l0 x7_1).f3), .int .i64 ((rd_T76 l0 x7_1).f4)] 76 (0, 0))) := ⟨BQ BK259.out⟩
   have n1_ : Aside0 (Below w.heap.size w (((((w18.setCell ⟨gb259, 0, none⟩ (.int .i64 ((rd_T76 l0 x7_1).f0))).setCell ⟨gb259, 1, none⟩ (.int .i64 ((rd_T76 l0 x7_1).f1))).setCell ⟨gb259, 2, none⟩ (.int .i64 ((rd_T76 l0 x7_1).f2))).setCell ⟨gb259, 3, none⟩ (.int .i64 ((rd_T76 l0 x7_1).f3))).setCell ⟨gb259, 4, none⟩ (.int .i64 ((rd_T76 l0 x7_1).f4)))) := ⟨BT HB.out⟩
   (try clear BK259)
   (try clear HB)
   generalize (((((w18.setCell ⟨gb259, 0, none⟩ (.int .i64 ((rd_T76 l0 x7_1).f0))).setCell ⟨gb259, 1, none⟩ (.int .i64 ((rd_T76 l0 x7_1).f1))).setCell ⟨gb259, 2, none⟩ (.int .i64 ((rd_T76 l0 x7_1).f2))).setCell ⟨gb259, 3, none⟩ (.int .i64 ((rd_T76 l0 x7_1).f3))).setCell ⟨gb259, 4, none⟩ (.int .i64 ((rd_T76 l0 x7_1).f4))) = w20 at n0_ n1_ ⊢
   have BK259 := n0_
   have HB := n1_
   clear n0_ n1_
   replace BK259 := AM_ (blk_drew BK259.out)
   replace HB := AM_ (below_drew1 HB.out)
   have p261 : 0 ≤ ((ji8) : Int) := DT
   have q261 : (ji8) < (l0.length : Int) := DT
   obtain ⟨ad261, e261, hx261_0, hx261_1, hx261_2, hx261_3, hx261_4⟩ := at_T76 HR0.out (ji8) p261 q261
   have hw261_4 := hx261_4
   have hw261_3 := hx261_3
   have hw261_2 := hx261_2
   have hw261_1 := hx261_1
   have hw261_0 := hx261_0
   obtain rfl : ad258 = ad261 := (by injection e261)
   replace hx261_0 := BC HB.out hx261_0
   replace hx261_1 := BC HB.out hx261_1
   replace hx261_2 := BC HB.out hx261_2
   replace hx261_3 := BC HB.out hx261_3
   replace hx261_4 := BC HB.out hx261_4
   replace p261 := eq_true p261
   replace q261 := eq_true q261
   have p262 : 0 ≤ ((ji8) : Int) := DT
   have q262 : (ji8) < (l0.length : Int) := DT
   obtain ⟨ad262, e262, hx262_0, hx262_1, hx262_2, hx262_3, hx262_4⟩ := at_T76 HR0.out (ji8) p262 q262
   have hw262_4 := hx262_4
   have hw262_3 := hx262_3
   have hw262_2 := hx262_2
   have hw262_1 := hx262_1
   have hw262_0 := hx262_0
   obtain rfl : ad258 = ad262 := (by injection e262)
   replace hx262_0 := BC HB.out hx262_0
   replace hx262_1 := BC HB.out hx262_1
   replace hx262_2 := BC HB.out hx262_2
   replace hx262_3 := BC HB.out hx262_3
   replace hx262_4 := BC HB.out hx262_4
   replace p262 := eq_true p262
   replace q262 := eq_true q262
   refine start_ (n := 29) (S := fun w' => w'.cell? ⟨gb259, 0, none⟩ = some (.int .i64 ((rd_T76 l0 x7_1).f0)) ∧ w'.cell? ⟨gb259, 1, none⟩ = some (.int .i64 ((rd_T76 l0 x7_1).f1)) ∧ w'.cell? ⟨gb259, 2, none⟩ = some (.int .i64 ((rd_T76 l0 x7_1).f2)) ∧ w'.cell? ⟨gb259, 3, none⟩ = some (.int .i64 ((rd_T76 l0 x7_1).f3)) ∧ w'.cell? ⟨gb259, 4, none⟩ = some (.int .i64 ((rd_T76 l0 x7_1).f4)) ∧ w'.cell? (ad258.add (((ji8)).toNat * 5)) = some (.int .i64 ((rd_T76 l0 (ji8)).f0)) ∧ w'.cell? ⟨(ad258.add (((ji8)).toNat * 5)).block, (ad258.add (((ji8)).toNat * 5)).off + 1, none⟩ = some (.int .i64 ((rd_T76 l0 (ji8)).f1)) ∧ w'.cell? ⟨(ad258.add (((ji8)).toNat * 5)).block, (ad258.add (((ji8)).toNat * 5)).off + 2, none⟩ = some (.int .i64 ((rd_T76 l0 (ji8)).f2)) ∧ w'.cell? ⟨(ad258.add (((ji8)).toNat * 5)).block, (ad258.add (((ji8)).toNat * 5)).off + 3, none⟩ = some (.int .i64 ((rd_T76 l0 (ji8)).f3)) ∧ w'.cell? ⟨(ad258.add (((ji8)).toNat * 5)).block, (ad258.add (((ji8)).toNat * 5)).off + 4, none⟩ = some (.int .i64 ((rd_T76 l0 (ji8)).f4)) ∧ w'.cell? (ad258.add (((ji8)).toNat * 5)) = some (.int .i64 ((rd_T76 l0 (ji8)).f0)) ∧ w'.cell? ⟨(ad258.add (((ji8)).toNat * 5)).block, (ad258.add (((ji8)).toNat * 5)).off + 1, none⟩ = some (.int .i64 ((rd_T76 l0 (ji8)).f1)) ∧ w'.cell? ⟨(ad258.add (((ji8)).toNat * 5)).block, (ad258.add (((ji8)).toNat * 5)).off + 2, none⟩ = some (.int .i64 ((rd_T76 l0 (ji8)).f2)) ∧ w'.cell? ⟨(ad258.add (((ji8)).toNat * 5)).block, (ad258.add (((ji8)).toNat * 5)).off + 3, none⟩ = some (.int .i64 ((rd_T76 l0 (ji8)).f3)) ∧ w'.cell? ⟨(ad258.add (((ji8)).toNat * 5)).block, (ad258.add (((ji8)).toNat * 5)).off + 4, none⟩ = some (.int .i64 ((rd_T76 l0 (ji8)).f4))) (ds := []) (bs 0 29) (by kernel_rfl) rfl rfl ⟨bc BK259.out 0, bc BK259.out 1, bc BK259.out 2, bc BK259.out 3, bc BK259.out 4, (BD HB.out hw261_0), (BD HB.out hw261_1), (BD HB.out hw261_2), (BD HB.out hw261_3), (BD HB.out hw261_4), (BD HB.out hw262_0), (BD HB.out hw262_1), (BD HB.out hw262_2), (BD HB.out hw262_3), (BD HB.out hw262_4)⟩ (fun hHeld => ?_); refine with_tabW impl_IsValidChain.tab4 impl_IsValidChain.bits4 (fun HT_ HW_ => ?_)
   generalize w20.drew = w21 at BK259 HB hx261_0 hx261_1 hx261_2 hx261_3 hx261_4 hx262_0 hx262_1 hx262_2 hx262_3 hx262_4 hHeld ⊢
   refine tk (i := 0) (N := some 12) (v := ?_) (a' := ?_) (bs 1 29) rfl rfl HT_ HW_ ?_ hHeld ?_ ?_
   rotate_left
   ·rintro w' ⟨s0, s1, s2, s3, s4, s5, s6, s7, s8, s9, s10, s11, s12, s13, s14⟩
    go_simp
    with_reducible rfl
   rotate_left
   ·simp only [pA, pS, pZ, pK, i64_w, i32_w]
    rfl
   refine one_ (i := 1) (N := some 13) (bs 3 29) rfl rfl (one_of HT_.out (by kernel_rfl)) (by decide) (fun K hK => ?_)
   refine goes_ Try.func202 (by kernel_rfl) rfl #[.agg #[.int .i64 ((rd_T76 l0 x7_1).f0), .int .i64 ((rd_T76 l0 x7_1).f1), .int .i64 ((rd_T76 l0 x7_1).f2), .int .i64 ((rd_T76 l0 x7_1).f3), .int .i64 ((rd_T76 l0 x7_1).f4)]] (by rfl) rfl rfl (by (try simp only [List.map_toArray, List.map_cons, List.map_nil]); first | done | rfl | (simp only [List.length_drop, List.length_take]; rfl)) ?_
   with_reducible refine (impl_IsValidVersion.calls k1 ((rd_T76 l0 x7_1).f0) ((rd_T76 l0 x7_1).f1) ((rd_T76 l0 x7_1).f2) ((rd_T76 l0 x7_1).f3) ((rd_T76 l0 x7_1).f4) true _ A5.out).mono ?_
   rintro e w22 ⟨rfl, hb⟩
   refine ⟨_, rfl, ?_⟩
   replace BK259 := AM_ (BB BK259.out hb)
   replace HB := AM_ (below_step (BT HB.out) hb)
   (try clear hb)
   (try clear hb2)
   (try clear hk)
   (try clear hi)
   refine hK.out _ _ ⟨bc BK259.out 0, bc BK259.out 1, bc BK259.out 2, bc BK259.out 3, bc BK259.out 4, (BD HB.out hw261_0), (BD HB.out hw261_1), (BD HB.out hw261_2), (BD HB.out hw261_3), (BD HB.out hw261_4), (BD HB.out hw262_0), (BD HB.out hw262_1), (BD HB.out hw262_2), (BD HB.out hw262_3), (BD HB.out hw262_4)⟩ (fun hHeld => ?_)
   clear hK K
   refine norm_ (a' := ?_) ?_ ?_
   rotate_left
   ·show Act.put _ (some 13) _ = _
    simp only [pA, pS, pZ, pK, i64_w, i32_w]
    rfl
   refine pu (i := 2) (N := some 14) (v := ?_) (a' := ?_) (bs 7 29) rfl rfl HT_ ?_ ?_ ?_
   rotate_left
   ·intro w'
    go_simp
    with_reducible rfl
   rotate_left
   ·simp only [pA, pS, pZ, pK, i64_w, i32_w]
    rfl
   refine pu (i := 3) (N := some 15) (v := ?_) (a' := ?_) (bs 15 29) rfl rfl HT_ ?_ ?_ ?_
   rotate_left
   ·intro w'
    go_simp
    with_reducible rfl
   rotate_left
   ·simp only [pA, pS, pZ, pK, i64_w, i32_w]
    rfl
   refine pu (i := 4) (N := some 16) (v := ?_) (a' := ?_) (bs 31 29) rfl rfl HT_ ?_ ?_ ?_
   rotate_left
   ·intro w'
    go_simp
    with_reducible rfl
   rotate_left
   ·simp only [pA, pS, pZ, pK, i64_w, i32_w]
    rfl
   refine pu (i := 5) (N := some 17) (v := ?_) (a' := ?_) (bs 63 29) rfl rfl HT_ ?_ ?_ ?_
   rotate_left
   ·intro w'
    go_simp
    with_reducible rfl
   rotate_left
   ·simp only [pA, pS, pZ, pK, i64_w, i32_w]
    rfl
   refine pu (i := 6) (N := some 18) (v := ?_) (a' := ?_) (bs 127 29) rfl rfl HT_ ?_ ?_ ?_
   rotate_left
   ·intro w'
    go_simp
    with_reducible rfl
   rotate_left
   ·simp only [pA, pS, pZ, pK, i64_w, i32_w]
    rfl
   refine pu (i := 7) (N := some 19) (v := ?_) (a' := ?_) (bs 255 29) rfl rfl HT_ ?_ ?_ ?_
   rotate_left
   ·intro w'
    go_simp
    with_reducible rfl
   rotate_left
   ·simp only [pA, pS, pZ, pK, i64_w, i32_w]
    rfl
   refine pu (i := 8) (N := some 20) (v := ?_) (a' := ?_) (bs 511 29) rfl rfl HT_ ?_ ?_ ?_
   rotate_left
   ·intro w'
    go_simp
    with_reducible rfl
   rotate_left
   ·simp only [pA, pS, pZ, pK, i64_w, i32_w]
    rfl
   refine pu (i := 9) (N := some 21) (v := ?_) (a' := ?_) (bs 1023 29) rfl rfl HT_ ?_ ?_ ?_
   rotate_left
   ·intro w'
    go_simp
    with_reducible rfl
   rotate_left
   ·simp only [pA, pS, pZ, pK, i64_w, i32_w]
    rfl
   refine pu (i := 10) (N := some 22) (v := ?_) (a' := ?_) (bs 2047 29) rfl rfl HT_ ?_ ?_ ?_
   rotate_left
   ·intro w'
    go_simp
    with_reducible rfl
   rotate_left
   ·simp only [pA, pS, pZ, pK, i64_w, i32_w]
    rfl
   refine pu (i := 11) (N := some 23) (v := ?_) (a' := ?_) (bs 4095 29) rfl rfl HT_ ?_ ?_ ?_
   rotate_left
   ·intro w'
    go_simp
    with_reducible rfl
   rotate_left
   ·simp only [pA, pS, pZ, pK, i64_w, i32_w]
    rfl
   refine pu (i := 13) (N := some 25) (v := ?_) (a' := ?_) (bs 12287 29) rfl rfl HT_ ?_ ?_ ?_
   rotate_left
   ·intro w'
    go_simp
    with_reducible rfl
   rotate_left
   ·simp only [pA, pS, pZ, pK, i64_w, i32_w]
    rfl
   refine tk (i := 12) (N := some 24) (v := ?_) (a' := ?_) (bs 16383 29) rfl rfl HT_ HW_ ?_ hHeld ?_ ?_
   rotate_left
   ·rintro w' ⟨s0, s1, s2, s3, s4, s5, s6, s7, s8, s9, s10, s11, s12, s13, s14⟩
    go_simp
    with_reducible rfl
   rotate_left
   ·simp only [pA, pS, pZ, pK, i64_w, i32_w]
    rfl
   refine tk (i := 14) (N := some 26) (v := ?_) (a' := ?_) (bs 32767 29) rfl rfl HT_ HW_ ?_ hHeld ?_ ?_
   rotate_left
   ·rintro w' ⟨s0, s1, s2, s3, s4, s5, s6, s7, s8, s9, s10, s11, s12, s13, s14⟩
    go_simp
    with_reducible rfl
   rotate_left
   ·simp only [pA, pS, pZ, pK, i64_w, i32_w]
    rfl
   refine pu (i := 15) (N := some 27) (v := ?_) (a' := ?_) (bs 65535 29) rfl rfl HT_ ?_ ?_ ?_
   rotate_left
   ·intro w'
    go_simp
    with_reducible rfl
   rotate_left
   ·simp only [pA, pS, pZ, pK, i64_w, i32_w]
    rfl
   refine pu (i := 16) (N := some 28) (v := ?_) (a' := ?_) (bs 131071 29) rfl rfl HT_ ?_ ?_ ?_
   rotate_left
   ·intro w'
    go_simp
    with_reducible rfl
   rotate_left
   ·simp only [pA, pS, pZ, pK, i64_w, i32_w]
    rfl
   refine pu (i := 17) (N := some 29) (v := ?_) (a' := ?_) (bs 262143 29) rfl rfl HT_ ?_ ?_ ?_
   rotate_left
   ·intro w'
    go_simp
    with_reducible rfl
   rotate_left
   ·simp only [pA, pS, pZ, pK, i64_w, i32_w]
    rfl
   refine pu (i := 18) (N := some 30) (v := ?_) (a' := ?_) (bs 524287 29) rfl rfl HT_ ?_ ?_ ?_
   rotate_left
   ·intro w'
    go_simp
    with_reducible rfl
   rotate_left
   ·simp only [pA, pS, pZ, pK, i64_w, i32_w]
    rfl
   refine pu (i := 19) (N := some 31) (v := ?_) (a' := ?_) (bs 1048575 29) rfl rfl HT_ ?_ ?_ ?_
   rotate_left
   ·intro w'
    go_simp
    with_reducible rfl
   rotate_left
   ·simp only [pA, pS, pZ, pK, i64_w, i32_w]
    rfl
   refine pu (i := 20) (N := some 32) (v := ?_) (a' := ?_) (bs 2097151 29) rfl rfl HT_ ?_ ?_ ?_
   rotate_left
   ·intro w'
    go_simp
    with_reducible rfl
   rotate_left
   ·simp only [pA, pS, pZ, pK, i64_w, i32_w]
    rfl
   refine pu (i := 21) (N := some 33) (v := ?_) (a' := ?_) (bs 4194303 29) rfl rfl HT_ ?_ ?_ ?_
   rotate_left
   ·intro w'
    go_simp
    with_reducible rfl
   rotate_left
   ·simp only [pA, pS, pZ, pK, i64_w, i32_w]
    rfl
   refine pu (i := 23) (N := some 35) (v := ?_) (a' := ?_) (bs 12582911 29) rfl rfl HT_ ?_ ?_ ?_
   rotate_left
   ·intro w'
    go_simp
    with_reducible rfl
   rotate_left
   ·simp only [pA, pS, pZ, pK, i64_w, i32_w]
    rfl
   refine tk (i := 22) (N := some 34) (v := ?_) (a' := ?_) (bs 16777215 29) rfl rfl HT_ HW_ ?_ hHeld ?_ ?_
   rotate_left
   ·rintro w' ⟨s0, s1, s2, s3, s4, s5, s6, s7, s8, s9, s10, s11, s12, s13, s14⟩
    go_simp
    with_reducible rfl
   rotate_left
   ·simp only [pA, pS, pZ, pK, i64_w, i32_w]
    rfl
   refine tk (i := 24) (N := some 36) (v := ?_) (a' := ?_) (bs 33554431 29) rfl rfl HT_ HW_ ?_ hHeld ?_ ?_
   rotate_left
   ·rintro w' ⟨s0, s1, s2, s3, s4, s5, s6, s7, s8, s9, s10, s11, s12, s13, s14⟩
    go_simp
    with_reducible rfl
   rotate_left
   ·simp only [pA, pS, pZ, pK, i64_w, i32_w]
    rfl
   refine pu (i := 25) (N := some 37) (v := ?_) (a' := ?_) (bs 67108863 29) rfl rfl HT_ ?_ ?_ ?_
   rotate_left
   ·intro w'
    go_simp
    with_reducible rfl
   rotate_left
   ·simp only [pA, pS, pZ, pK, i64_w, i32_w]
    rfl
   refine pu (i := 26) (N := some 38) (v := ?_) (a' := ?_) (bs 134217727 29) rfl rfl HT_ ?_ ?_ ?_
   rotate_left
   ·intro w'
    go_simp
    with_reducible rfl
   rotate_left
   ·simp only [pA, pS, pZ, pK, i64_w, i32_w]
    rfl
   refine pu (i := 27) (N := some 39) (v := ?_) (a' := ?_) (bs 268435455 29) rfl rfl HT_ ?_ ?_ ?_
   rotate_left
   ·intro w'
    go_simp
    with_reducible rfl
   rotate_left
   ·simp only [pA, pS, pZ, pK, i64_w, i32_w]
    rfl
   refine pu (i := 28) (N := some 40) (v := ?_) (a' := ?_) (bs 536870911 29) rfl rfl HT_ ?_ ?_ ?_
   rotate_left
   ·intro w'
    go_simp
    with_reducible rfl
   rotate_left
   ·simp only [pA, pS, pZ, pK, i64_w, i32_w]
    rfl
   refine done_ (done_of HT_.out (by kernel_rfl)) ?_
   try go_wp2
   go_ret
   exact ⟨by first | rfl | (simp [errW_none, errW_some] <;> rfl) | (simp only [← hji8]; first | rfl | (simp [errW_none, errW_some] <;> rfl)) | (simp [*, errW_none, errW_some] <;> rfl), BT HB.out⟩

end Go.Proofs.Ytakpkmlbklahhaa.PFnExactInstalledVersions
