-- Printed by a program of mine (wip/myprint.py), which runs the printer of the kit with contracts of mine beside it.
import Derived.Test.YtakpkmlbklahhaaPFnExactWriteCodex0
import Derived.Test.YtakpkmlbklahhaaPFnExactWriteCodex13
namespace Go.Proofs.Ytakpkmlbklahhaa.PFnExactWriteCode
open Go.RowKit Go.Proofs.YtakpkmlbklahhaaW.PrintWords Go.Proofs.YtakpkmlbklahhaaW.PrintLast Go.Proofs.YtakpkmlbklahhaaW.PrintMore
attribute [local go_sem] max2_int min2_int max_two min_two max_three min_three max_four min_four   -- for this text's walks alone
set_option linter.unusedVariables false
set_option linter.unusedSimpArgs false

/-! ### spec_AreLocks: function 134 -/
def spec_AreLocks.l0 : Nat → List (S150) → Int → Option (Bool)
 | 0, _, _ => none
 | k + 1, x0, x3 => if x3 < (x0.length : Int) then (if 0 ≤ x3 then ((spec_l1In.f ((rd_T150 x0 x3).f0) 0 5).bind fun t315 => (if t315 = true then ((spec_l1In.f ((rd_T150 x0 x3).f1) 1 9).bind fun t317 => (if t317 = true then (if x3 > 0 then (if 0 ≤ (wrap64 (x3 - 1)) then (if (wrap64 (x3 - 1)) < (x0.length : Int) then (if ((rd_T150 x0 (wrap64 (x3 - 1))).f0) ≥ ((rd_T150 x0 x3).f0) then (some false) else (spec_AreLocks.l0 k x0 (wrap64 (x3 + 1)))) else (none)) else (none)) else (spec_AreLocks.l0 k x0 (wrap64 (x3 + 1)))) else (some false))) else (some false))) else (none)) else (some true)
def spec_AreLocks.f (k : Nat) (l0 : List (S150)) : Option (Bool) := spec_AreLocks.l0 k l0 0
theorem spec_AreLocks.mono_l : ∀ k, (∀ y0 y1, LeO (spec_AreLocks.l0 k y0 y1) (spec_AreLocks.l0 (k + 1) y0 y1))
 | 0 => fun _ _ r h => by simp [spec_AreLocks.l0] at h
 | k + 1 => by
  have ih0 := spec_AreLocks.mono_l k
  ·intro y0 y1
   unfold spec_AreLocks.l0
   repeat' first
   | (with_reducible exact ih0 _ _)
   | (with_reducible exact LeO.refl _)
   | (with_reducible exact LeO.none _)
   | (with_reducible refine LeO.ite ?_ ?_)
   | (with_reducible refine LeO.bind ?_ (fun _ => ?_))
   | exact ih0 _ _
   | exact LeO.none _
   | refine LeO.ite ?_ ?_
   | refine LeO.bind ?_ (fun _ => ?_)
theorem spec_AreLocks.mono : ∀ a0 k, LeO (spec_AreLocks.f k a0) (spec_AreLocks.f (k + 1) a0) := by
 intro a0 k
 have ih0 := spec_AreLocks.mono_l k
 unfold spec_AreLocks.f
 repeat' first
   | (with_reducible exact ih0 _ _)
   | (with_reducible exact LeO.refl _)
   | (with_reducible exact LeO.none _)
   | (with_reducible refine LeO.ite ?_ ?_)
   | (with_reducible refine LeO.bind ?_ (fun _ => ?_))
   | exact ih0 _ _
   | exact LeO.none _
   | refine LeO.ite ?_ ?_
   | refine LeO.bind ?_ (fun _ => ?_)
def spec_AreLocks.T4 : Bool × List (List Nat × List Nat) := (true, [([], []), ([], []), ([0, 1], [0, 1]), ([2], [2]), ([3], [3]), ([4], [4]), ([5], [5]), ([6, 5], [6]), ([7], [7]), ([7], [7]), ([8, 9, 7], [7, 8, 9]), ([10, 7], [7, 10]), ([11, 7], [7, 11]), ([12, 7, 7], [7, 12]), ([13, 7], [7, 13]), ([7, 14], [7, 14]), ([15, 13], [15]), ([16], [16]), ([17, 16], [16, 17]), ([18, 16, 16], [16, 18]), ([19], [19]), ([19], [19]), ([21, 19], [19, 21]), ([20, 22, 19], [19, 20, 22]), ([23, 19], [19, 23]), ([24, 19], [19, 24]), ([19], [19]), ([19], [19]), ([26, 27, 19], [19, 26, 27]), ([28, 19], [19, 28]), ([29, 19], [19, 29]), ([25, 30, 19], [19, 25, 30]), ([19, 31, 16], [16, 19, 31]), ([16, 32], [16, 32])])
def spec_AreLocks.B4 : List Nat := [0, 0, 3, 7, 15, 31, 63, 127, 255, 255, 1023, 2047, 4095, 8191, 16383, 32767, 65535, 131071, 262143, 524287, 1048575, 1048575, 3145727, 8388607, 16777215, 33554431, 1048575, 1048575, 202375167, 470810623, 1007681535, 2147483647, 4294967295, 8589934591]
theorem spec_AreLocks.tab4 : rtab .any (opsOf Try.f134 4) = spec_AreLocks.T4 := by kernel_rfl
theorem spec_AreLocks.bits4 : waitsOk spec_AreLocks.T4.2 spec_AreLocks.B4 = true := by kernel_rfl
set_option maxHeartbeats 8000000 in
set_option maxRecDepth 100000 in
theorem spec_AreLocks.calls (k : Nat) (A0 : Option Addr) (c0 : Nat) (l0 : List (S150)) (r : Bool) (w : World) (hr0 : Kd.C k150 w A0 l0.length l0) (hc0 : l0.length ≤ c0) (h : spec_AreLocks.f k l0 = some r) :
  Calls Try.prog 134 #[.slice A0 l0.length c0] w fun e w' => e = .returned (.bool r) ∧ Below w.heap.size w w' := by
 have HR0 := AM_ hr0
 have HC0 := AM_ hc0
 clear hr0 hc0
 have HB := AM_ (Below.refl w.heap.size w)
 have H : (spec_AreLocks.l0 k l0 0) = some r := h
 clear h
 have H' := AM_ H
 clear H
 go_enter Try.func134, Try.ntmps134
 go_wp2
 go_loopg [3] k (fun kq v3 w' => ∃ (x3_1 : Int), v3 = .int .i64 x3_1 ∧ Aside0 (spec_AreLocks.l0 kq l0 x3_1 = some r) ∧ Aside0 (kq ≤ k) ∧ Aside0 (Below w.heap.size w w'))
 case atStart => exact ⟨(0), (by first | rfl | (simp; done) | (simp [*]; done)), H', ⟨Nat.le_refl _⟩, ⟨BT HB.out⟩⟩
 case round =>
  clear H'
  try clear c1
  obtain ⟨x3_1, rfl, HA, HK1, HB⟩ := hrel
  cases gk with
  | zero => exact absurd HA.out (by simp [spec_AreLocks.l0])
  | succ k1 =>
   have H := HA.out
   clear HA
   simp only [spec_AreLocks.l0] at H
   by_cases c2 : x3_1 < (l0.length : Int)
   rotate_left
   ·rw [if_neg c2] at H
    have c2b0 : decide (x3_1 < (l0.length : Int)) = false := decide_eq_false c2
    clear c2
    obtain rfl := Option.some.inj H
    go_wp2
    go_ret
    exact QT (BT HB.out)
   rw [if_pos c2] at H
   have c2b0 : decide (x3_1 < (l0.length : Int)) = true := decide_eq_true c2
   clear c2
   by_cases c3 : 0 ≤ x3_1
   rotate_left
   ·rw [if_neg c3] at H
    exact absurd H (by simp)
   rw [if_pos c3] at H
   have c3b0 : decide (0 ≤ x3_1) = true := decide_eq_true c3
   clear c3
   replace H := Option.bind_eq_some_iff.mp H
   obtain ⟨t315, A40, H⟩ := H
   replace H : (if t315 = true then ((spec_l1In.f ((rd_T150 l0 x3_1).f1) 1 9).bind fun t317 => (if t317 = true then (if x3_1 > 0 then (if 0 ≤ (wrap64 (x3_1 - 1)) then (if (wrap64 (x3_1 - 1)) < (l0.length : Int) then (if ((rd_T150 l0 (wrap64 (x3_1 - 1))).f0) ≥ ((rd_T150 l0 x3_1).f0) then (some false) else (spec_AreLocks.l0 k1 l0 (wrap64 (x3_1 + 1)))) else (none)) else (none)) else (spec_AreLocks.l0 k1 l0 (wrap64 (x3_1 + 1)))) else (some false))) else (some false)) = some r := H
   have A4 := AM_ A40
   clear A40
   by_cases c5 : t315 = true
   rotate_left
   ·replace c5 := Bool.eq_false_iff.mpr c5
    subst c5
    have H1 : (some false) = some r := by rw [if_neg (show ¬ (false = true) by decide)] at H; exact H
    clear H
    have H := H1
    clear H1
    obtain rfl := Option.some.inj H
    try go_wp2
    replace HB := AM_ (below_drew1 HB.out)
    have p314 : 0 ≤ (x3_1 : Int) := DT
    have q314 : x3_1 < (l0.length : Int) := DT
    obtain ⟨ad314, e314, hx314_0, hx314_1⟩ := at_T150 HR0.out x3_1 p314 q314
    have hw314_1 := hx314_1
    have hw314_0 := hx314_0
    cases e314
    replace hx314_0 := BC HB.out hx314_0
    replace hx314_1 := BC HB.out hx314_1
    replace p314 := eq_true p314
    replace q314 := eq_true q314
    refine start_ (n := 34) (S := fun w' => w'.cell? (ad314.add ((x3_1).toNat * 2)) = some (.int .i64 ((rd_T150 l0 x3_1).f0)) ∧ w'.cell? ⟨(ad314.add ((x3_1).toNat * 2)).block, (ad314.add ((x3_1).toNat * 2)).off + 1, none⟩ = some (.int .i64 ((rd_T150 l0 x3_1).f1))) (ds := []) (bs 0 34) (by kernel_rfl) rfl rfl ⟨(BD HB.out hw314_0), (BD HB.out hw314_1)⟩ (fun hHeld => ?_); refine with_tabW spec_AreLocks.tab4 spec_AreLocks.bits4 (fun HT_ HW_ => ?_)
    generalize wr.drew = w17 at HB hx314_0 hx314_1 hHeld ⊢
    refine pu (i := 0) (N := some 10) (v := ?_) (a' := ?_) (bs 1 34) rfl rfl HT_ ?_ ?_ ?_
    rotate_left
    ·intro w'
     go_simp
     with_reducible rfl
    rotate_left
    ·simp only [pA, pS, pZ, pK, i64_w, i32_w]
     rfl
    refine pu (i := 1) (N := some 11) (v := ?_) (a' := ?_) (bs 3 34) rfl rfl HT_ ?_ ?_ ?_
    rotate_left
    ·intro w'
     go_simp
     with_reducible rfl
    rotate_left
    ·simp only [pA, pS, pZ, pK, i64_w, i32_w]
     rfl
    refine pu (i := 2) (N := some 12) (v := ?_) (a' := ?_) (bs 7 34) rfl rfl HT_ ?_ ?_ ?_
    rotate_left
    ·intro w'
     go_simp
     with_reducible rfl
    rotate_left
    ·simp only [pA, pS, pZ, pK, i64_w, i32_w]
     rfl
    refine pu (i := 3) (N := some 13) (v := ?_) (a' := ?_) (bs 15 34) rfl rfl HT_ ?_ ?_ ?_
    rotate_left
    ·intro w'
     go_simp
     with_reducible rfl
    rotate_left
    ·simp only [pA, pS, pZ, pK, i64_w, i32_w]
     rfl
    refine tk (i := 4) (N := some 14) (v := ?_) (a' := ?_) (bs 31 34) rfl rfl HT_ HW_ ?_ hHeld ?_ ?_
    rotate_left
    ·rintro w' ⟨s0, s1⟩
     go_simp
     with_reducible rfl
    rotate_left
    ·simp only [pA, pS, pZ, pK, i64_w, i32_w]
     rfl
    refine one_ (i := 5) (N := some 15) (bs 63 34) rfl rfl (one_of HT_.out (by kernel_rfl)) (by decide) (fun K hK => ?_)
    refine goes_ Try.func82 (by kernel_rfl) rfl #[.int .i64 ((rd_T150 l0 x3_1).f0), .int .i64 0, .int .i64 5] (by rfl) rfl rfl (by (try simp only [List.map_toArray, List.map_cons, List.map_nil]); first | done | rfl | (simp only [List.length_drop, List.length_take]; rfl)) ?_
    with_reducible refine (spec_l1In.calls ((rd_T150 l0 x3_1).f0) 0 5 false _ A4.out).mono ?_
    rintro e w' ⟨rfl, ⟨nd, rfl⟩⟩
    refine ⟨_, rfl, ?_⟩
    refine hK.out _ _ ⟨(BD HB.out hw314_0), (BD HB.out hw314_1)⟩ (fun hHeld => ?_)
    clear hK K
    refine norm_ (a' := ?_) ?_ ?_
    rotate_left
    ·show Act.put _ (some 15) _ = _
     simp only [pA, pS, pZ, pK, i64_w, i32_w]
     rfl
    refine pu (i := 6) (N := some 16) (v := ?_) (a' := ?_) (bs 127 34) rfl rfl HT_ ?_ ?_ ?_
    rotate_left
    ·intro w'
     go_simp
     with_reducible rfl
    rotate_left
    ·simp only [pA, pS, pZ, pK, i64_w, i32_w]
     rfl
    refine pu (i := 7) (N := some 17) (v := ?_) (a' := ?_) (bs 255 34) rfl rfl HT_ ?_ ?_ ?_
    rotate_left
    ·intro w'
     go_simp
     with_reducible rfl
    rotate_left
    ·simp only [pA, pS, pZ, pK, i64_w, i32_w]
     rfl
    refine pn (i := 8) (N := some 18) (v := undef) (a' := ?_) (bs 511 34) rfl rfl HT_ ?_ ?_
    rotate_left
    ·simp only [pA, pS, pZ, pK, i64_w, i32_w]
     rfl
    refine pn (i := 9) (N := some 19) (v := undef) (a' := ?_) (bs 1023 34) rfl rfl HT_ ?_ ?_
    rotate_left
    ·simp only [pA, pS, pZ, pK, i64_w, i32_w]
     rfl
    refine pn (i := 10) (N := some 20) (v := undef) (a' := ?_) (bs 2047 34) rfl rfl HT_ ?_ ?_
    rotate_left
    ·simp only [pA, pS, pZ, pK, i64_w, i32_w]
     rfl
    refine pn (i := 11) (N := some 21) (v := undef) (a' := ?_) (bs 4095 34) rfl rfl HT_ ?_ ?_
    rotate_left
    ·simp only [pA, pS, pZ, pK, i64_w, i32_w]
     rfl
    refine pn (i := 12) (N := some 22) (v := undef) (a' := ?_) (bs 8191 34) rfl rfl HT_ ?_ ?_
    rotate_left
    ·simp only [pA, pS, pZ, pK, i64_w, i32_w]
     rfl
    refine pn (i := 13) (N := some 23) (v := undef) (a' := ?_) (bs 16383 34) rfl rfl HT_ ?_ ?_
    rotate_left
    ·simp only [pA, pS, pZ, pK, i64_w, i32_w]
     rfl
    refine pn (i := 14) (N := some 24) (v := undef) (a' := ?_) (bs 32767 34) rfl rfl HT_ ?_ ?_
    rotate_left
    ·simp only [pA, pS, pZ, pK, i64_w, i32_w]
     rfl
    refine pu (i := 15) (N := some 25) (v := ?_) (a' := ?_) (bs 65535 34) rfl rfl HT_ ?_ ?_ ?_
    rotate_left
    ·intro w'
     go_simp
     with_reducible rfl
    rotate_left
    ·simp only [pA, pS, pZ, pK, i64_w, i32_w]
     rfl
    refine pu (i := 16) (N := some 26) (v := ?_) (a' := ?_) (bs 131071 34) rfl rfl HT_ ?_ ?_ ?_
    rotate_left
    ·intro w'
     go_simp
     with_reducible rfl
    rotate_left
    ·simp only [pA, pS, pZ, pK, i64_w, i32_w]
     rfl
    refine pn (i := 17) (N := some 27) (v := undef) (a' := ?_) (bs 262143 34) rfl rfl HT_ ?_ ?_
    rotate_left
    ·simp only [pA, pS, pZ, pK, i64_w, i32_w]
     rfl
    refine pn (i := 18) (N := some 28) (v := undef) (a' := ?_) (bs 524287 34) rfl rfl HT_ ?_ ?_
    rotate_left
    ·simp only [pA, pS, pZ, pK, i64_w, i32_w]
     rfl
    refine pn (i := 19) (N := some 29) (v := undef) (a' := ?_) (bs 1048575 34) rfl rfl HT_ ?_ ?_
    rotate_left
    ·simp only [pA, pS, pZ, pK, i64_w, i32_w]
     rfl
    refine pn (i := 20) (N := some 30) (v := undef) (a' := ?_) (bs 2097151 34) rfl rfl HT_ ?_ ?_
    rotate_left
    ·simp only [pA, pS, pZ, pK, i64_w, i32_w]
     rfl
    refine pn (i := 21) (N := some 31) (v := undef) (a' := ?_) (bs 4194303 34) rfl rfl HT_ ?_ ?_
    rotate_left
    ·simp only [pA, pS, pZ, pK, i64_w, i32_w]
     rfl
    refine pn (i := 22) (N := some 32) (v := undef) (a' := ?_) (bs 8388607 34) rfl rfl HT_ ?_ ?_
    rotate_left
    ·simp only [pA, pS, pZ, pK, i64_w, i32_w]
     rfl
    refine pn (i := 23) (N := some 33) (v := undef) (a' := ?_) (bs 16777215 34) rfl rfl HT_ ?_ ?_
    rotate_left
    ·simp only [pA, pS, pZ, pK, i64_w, i32_w]
     rfl
    refine pn (i := 24) (N := some 34) (v := undef) (a' := ?_) (bs 33554431 34) rfl rfl HT_ ?_ ?_
    rotate_left
    ·simp only [pA, pS, pZ, pK, i64_w, i32_w]
     rfl
    refine pn (i := 25) (N := some 35) (v := undef) (a' := ?_) (bs 67108863 34) rfl rfl HT_ ?_ ?_
    rotate_left
    ·simp only [pA, pS, pZ, pK, i64_w, i32_w]
     rfl
    refine pn (i := 26) (N := some 36) (v := undef) (a' := ?_) (bs 134217727 34) rfl rfl HT_ ?_ ?_
    rotate_left
    ·simp only [pA, pS, pZ, pK, i64_w, i32_w]
     rfl
    refine pn (i := 27) (N := some 37) (v := undef) (a' := ?_) (bs 268435455 34) rfl rfl HT_ ?_ ?_
    rotate_left
    ·simp only [pA, pS, pZ, pK, i64_w, i32_w]
     rfl
    refine pn (i := 28) (N := some 38) (v := undef) (a' := ?_) (bs 536870911 34) rfl rfl HT_ ?_ ?_
    rotate_left
    ·simp only [pA, pS, pZ, pK, i64_w, i32_w]
     rfl
    refine pn (i := 29) (N := some 39) (v := undef) (a' := ?_) (bs 1073741823 34) rfl rfl HT_ ?_ ?_
    rotate_left
    ·simp only [pA, pS, pZ, pK, i64_w, i32_w]
     rfl
    refine pn (i := 30) (N := some 40) (v := undef) (a' := ?_) (bs 2147483647 34) rfl rfl HT_ ?_ ?_
    rotate_left
    ·simp only [pA, pS, pZ, pK, i64_w, i32_w]
     rfl
    refine pn (i := 31) (N := some 41) (v := undef) (a' := ?_) (bs 4294967295 34) rfl rfl HT_ ?_ ?_
    rotate_left
    ·simp only [pA, pS, pZ, pK, i64_w, i32_w]
     rfl
    refine pn (i := 32) (N := some 42) (v := undef) (a' := ?_) (bs 8589934591 34) rfl rfl HT_ ?_ ?_
    rotate_left
    ·simp only [pA, pS, pZ, pK, i64_w, i32_w]
     rfl
    refine pu (i := 33) (N := some 43) (v := ?_) (a' := ?_) (bs 17179869183 34) rfl rfl HT_ ?_ ?_ ?_
    rotate_left
    ·intro w'
     go_simp
     with_reducible rfl
    rotate_left
    ·simp only [pA, pS, pZ, pK, i64_w, i32_w]
     rfl
    refine done_ (done_of HT_.out (by kernel_rfl)) ?_
    try go_wp2
    go_ret
    exact QT (BT HB.out)
   subst c5
   have H1 : ((spec_l1In.f ((rd_T150 l0 x3_1).f1) 1 9).bind fun t317 => (if t317 = true then (if x3_1 > 0 then (if 0 ≤ (wrap64 (x3_1 - 1)) then (if (wrap64 (x3_1 - 1)) < (l0.length : Int) then (if ((rd_T150 l0 (wrap64 (x3_1 - 1))).f0) ≥ ((rd_T150 l0 x3_1).f0) then (some false) else (spec_AreLocks.l0 k1 l0 (wrap64 (x3_1 + 1)))) else (none)) else (none)) else (spec_AreLocks.l0 k1 l0 (wrap64 (x3_1 + 1)))) else (some false))) = some r := by rw [if_pos rfl] at H; exact H
   clear H
   have H := H1
   clear H1
   replace H := Option.bind_eq_some_iff.mp H
   obtain ⟨t317, A60, H⟩ := H
   replace H : (if t317 = true then (if x3_1 > 0 then (if 0 ≤ (wrap64 (x3_1 - 1)) then (if (wrap64 (x3_1 - 1)) < (l0.length : Int) then (if ((rd_T150 l0 (wrap64 (x3_1 - 1))).f0) ≥ ((rd_T150 l0 x3_1).f0) then (some false) else (spec_AreLocks.l0 k1 l0 (wrap64 (x3_1 + 1)))) else (none)) else (none)) else (spec_AreLocks.l0 k1 l0 (wrap64 (x3_1 + 1)))) else (some false)) = some r := H
   have A6 := AM_ A60
   clear A60
   by_cases c7 : t317 = true
   rotate_left
   ·replace c7 := Bool.eq_false_iff.mpr c7
    subst c7
    have H1 : (some false) = some r := by rw [if_neg (show ¬ (false = true) by decide)] at H; exact H
    clear H
    have H := H1
    clear H1
    obtain rfl := Option.some.inj H
    try go_wp2
    replace HB := AM_ (below_drew1 HB.out)
    have p314 : 0 ≤ (x3_1 : Int) := DT
    have q314 : x3_1 < (l0.length : Int) := DT
    obtain ⟨ad314, e314, hx314_0, hx314_1⟩ := at_T150 HR0.out x3_1 p314 q314
    have hw314_1 := hx314_1
    have hw314_0 := hx314_0
    cases e314
    replace hx314_0 := BC HB.out hx314_0
    replace hx314_1 := BC HB.out hx314_1
    replace p314 := eq_true p314
    replace q314 := eq_true q314
    have p316 : 0 ≤ (x3_1 : Int) := DT
    have q316 : x3_1 < (l0.length : Int) := DT
    obtain ⟨ad316, e316, hx316_0, hx316_1⟩ := at_T150 HR0.out x3_1 p316 q316
    have hw316_1 := hx316_1
    have hw316_0 := hx316_0
    obtain rfl : ad314 = ad316 := (by injection e316)
    replace hx316_0 := BC HB.out hx316_0
    replace hx316_1 := BC HB.out hx316_1
    replace p316 := eq_true p316
    replace q316 := eq_true q316
    refine start_ (n := 34) (S := fun w' => w'.cell? (ad314.add ((x3_1).toNat * 2)) = some (.int .i64 ((rd_T150 l0 x3_1).f0)) ∧ w'.cell? ⟨(ad314.add ((x3_1).toNat * 2)).block, (ad314.add ((x3_1).toNat * 2)).off + 1, none⟩ = some (.int .i64 ((rd_T150 l0 x3_1).f1)) ∧ w'.cell? (ad314.add ((x3_1).toNat * 2)) = some (.int .i64 ((rd_T150 l0 x3_1).f0)) ∧ w'.cell? ⟨(ad314.add ((x3_1).toNat * 2)).block, (ad314.add ((x3_1).toNat * 2)).off + 1, none⟩ = some (.int .i64 ((rd_T150 l0 x3_1).f1))) (ds := []) (bs 0 34) (by kernel_rfl) rfl rfl ⟨(BD HB.out hw314_0), (BD HB.out hw314_1), (BD HB.out hw316_0), (BD HB.out hw316_1)⟩ (fun hHeld => ?_); refine with_tabW spec_AreLocks.tab4 spec_AreLocks.bits4 (fun HT_ HW_ => ?_)
    generalize wr.drew = w16 at HB hx314_0 hx314_1 hx316_0 hx316_1 hHeld ⊢
    refine pu (i := 0) (N := some 10) (v := ?_) (a' := ?_) (bs 1 34) rfl rfl HT_ ?_ ?_ ?_
    rotate_left
    ·intro w'
     go_simp
     with_reducible rfl
    rotate_left
    ·simp only [pA, pS, pZ, pK, i64_w, i32_w]
     rfl
    refine pu (i := 1) (N := some 11) (v := ?_) (a' := ?_) (bs 3 34) rfl rfl HT_ ?_ ?_ ?_
    rotate_left
    ·intro w'
     go_simp
     with_reducible rfl
    rotate_left
    ·simp only [pA, pS, pZ, pK, i64_w, i32_w]
     rfl
    refine pu (i := 2) (N := some 12) (v := ?_) (a' := ?_) (bs 7 34) rfl rfl HT_ ?_ ?_ ?_
    rotate_left
    ·intro w'
     go_simp
     with_reducible rfl
    rotate_left
    ·simp only [pA, pS, pZ, pK, i64_w, i32_w]
     rfl
    refine pu (i := 3) (N := some 13) (v := ?_) (a' := ?_) (bs 15 34) rfl rfl HT_ ?_ ?_ ?_
    rotate_left
    ·intro w'
     go_simp
     with_reducible rfl
    rotate_left
    ·simp only [pA, pS, pZ, pK, i64_w, i32_w]
     rfl
    refine tk (i := 4) (N := some 14) (v := ?_) (a' := ?_) (bs 31 34) rfl rfl HT_ HW_ ?_ hHeld ?_ ?_
    rotate_left
    ·rintro w' ⟨s0, s1, s2, s3⟩
     go_simp
     with_reducible rfl
    rotate_left
    ·simp only [pA, pS, pZ, pK, i64_w, i32_w]
     rfl
    refine one_ (i := 5) (N := some 15) (bs 63 34) rfl rfl (one_of HT_.out (by kernel_rfl)) (by decide) (fun K hK => ?_)
    refine goes_ Try.func82 (by kernel_rfl) rfl #[.int .i64 ((rd_T150 l0 x3_1).f0), .int .i64 0, .int .i64 5] (by rfl) rfl rfl (by (try simp only [List.map_toArray, List.map_cons, List.map_nil]); first | done | rfl | (simp only [List.length_drop, List.length_take]; rfl)) ?_
    with_reducible refine (spec_l1In.calls ((rd_T150 l0 x3_1).f0) 0 5 true _ A4.out).mono ?_
    rintro e w' ⟨rfl, ⟨nd, rfl⟩⟩
    refine ⟨_, rfl, ?_⟩
    refine hK.out _ _ ⟨(BD HB.out hw314_0), (BD HB.out hw314_1), (BD HB.out hw316_0), (BD HB.out hw316_1)⟩ (fun hHeld => ?_)
    clear hK K
    refine norm_ (a' := ?_) ?_ ?_
    rotate_left
    ·show Act.put _ (some 15) _ = _
     simp only [pA, pS, pZ, pK, i64_w, i32_w]
     rfl
    refine pu (i := 6) (N := some 16) (v := ?_) (a' := ?_) (bs 127 34) rfl rfl HT_ ?_ ?_ ?_
    rotate_left
    ·intro w'
     go_simp
     with_reducible rfl
    rotate_left
    ·simp only [pA, pS, pZ, pK, i64_w, i32_w]
     rfl
    refine pu (i := 7) (N := some 17) (v := ?_) (a' := ?_) (bs 255 34) rfl rfl HT_ ?_ ?_ ?_
    rotate_left
    ·intro w'
     go_simp
     with_reducible rfl
    rotate_left
    ·simp only [pA, pS, pZ, pK, i64_w, i32_w]
     rfl
    refine pu (i := 8) (N := some 18) (v := ?_) (a' := ?_) (bs 511 34) rfl rfl HT_ ?_ ?_ ?_
    rotate_left
    ·intro w'
     go_simp
     with_reducible rfl
    rotate_left
    ·simp only [pA, pS, pZ, pK, i64_w, i32_w]
     rfl
    refine pu (i := 9) (N := some 19) (v := ?_) (a' := ?_) (bs 1023 34) rfl rfl HT_ ?_ ?_ ?_
    rotate_left
    ·intro w'
     go_simp
     with_reducible rfl
    rotate_left
    ·simp only [pA, pS, pZ, pK, i64_w, i32_w]
     rfl
    refine pu (i := 10) (N := some 20) (v := ?_) (a' := ?_) (bs 2047 34) rfl rfl HT_ ?_ ?_ ?_
    rotate_left
    ·intro w'
     go_simp
     with_reducible rfl
    rotate_left
    ·simp only [pA, pS, pZ, pK, i64_w, i32_w]
     rfl
    refine pu (i := 11) (N := some 21) (v := ?_) (a' := ?_) (bs 4095 34) rfl rfl HT_ ?_ ?_ ?_
    rotate_left
    ·intro w'
     go_simp
     with_reducible rfl
    rotate_left
    ·simp only [pA, pS, pZ, pK, i64_w, i32_w]
     rfl
    refine tk (i := 12) (N := some 22) (v := ?_) (a' := ?_) (bs 8191 34) rfl rfl HT_ HW_ ?_ hHeld ?_ ?_
    rotate_left
    ·rintro w' ⟨s0, s1, s2, s3⟩
     go_simp
     with_reducible rfl
    rotate_left
    ·simp only [pA, pS, pZ, pK, i64_w, i32_w]
     rfl
    refine one_ (i := 13) (N := some 23) (bs 16383 34) rfl rfl (one_of HT_.out (by kernel_rfl)) (by decide) (fun K hK => ?_)
    refine goes_ Try.func82 (by kernel_rfl) rfl #[.int .i64 ((rd_T150 l0 x3_1).f1), .int .i64 1, .int .i64 9] (by rfl) rfl rfl (by (try simp only [List.map_toArray, List.map_cons, List.map_nil]); first | done | rfl | (simp only [List.length_drop, List.length_take]; rfl)) ?_
    with_reducible refine (spec_l1In.calls ((rd_T150 l0 x3_1).f1) 1 9 false _ A6.out).mono ?_
    rintro e w' ⟨rfl, ⟨nd, rfl⟩⟩
    refine ⟨_, rfl, ?_⟩
    refine hK.out _ _ ⟨(BD HB.out hw314_0), (BD HB.out hw314_1), (BD HB.out hw316_0), (BD HB.out hw316_1)⟩ (fun hHeld => ?_)
    clear hK K
    refine norm_ (a' := ?_) ?_ ?_
    rotate_left
    ·show Act.put _ (some 23) _ = _
     simp only [pA, pS, pZ, pK, i64_w, i32_w]
     rfl
    refine pu (i := 14) (N := some 24) (v := ?_) (a' := ?_) (bs 32767 34) rfl rfl HT_ ?_ ?_ ?_
    rotate_left
    ·intro w'
     go_simp
     with_reducible rfl
    rotate_left
    ·simp only [pA, pS, pZ, pK, i64_w, i32_w]
     rfl
    refine pu (i := 15) (N := some 25) (v := ?_) (a' := ?_) (bs 65535 34) rfl rfl HT_ ?_ ?_ ?_
    rotate_left
    ·intro w'
     go_simp
     with_reducible rfl
    rotate_left
    ·simp only [pA, pS, pZ, pK, i64_w, i32_w]
     rfl
    refine pu (i := 16) (N := some 26) (v := ?_) (a' := ?_) (bs 131071 34) rfl rfl HT_ ?_ ?_ ?_
    rotate_left
    ·intro w'
     go_simp
     with_reducible rfl
    rotate_left
    ·simp only [pA, pS, pZ, pK, i64_w, i32_w]
     rfl
    refine pn (i := 17) (N := some 27) (v := undef) (a' := ?_) (bs 262143 34) rfl rfl HT_ ?_ ?_
    rotate_left
    ·simp only [pA, pS, pZ, pK, i64_w, i32_w]
     rfl
    refine pn (i := 18) (N := some 28) (v := undef) (a' := ?_) (bs 524287 34) rfl rfl HT_ ?_ ?_
    rotate_left
    ·simp only [pA, pS, pZ, pK, i64_w, i32_w]
     rfl
    refine pn (i := 19) (N := some 29) (v := undef) (a' := ?_) (bs 1048575 34) rfl rfl HT_ ?_ ?_
    rotate_left
    ·simp only [pA, pS, pZ, pK, i64_w, i32_w]
     rfl
    refine pn (i := 20) (N := some 30) (v := undef) (a' := ?_) (bs 2097151 34) rfl rfl HT_ ?_ ?_
    rotate_left
    ·simp only [pA, pS, pZ, pK, i64_w, i32_w]
     rfl
    refine pn (i := 21) (N := some 31) (v := undef) (a' := ?_) (bs 4194303 34) rfl rfl HT_ ?_ ?_
    rotate_left
    ·simp only [pA, pS, pZ, pK, i64_w, i32_w]
     rfl
    refine pn (i := 22) (N := some 32) (v := undef) (a' := ?_) (bs 8388607 34) rfl rfl HT_ ?_ ?_
    rotate_left
    ·simp only [pA, pS, pZ, pK, i64_w, i32_w]
     rfl
    refine pn (i := 23) (N := some 33) (v := undef) (a' := ?_) (bs 16777215 34) rfl rfl HT_ ?_ ?_
    rotate_left
    ·simp only [pA, pS, pZ, pK, i64_w, i32_w]
     rfl
    refine pn (i := 24) (N := some 34) (v := undef) (a' := ?_) (bs 33554431 34) rfl rfl HT_ ?_ ?_
    rotate_left
    ·simp only [pA, pS, pZ, pK, i64_w, i32_w]
     rfl
    refine pn (i := 25) (N := some 35) (v := undef) (a' := ?_) (bs 67108863 34) rfl rfl HT_ ?_ ?_
    rotate_left
    ·simp only [pA, pS, pZ, pK, i64_w, i32_w]
     rfl
    refine pn (i := 26) (N := some 36) (v := undef) (a' := ?_) (bs 134217727 34) rfl rfl HT_ ?_ ?_
    rotate_left
    ·simp only [pA, pS, pZ, pK, i64_w, i32_w]
     rfl
    refine pn (i := 27) (N := some 37) (v := undef) (a' := ?_) (bs 268435455 34) rfl rfl HT_ ?_ ?_
    rotate_left
    ·simp only [pA, pS, pZ, pK, i64_w, i32_w]
     rfl
    refine pn (i := 28) (N := some 38) (v := undef) (a' := ?_) (bs 536870911 34) rfl rfl HT_ ?_ ?_
    rotate_left
    ·simp only [pA, pS, pZ, pK, i64_w, i32_w]
     rfl
    refine pn (i := 29) (N := some 39) (v := undef) (a' := ?_) (bs 1073741823 34) rfl rfl HT_ ?_ ?_
    rotate_left
    ·simp only [pA, pS, pZ, pK, i64_w, i32_w]
     rfl
    refine pn (i := 30) (N := some 40) (v := undef) (a' := ?_) (bs 2147483647 34) rfl rfl HT_ ?_ ?_
    rotate_left
    ·simp only [pA, pS, pZ, pK, i64_w, i32_w]
     rfl
    refine pn (i := 31) (N := some 41) (v := undef) (a' := ?_) (bs 4294967295 34) rfl rfl HT_ ?_ ?_
    rotate_left
    ·simp only [pA, pS, pZ, pK, i64_w, i32_w]
     rfl
    refine pn (i := 32) (N := some 42) (v := undef) (a' := ?_) (bs 8589934591 34) rfl rfl HT_ ?_ ?_
    rotate_left
    ·simp only [pA, pS, pZ, pK, i64_w, i32_w]
     rfl
    refine pu (i := 33) (N := some 43) (v := ?_) (a' := ?_) (bs 17179869183 34) rfl rfl HT_ ?_ ?_ ?_
    rotate_left
    ·intro w'
     go_simp
     with_reducible rfl
    rotate_left
    ·simp only [pA, pS, pZ, pK, i64_w, i32_w]
     rfl
    refine done_ (done_of HT_.out (by kernel_rfl)) ?_
    try go_wp2
    go_ret
    exact QT (BT HB.out)
   subst c7
   have H1 : (if x3_1 > 0 then (if 0 ≤ (wrap64 (x3_1 - 1)) then (if (wrap64 (x3_1 - 1)) < (l0.length : Int) then (if ((rd_T150 l0 (wrap64 (x3_1 - 1))).f0) ≥ ((rd_T150 l0 x3_1).f0) then (some false) else (spec_AreLocks.l0 k1 l0 (wrap64 (x3_1 + 1)))) else (none)) else (none)) else (spec_AreLocks.l0 k1 l0 (wrap64 (x3_1 + 1)))) = some r := by rw [if_pos rfl] at H; exact H
   clear H
   have H := H1
   clear H1
   by_cases c8 : x3_1 > 0
   rotate_left
   ·rw [if_neg c8] at H
    have c8b0 : decide (0 < x3_1) = false := decide_eq_false c8
    clear c8
    have H' := AM_ H
    clear H
    try go_wp2
    replace HB := AM_ (below_drew1 HB.out)
    have p314 : 0 ≤ (x3_1 : Int) := DT
    have q314 : x3_1 < (l0.length : Int) := DT
    obtain ⟨ad314, e314, hx314_0, hx314_1⟩ := at_T150 HR0.out x3_1 p314 q314
    have hw314_1 := hx314_1
    have hw314_0 := hx314_0
    cases e314
    replace hx314_0 := BC HB.out hx314_0
    replace hx314_1 := BC HB.out hx314_1
    replace p314 := eq_true p314
    replace q314 := eq_true q314
    have p316 : 0 ≤ (x3_1 : Int) := DT
    have q316 : x3_1 < (l0.length : Int) := DT
    obtain ⟨ad316, e316, hx316_0, hx316_1⟩ := at_T150 HR0.out x3_1 p316 q316
    have hw316_1 := hx316_1
    have hw316_0 := hx316_0
    obtain rfl : ad314 = ad316 := (by injection e316)
    replace hx316_0 := BC HB.out hx316_0
    replace hx316_1 := BC HB.out hx316_1
    replace p316 := eq_true p316
    replace q316 := eq_true q316
    refine start_ (n := 34) (S := fun w' => w'.cell? (ad314.add ((x3_1).toNat * 2)) = some (.int .i64 ((rd_T150 l0 x3_1).f0)) ∧ w'.cell? ⟨(ad314.add ((x3_1).toNat * 2)).block, (ad314.add ((x3_1).toNat * 2)).off + 1, none⟩ = some (.int .i64 ((rd_T150 l0 x3_1).f1)) ∧ w'.cell? (ad314.add ((x3_1).toNat * 2)) = some (.int .i64 ((rd_T150 l0 x3_1).f0)) ∧ w'.cell? ⟨(ad314.add ((x3_1).toNat * 2)).block, (ad314.add ((x3_1).toNat * 2)).off + 1, none⟩ = some (.int .i64 ((rd_T150 l0 x3_1).f1))) (ds := []) (bs 0 34) (by kernel_rfl) rfl rfl ⟨(BD HB.out hw314_0), (BD HB.out hw314_1), (BD HB.out hw316_0), (BD HB.out hw316_1)⟩ (fun hHeld => ?_); refine with_tabW spec_AreLocks.tab4 spec_AreLocks.bits4 (fun HT_ HW_ => ?_)
    generalize wr.drew = w15 at HB hx314_0 hx314_1 hx316_0 hx316_1 hHeld ⊢
    refine pu (i := 0) (N := some 10) (v := ?_) (a' := ?_) (bs 1 34) rfl rfl HT_ ?_ ?_ ?_
    rotate_left
    ·intro w'
     go_simp
     with_reducible rfl
    rotate_left
    ·simp only [pA, pS, pZ, pK, i64_w, i32_w]
     rfl
    refine pu (i := 1) (N := some 11) (v := ?_) (a' := ?_) (bs 3 34) rfl rfl HT_ ?_ ?_ ?_
    rotate_left
    ·intro w'
     go_simp
     with_reducible rfl
    rotate_left
    ·simp only [pA, pS, pZ, pK, i64_w, i32_w]
     rfl
    refine pu (i := 2) (N := some 12) (v := ?_) (a' := ?_) (bs 7 34) rfl rfl HT_ ?_ ?_ ?_
    rotate_left
    ·intro w'
     go_simp
     with_reducible rfl
    rotate_left
    ·simp only [pA, pS, pZ, pK, i64_w, i32_w]
     rfl
    refine pu (i := 3) (N := some 13) (v := ?_) (a' := ?_) (bs 15 34) rfl rfl HT_ ?_ ?_ ?_
    rotate_left
    ·intro w'
     go_simp
     with_reducible rfl
    rotate_left
    ·simp only [pA, pS, pZ, pK, i64_w, i32_w]
     rfl
    refine tk (i := 4) (N := some 14) (v := ?_) (a' := ?_) (bs 31 34) rfl rfl HT_ HW_ ?_ hHeld ?_ ?_
    rotate_left
    ·rintro w' ⟨s0, s1, s2, s3⟩
     go_simp
     with_reducible rfl
    rotate_left
    ·simp only [pA, pS, pZ, pK, i64_w, i32_w]
     rfl
    refine one_ (i := 5) (N := some 15) (bs 63 34) rfl rfl (one_of HT_.out (by kernel_rfl)) (by decide) (fun K hK => ?_)
    refine goes_ Try.func82 (by kernel_rfl) rfl #[.int .i64 ((rd_T150 l0 x3_1).f0), .int .i64 0, .int .i64 5] (by rfl) rfl rfl (by (try simp only [List.map_toArray, List.map_cons, List.map_nil]); first | done | rfl | (simp only [List.length_drop, List.length_take]; rfl)) ?_
    with_reducible refine (spec_l1In.calls ((rd_T150 l0 x3_1).f0) 0 5 true _ A4.out).mono ?_
    rintro e w' ⟨rfl, ⟨nd, rfl⟩⟩
    refine ⟨_, rfl, ?_⟩
    refine hK.out _ _ ⟨(BD HB.out hw314_0), (BD HB.out hw314_1), (BD HB.out hw316_0), (BD HB.out hw316_1)⟩ (fun hHeld => ?_)
    clear hK K
    refine norm_ (a' := ?_) ?_ ?_
    rotate_left
    ·show Act.put _ (some 15) _ = _
     simp only [pA, pS, pZ, pK, i64_w, i32_w]
     rfl
    refine pu (i := 6) (N := some 16) (v := ?_) (a' := ?_) (bs 127 34) rfl rfl HT_ ?_ ?_ ?_
    rotate_left
    ·intro w'
     go_simp
     with_reducible rfl
    rotate_left
    ·simp only [pA, pS, pZ, pK, i64_w, i32_w]
     rfl
    refine pu (i := 7) (N := some 17) (v := ?_) (a' := ?_) (bs 255 34) rfl rfl HT_ ?_ ?_ ?_
    rotate_left
    ·intro w'
     go_simp
     with_reducible rfl
    rotate_left
    ·simp only [pA, pS, pZ, pK, i64_w, i32_w]
     rfl
    refine pu (i := 8) (N := some 18) (v := ?_) (a' := ?_) (bs 511 34) rfl rfl HT_ ?_ ?_ ?_
    rotate_left
    ·intro w'
     go_simp
     with_reducible rfl
    rotate_left
    ·simp only [pA, pS, pZ, pK, i64_w, i32_w]
     rfl
    refine pu (i := 9) (N := some 19) (v := ?_) (a' := ?_) (bs 1023 34) rfl rfl HT_ ?_ ?_ ?_
    rotate_left
    ·intro w'
     go_simp
     with_reducible rfl
    rotate_left
    ·simp only [pA, pS, pZ, pK, i64_w, i32_w]
     rfl
    refine pu (i := 10) (N := some 20) (v := ?_) (a' := ?_) (bs 2047 34) rfl rfl HT_ ?_ ?_ ?_
    rotate_left
    ·intro w'
     go_simp
     with_reducible rfl
    rotate_left
    ·simp only [pA, pS, pZ, pK, i64_w, i32_w]
     rfl
    refine pu (i := 11) (N := some 21) (v := ?_) (a' := ?_) (bs 4095 34) rfl rfl HT_ ?_ ?_ ?_
    rotate_left
    ·intro w'
     go_simp
     with_reducible rfl
    rotate_left
    ·simp only [pA, pS, pZ, pK, i64_w, i32_w]
     rfl
    refine tk (i := 12) (N := some 22) (v := ?_) (a' := ?_) (bs 8191 34) rfl rfl HT_ HW_ ?_ hHeld ?_ ?_
    rotate_left
    ·rintro w' ⟨s0, s1, s2, s3⟩
     go_simp
     with_reducible rfl
    rotate_left
    ·simp only [pA, pS, pZ, pK, i64_w, i32_w]
     rfl
    refine one_ (i := 13) (N := some 23) (bs 16383 34) rfl rfl (one_of HT_.out (by kernel_rfl)) (by decide) (fun K hK => ?_)
    refine goes_ Try.func82 (by kernel_rfl) rfl #[.int .i64 ((rd_T150 l0 x3_1).f1), .int .i64 1, .int .i64 9] (by rfl) rfl rfl (by (try simp only [List.map_toArray, List.map_cons, List.map_nil]); first | done | rfl | (simp only [List.length_drop, List.length_take]; rfl)) ?_
    with_reducible refine (spec_l1In.calls ((rd_T150 l0 x3_1).f1) 1 9 true _ A6.out).mono ?_
    rintro e w' ⟨rfl, ⟨nd, rfl⟩⟩
    refine ⟨_, rfl, ?_⟩
    refine hK.out _ _ ⟨(BD HB.out hw314_0), (BD HB.out hw314_1), (BD HB.out hw316_0), (BD HB.out hw316_1)⟩ (fun hHeld => ?_)
    clear hK K
    refine norm_ (a' := ?_) ?_ ?_
    rotate_left
    ·show Act.put _ (some 23) _ = _
     simp only [pA, pS, pZ, pK, i64_w, i32_w]
     rfl
    refine pu (i := 14) (N := some 24) (v := ?_) (a' := ?_) (bs 32767 34) rfl rfl HT_ ?_ ?_ ?_
    rotate_left
    ·intro w'
     go_simp
     with_reducible rfl
    rotate_left
    ·simp only [pA, pS, pZ, pK, i64_w, i32_w]
     rfl
    refine pu (i := 15) (N := some 25) (v := ?_) (a' := ?_) (bs 65535 34) rfl rfl HT_ ?_ ?_ ?_
    rotate_left
    ·intro w'
     go_simp
     with_reducible rfl
    rotate_left
    ·simp only [pA, pS, pZ, pK, i64_w, i32_w]
     rfl
    refine pu (i := 16) (N := some 26) (v := ?_) (a' := ?_) (bs 131071 34) rfl rfl HT_ ?_ ?_ ?_
    rotate_left
    ·intro w'
     go_simp
     with_reducible rfl
    rotate_left
    ·simp only [pA, pS, pZ, pK, i64_w, i32_w]
     rfl
    refine pu (i := 17) (N := some 27) (v := ?_) (a' := ?_) (bs 262143 34) rfl rfl HT_ ?_ ?_ ?_
    rotate_left
    ·intro w'
     go_simp
     with_reducible rfl
    rotate_left
    ·simp only [pA, pS, pZ, pK, i64_w, i32_w]
     rfl
    refine pu (i := 18) (N := some 28) (v := ?_) (a' := ?_) (bs 524287 34) rfl rfl HT_ ?_ ?_ ?_
    rotate_left
    ·intro w'
     go_simp
     with_reducible rfl
    rotate_left
    ·simp only [pA, pS, pZ, pK, i64_w, i32_w]
     rfl
    refine pu (i := 19) (N := some 29) (v := ?_) (a' := ?_) (bs 1048575 34) rfl rfl HT_ ?_ ?_ ?_
    rotate_left
    ·intro w'
     go_simp
     with_reducible rfl
    rotate_left
    ·simp only [pA, pS, pZ, pK, i64_w, i32_w]
     rfl
    refine pn (i := 20) (N := some 30) (v := undef) (a' := ?_) (bs 2097151 34) rfl rfl HT_ ?_ ?_
    rotate_left
    ·simp only [pA, pS, pZ, pK, i64_w, i32_w]
     rfl
    refine pn (i := 21) (N := some 31) (v := undef) (a' := ?_) (bs 4194303 34) rfl rfl HT_ ?_ ?_
    rotate_left
    ·simp only [pA, pS, pZ, pK, i64_w, i32_w]
     rfl
    refine pn (i := 22) (N := some 32) (v := undef) (a' := ?_) (bs 8388607 34) rfl rfl HT_ ?_ ?_
    rotate_left
    ·simp only [pA, pS, pZ, pK, i64_w, i32_w]
     rfl
    refine pn (i := 23) (N := some 33) (v := undef) (a' := ?_) (bs 16777215 34) rfl rfl HT_ ?_ ?_
    rotate_left
    ·simp only [pA, pS, pZ, pK, i64_w, i32_w]
     rfl
    refine pn (i := 24) (N := some 34) (v := undef) (a' := ?_) (bs 33554431 34) rfl rfl HT_ ?_ ?_
    rotate_left
    ·simp only [pA, pS, pZ, pK, i64_w, i32_w]
     rfl
    refine pn (i := 25) (N := some 35) (v := undef) (a' := ?_) (bs 67108863 34) rfl rfl HT_ ?_ ?_
    rotate_left
    ·simp only [pA, pS, pZ, pK, i64_w, i32_w]
     rfl
    refine pn (i := 26) (N := some 36) (v := undef) (a' := ?_) (bs 134217727 34) rfl rfl HT_ ?_ ?_
    rotate_left
    ·simp only [pA, pS, pZ, pK, i64_w, i32_w]
     rfl
    refine pn (i := 27) (N := some 37) (v := undef) (a' := ?_) (bs 268435455 34) rfl rfl HT_ ?_ ?_
    rotate_left
    ·simp only [pA, pS, pZ, pK, i64_w, i32_w]
     rfl
    refine pn (i := 28) (N := some 38) (v := undef) (a' := ?_) (bs 536870911 34) rfl rfl HT_ ?_ ?_
    rotate_left
    ·simp only [pA, pS, pZ, pK, i64_w, i32_w]
     rfl
    refine pn (i := 29) (N := some 39) (v := undef) (a' := ?_) (bs 1073741823 34) rfl rfl HT_ ?_ ?_
    rotate_left
    ·simp only [pA, pS, pZ, pK, i64_w, i32_w]
     rfl
    refine pn (i := 30) (N := some 40) (v := undef) (a' := ?_) (bs 2147483647 34) rfl rfl HT_ ?_ ?_
    rotate_left
    ·simp only [pA, pS, pZ, pK, i64_w, i32_w]
     rfl
    refine pn (i := 31) (N := some 41) (v := undef) (a' := ?_) (bs 4294967295 34) rfl rfl HT_ ?_ ?_
    rotate_left
    ·simp only [pA, pS, pZ, pK, i64_w, i32_w]
     rfl
    refine pu (i := 32) (N := some 42) (v := ?_) (a' := ?_) (bs 8589934591 34) rfl rfl HT_ ?_ ?_ ?_
    rotate_left
    ·intro w'
     go_simp
     with_reducible rfl
    rotate_left
    ·simp only [pA, pS, pZ, pK, i64_w, i32_w]
     rfl
    refine pu (i := 33) (N := some 43) (v := ?_) (a' := ?_) (bs 17179869183 34) rfl rfl HT_ ?_ ?_ ?_
    rotate_left
    ·intro w'
     go_simp
     with_reducible rfl
    rotate_left
    ·simp only [pA, pS, pZ, pK, i64_w, i32_w]
     rfl
    refine done_ (done_of HT_.out (by kernel_rfl)) ?_
    try go_wp2
    go_roundg k1
    case measure => have := HK1.out; omega
    case rel => exact ⟨(wrap64 (x3_1 + 1)), (by first | rfl | (simp; done) | (simp [*]; done)), H', ⟨by have := HK1.out; omega⟩, ⟨BT HB.out⟩⟩
   rw [if_pos c8] at H
   have c8b0 : decide (0 < x3_1) = true := decide_eq_true c8
   clear c8
   obtain ⟨ji9, hji9⟩ : ∃ j_ : Int, (wrap64 (x3_1 - 1)) = j_ := ⟨_, rfl⟩
   replace H : (if 0 ≤ (ji9) then (if (ji9) < (l0.length : Int) then (if ((rd_T150 l0 (ji9)).f0) ≥ ((rd_T150 l0 x3_1).f0) then (some false) else (spec_AreLocks.l0 k1 l0 (wrap64 (x3_1 + 1)))) else (none)) else (none)) = some r := by first | (rw [hji9] at H; exact H) | (simp only [hji9] at H ⊢; exact H)
   (try rw [hji9] at A4)
   (try rw [hji9] at A6)
   have hji9w : (IntKind.i64.wrap (x3_1 - 1)) = ji9 := (i64_w _).trans hji9
   by_cases c10 : 0 ≤ (ji9)
   rotate_left
   ·rw [if_neg c10] at H
    exact absurd H (by simp)
   rw [if_pos c10] at H
   have c10b0 : decide (0 ≤ (ji9)) = true := decide_eq_true c10
   clear c10
   by_cases c11 : (ji9) < (l0.length : Int)
   rotate_left
   ·rw [if_neg c11] at H
    exact absurd H (by simp)
   rw [if_pos c11] at H
   have c11b0 : decide ((ji9) < (l0.length : Int)) = true := decide_eq_true c11
   clear c11
   by_cases c12 : ((rd_T150 l0 (ji9)).f0) ≥ ((rd_T150 l0 x3_1).f0)
   rotate_left
   ·rw [if_neg c12] at H
    have c12b0 : decide (((rd_T150 l0 x3_1).f0) ≤ ((rd_T150 l0 (ji9)).f0)) = false := decide_eq_false c12
    clear c12
    have H' := AM_ H
    clear H
    try go_wp2
    replace HB := AM_ (below_drew1 HB.out)
    have p314 : 0 ≤ (x3_1 : Int) := DT
    have q314 : x3_1 < (l0.length : Int) := DT
    obtain ⟨ad314, e314, hx314_0, hx314_1⟩ := at_T150 HR0.out x3_1 p314 q314
    have hw314_1 := hx314_1
    have hw314_0 := hx314_0
    cases e314
    replace hx314_0 := BC HB.out hx314_0
    replace hx314_1 := BC HB.out hx314_1
    replace p314 := eq_true p314
    replace q314 := eq_true q314
    have p316 : 0 ≤ (x3_1 : Int) := DT
    have q316 : x3_1 < (l0.length : Int) := DT
    obtain ⟨ad316, e316, hx316_0, hx316_1⟩ := at_T150 HR0.out x3_1 p316 q316
    have hw316_1 := hx316_1
    have hw316_0 := hx316_0
    obtain rfl : ad314 = ad316 := (by injection e316)
    replace hx316_0 := BC HB.out hx316_0
    replace hx316_1 := BC HB.out hx316_1
    replace p316 := eq_true p316
    replace q316 := eq_true q316
    have p318 : 0 ≤ ((ji9) : Int) := DT
    have q318 : (ji9) < (l0.length : Int) := DT
    obtain ⟨ad318, e318, hx318_0, hx318_1⟩ := at_T150 HR0.out (ji9) p318 q318
    have hw318_1 := hx318_1
    have hw318_0 := hx318_0
    obtain rfl : ad314 = ad318 := (by injection e318)
    replace hx318_0 := BC HB.out hx318_0
    replace hx318_1 := BC HB.out hx318_1
    replace p318 := eq_true p318
    replace q318 := eq_true q318
    have p319 : 0 ≤ (x3_1 : Int) := DT
    have q319 : x3_1 < (l0.length : Int) := DT
    obtain ⟨ad319, e319, hx319_0, hx319_1⟩ := at_T150 HR0.out x3_1 p319 q319
    have hw319_1 := hx319_1
    have hw319_0 := hx319_0
    obtain rfl : ad314 = ad319 := (by injection e319)
    replace hx319_0 := BC HB.out hx319_0
    replace hx319_1 := BC HB.out hx319_1
    replace p319 := eq_true p319
    replace q319 := eq_true q319
    refine start_ (n := 34) (S := fun w' => w'.cell? (ad314.add ((x3_1).toNat * 2)) = some (.int .i64 ((rd_T150 l0 x3_1).f0)) ∧ w'.cell? ⟨(ad314.add ((x3_1).toNat * 2)).block, (ad314.add ((x3_1).toNat * 2)).off + 1, none⟩ = some (.int .i64 ((rd_T150 l0 x3_1).f1)) ∧ w'.cell? (ad314.add ((x3_1).toNat * 2)) = some (.int .i64 ((rd_T150 l0 x3_1).f0)) ∧ w'.cell? ⟨(ad314.add ((x3_1).toNat * 2)).block, (ad314.add ((x3_1).toNat * 2)).off + 1, none⟩ = some (.int .i64 ((rd_T150 l0 x3_1).f1)) ∧ w'.cell? (ad314.add (((ji9)).toNat * 2)) = some (.int .i64 ((rd_T150 l0 (ji9)).f0)) ∧ w'.cell? ⟨(ad314.add (((ji9)).toNat * 2)).block, (ad314.add (((ji9)).toNat * 2)).off + 1, none⟩ = some (.int .i64 ((rd_T150 l0 (ji9)).f1)) ∧ w'.cell? (ad314.add ((x3_1).toNat * 2)) = some (.int .i64 ((rd_T150 l0 x3_1).f0)) ∧ w'.cell? ⟨(ad314.add ((x3_1).toNat * 2)).block, (ad314.add ((x3_1).toNat * 2)).off + 1, none⟩ = some (.int .i64 ((rd_T150 l0 x3_1).f1))) (ds := []) (bs 0 34) (by kernel_rfl) rfl rfl ⟨(BD HB.out hw314_0), (BD HB.out hw314_1), (BD HB.out hw316_0), (BD HB.out hw316_1), (BD HB.out hw318_0), (BD HB.out hw318_1), (BD HB.out hw319_0), (BD HB.out hw319_1)⟩ (fun hHeld => ?_); refine with_tabW spec_AreLocks.tab4 spec_AreLocks.bits4 (fun HT_ HW_ => ?_)
    generalize wr.drew = w14 at HB hx314_0 hx314_1 hx316_0 hx316_1 hx318_0 hx318_1 hx319_0 hx319_1 hHeld ⊢
    refine pu (i := 0) (N := some 10) (v := ?_) (a' := ?_) (bs 1 34) rfl rfl HT_ ?_ ?_ ?_
    rotate_left
    ·intro w'
     go_simp
     with_reducible rfl
    rotate_left
    ·simp only [pA, pS, pZ, pK, i64_w, i32_w]
     rfl
    refine pu (i := 1) (N := some 11) (v := ?_) (a' := ?_) (bs 3 34) rfl rfl HT_ ?_ ?_ ?_
    rotate_left
    ·intro w'
     go_simp
     with_reducible rfl
    rotate_left
    ·simp only [pA, pS, pZ, pK, i64_w, i32_w]
     rfl
    refine pu (i := 2) (N := some 12) (v := ?_) (a' := ?_) (bs 7 34) rfl rfl HT_ ?_ ?_ ?_
    rotate_left
    ·intro w'
     go_simp
     with_reducible rfl
    rotate_left
    ·simp only [pA, pS, pZ, pK, i64_w, i32_w]
     rfl
    refine pu (i := 3) (N := some 13) (v := ?_) (a' := ?_) (bs 15 34) rfl rfl HT_ ?_ ?_ ?_
    rotate_left
    ·intro w'
     go_simp
     with_reducible rfl
    rotate_left
    ·simp only [pA, pS, pZ, pK, i64_w, i32_w]
     rfl
    refine tk (i := 4) (N := some 14) (v := ?_) (a' := ?_) (bs 31 34) rfl rfl HT_ HW_ ?_ hHeld ?_ ?_
    rotate_left
    ·rintro w' ⟨s0, s1, s2, s3, s4, s5, s6, s7⟩
     go_simp
     with_reducible rfl
    rotate_left
    ·simp only [pA, pS, pZ, pK, i64_w, i32_w]
     rfl
    refine one_ (i := 5) (N := some 15) (bs 63 34) rfl rfl (one_of HT_.out (by kernel_rfl)) (by decide) (fun K hK => ?_)
    refine goes_ Try.func82 (by kernel_rfl) rfl #[.int .i64 ((rd_T150 l0 x3_1).f0), .int .i64 0, .int .i64 5] (by rfl) rfl rfl (by (try simp only [List.map_toArray, List.map_cons, List.map_nil]); first | done | rfl | (simp only [List.length_drop, List.length_take]; rfl)) ?_
    with_reducible refine (spec_l1In.calls ((rd_T150 l0 x3_1).f0) 0 5 true _ A4.out).mono ?_
    rintro e w' ⟨rfl, ⟨nd, rfl⟩⟩
    refine ⟨_, rfl, ?_⟩
    refine hK.out _ _ ⟨(BD HB.out hw314_0), (BD HB.out hw314_1), (BD HB.out hw316_0), (BD HB.out hw316_1), (BD HB.out hw318_0), (BD HB.out hw318_1), (BD HB.out hw319_0), (BD HB.out hw319_1)⟩ (fun hHeld => ?_)
    clear hK K
    refine norm_ (a' := ?_) ?_ ?_
    rotate_left
    ·show Act.put _ (some 15) _ = _
     simp only [pA, pS, pZ, pK, i64_w, i32_w]
     rfl
    refine pu (i := 6) (N := some 16) (v := ?_) (a' := ?_) (bs 127 34) rfl rfl HT_ ?_ ?_ ?_
    rotate_left
    ·intro w'
     go_simp
     with_reducible rfl
    rotate_left
    ·simp only [pA, pS, pZ, pK, i64_w, i32_w]
     rfl
    refine pu (i := 7) (N := some 17) (v := ?_) (a' := ?_) (bs 255 34) rfl rfl HT_ ?_ ?_ ?_
    rotate_left
    ·intro w'
     go_simp
     with_reducible rfl
    rotate_left
    ·simp only [pA, pS, pZ, pK, i64_w, i32_w]
     rfl
    refine pu (i := 8) (N := some 18) (v := ?_) (a' := ?_) (bs 511 34) rfl rfl HT_ ?_ ?_ ?_
    rotate_left
    ·intro w'
     go_simp
     with_reducible rfl
    rotate_left
    ·simp only [pA, pS, pZ, pK, i64_w, i32_w]
     rfl
    refine pu (i := 9) (N := some 19) (v := ?_) (a' := ?_) (bs 1023 34) rfl rfl HT_ ?_ ?_ ?_
    rotate_left
    ·intro w'
     go_simp
     with_reducible rfl
    rotate_left
    ·simp only [pA, pS, pZ, pK, i64_w, i32_w]
     rfl
    refine pu (i := 10) (N := some 20) (v := ?_) (a' := ?_) (bs 2047 34) rfl rfl HT_ ?_ ?_ ?_
    rotate_left
    ·intro w'
     go_simp
     with_reducible rfl
    rotate_left
    ·simp only [pA, pS, pZ, pK, i64_w, i32_w]
     rfl
    refine pu (i := 11) (N := some 21) (v := ?_) (a' := ?_) (bs 4095 34) rfl rfl HT_ ?_ ?_ ?_
    rotate_left
    ·intro w'
     go_simp
     with_reducible rfl
    rotate_left
    ·simp only [pA, pS, pZ, pK, i64_w, i32_w]
     rfl
    refine tk (i := 12) (N := some 22) (v := ?_) (a' := ?_) (bs 8191 34) rfl rfl HT_ HW_ ?_ hHeld ?_ ?_
    rotate_left
    ·rintro w' ⟨s0, s1, s2, s3, s4, s5, s6, s7⟩
     go_simp
     with_reducible rfl
    rotate_left
    ·simp only [pA, pS, pZ, pK, i64_w, i32_w]
     rfl
    refine one_ (i := 13) (N := some 23) (bs 16383 34) rfl rfl (one_of HT_.out (by kernel_rfl)) (by decide) (fun K hK => ?_)
    refine goes_ Try.func82 (by kernel_rfl) rfl #[.int .i64 ((rd_T150 l0 x3_1).f1), .int .i64 1, .int .i64 9] (by rfl) rfl rfl (by (try simp only [List.map_toArray, List.map_cons, List.map_nil]); first | done | rfl | (simp only [List.length_drop, List.length_take]; rfl)) ?_
    with_reducible refine (spec_l1In.calls ((rd_T150 l0 x3_1).f1) 1 9 true _ A6.out).mono ?_
    rintro e w' ⟨rfl, ⟨nd, rfl⟩⟩
    refine ⟨_, rfl, ?_⟩
    refine hK.out _ _ ⟨(BD HB.out hw314_0), (BD HB.out hw314_1), (BD HB.out hw316_0), (BD HB.out hw316_1), (BD HB.out hw318_0), (BD HB.out hw318_1), (BD HB.out hw319_0), (BD HB.out hw319_1)⟩ (fun hHeld => ?_)
    clear hK K
    refine norm_ (a' := ?_) ?_ ?_
    rotate_left
    ·show Act.put _ (some 23) _ = _
     simp only [pA, pS, pZ, pK, i64_w, i32_w]
     rfl
    refine pu (i := 14) (N := some 24) (v := ?_) (a' := ?_) (bs 32767 34) rfl rfl HT_ ?_ ?_ ?_
    rotate_left
    ·intro w'
     go_simp
     with_reducible rfl
    rotate_left
    ·simp only [pA, pS, pZ, pK, i64_w, i32_w]
     rfl
    refine pu (i := 15) (N := some 25) (v := ?_) (a' := ?_) (bs 65535 34) rfl rfl HT_ ?_ ?_ ?_
    rotate_left
    ·intro w'
     go_simp
     with_reducible rfl
    rotate_left
    ·simp only [pA, pS, pZ, pK, i64_w, i32_w]
     rfl
    refine pu (i := 16) (N := some 26) (v := ?_) (a' := ?_) (bs 131071 34) rfl rfl HT_ ?_ ?_ ?_
    rotate_left
    ·intro w'
     go_simp
     with_reducible rfl
    rotate_left
    ·simp only [pA, pS, pZ, pK, i64_w, i32_w]
     rfl
    refine pu (i := 17) (N := some 27) (v := ?_) (a' := ?_) (bs 262143 34) rfl rfl HT_ ?_ ?_ ?_
    rotate_left
    ·intro w'
     go_simp
     with_reducible rfl
    rotate_left
    ·simp only [pA, pS, pZ, pK, i64_w, i32_w]
     rfl
    refine pu (i := 18) (N := some 28) (v := ?_) (a' := ?_) (bs 524287 34) rfl rfl HT_ ?_ ?_ ?_
    rotate_left
    ·intro w'
     go_simp
     with_reducible rfl
    rotate_left
    ·simp only [pA, pS, pZ, pK, i64_w, i32_w]
     rfl
    refine pu (i := 19) (N := some 29) (v := ?_) (a' := ?_) (bs 1048575 34) rfl rfl HT_ ?_ ?_ ?_
    rotate_left
    ·intro w'
     go_simp
     with_reducible rfl
    rotate_left
    ·simp only [pA, pS, pZ, pK, i64_w, i32_w]
     rfl
    refine pu (i := 20) (N := some 30) (v := ?_) (a' := ?_) (bs 2097151 34) rfl rfl HT_ ?_ ?_ ?_
    rotate_left
    ·intro w'
     go_simp
     with_reducible rfl
    rotate_left
    ·simp only [pA, pS, pZ, pK, i64_w, i32_w]
     rfl
    refine pu (i := 21) (N := some 31) (v := ?_) (a' := ?_) (bs 4194303 34) rfl rfl HT_ ?_ ?_ ?_
    rotate_left
    ·intro w'
     go_simp
     with_reducible rfl
    rotate_left
    ·simp only [pA, pS, pZ, pK, i64_w, i32_w]
     rfl
    refine pu (i := 22) (N := some 32) (v := ?_) (a' := ?_) (bs 8388607 34) rfl rfl HT_ ?_ ?_ ?_
    rotate_left
    ·intro w'
     go_simp
     with_reducible rfl
    rotate_left
    ·simp only [pA, pS, pZ, pK, i64_w, i32_w]
     rfl
    refine pu (i := 23) (N := some 33) (v := ?_) (a' := ?_) (bs 16777215 34) rfl rfl HT_ ?_ ?_ ?_
    rotate_left
    ·intro w'
     go_simp
     with_reducible rfl
    rotate_left
    ·simp only [pA, pS, pZ, pK, i64_w, i32_w]
     rfl
    refine pu (i := 24) (N := some 34) (v := ?_) (a' := ?_) (bs 33554431 34) rfl rfl HT_ ?_ ?_ ?_
    rotate_left
    ·intro w'
     go_simp
     with_reducible rfl
    rotate_left
    ·simp only [pA, pS, pZ, pK, i64_w, i32_w]
     rfl
    refine pu (i := 26) (N := some 36) (v := ?_) (a' := ?_) (bs 100663295 34) rfl rfl HT_ ?_ ?_ ?_
    rotate_left
    ·intro w'
     go_simp
     with_reducible rfl
    rotate_left
    ·simp only [pA, pS, pZ, pK, i64_w, i32_w]
     rfl
    refine pu (i := 27) (N := some 37) (v := ?_) (a' := ?_) (bs 234881023 34) rfl rfl HT_ ?_ ?_ ?_
    rotate_left
    ·intro w'
     go_simp
     with_reducible rfl
    rotate_left
    ·simp only [pA, pS, pZ, pK, i64_w, i32_w]
     rfl
    refine pu (i := 28) (N := some 38) (v := ?_) (a' := ?_) (bs 503316479 34) rfl rfl HT_ ?_ ?_ ?_
    rotate_left
    ·intro w'
     go_simp
     with_reducible rfl
    rotate_left
    ·simp only [pA, pS, pZ, pK, i64_w, i32_w]
     rfl
    refine pu (i := 29) (N := some 39) (v := ?_) (a' := ?_) (bs 1040187391 34) rfl rfl HT_ ?_ ?_ ?_
    rotate_left
    ·intro w'
     go_simp
     with_reducible rfl
    rotate_left
    ·simp only [pA, pS, pZ, pK, i64_w, i32_w]
     rfl
    refine tk (i := 25) (N := some 35) (v := ?_) (a' := ?_) (bs 1073741823 34) rfl rfl HT_ HW_ ?_ hHeld ?_ ?_
    rotate_left
    ·rintro w' ⟨s0, s1, s2, s3, s4, s5, s6, s7⟩
     go_simp
     with_reducible rfl
    rotate_left
    ·simp only [pA, pS, pZ, pK, i64_w, i32_w]
     rfl
    refine tk (i := 30) (N := some 40) (v := ?_) (a' := ?_) (bs 2147483647 34) rfl rfl HT_ HW_ ?_ hHeld ?_ ?_
    rotate_left
    ·rintro w' ⟨s0, s1, s2, s3, s4, s5, s6, s7⟩
     go_simp
     with_reducible rfl
    rotate_left
    ·simp only [pA, pS, pZ, pK, i64_w, i32_w]
     rfl
    refine pu (i := 31) (N := some 41) (v := ?_) (a' := ?_) (bs 4294967295 34) rfl rfl HT_ ?_ ?_ ?_
    rotate_left
    ·intro w'
     go_simp
     with_reducible rfl
    rotate_left
    ·simp only [pA, pS, pZ, pK, i64_w, i32_w]
     rfl
    refine pu (i := 32) (N := some 42) (v := ?_) (a' := ?_) (bs 8589934591 34) rfl rfl HT_ ?_ ?_ ?_
    rotate_left
    ·intro w'
     go_simp
     with_reducible rfl
    rotate_left
    ·simp only [pA, pS, pZ, pK, i64_w, i32_w]
     rfl
    refine pu (i := 33) (N := some 43) (v := ?_) (a' := ?_) (bs 17179869183 34) rfl rfl HT_ ?_ ?_ ?_
    rotate_left
    ·intro w'
     go_simp
     with_reducible rfl
    rotate_left
    ·simp only [pA, pS, pZ, pK, i64_w, i32_w]
     rfl
    refine done_ (done_of HT_.out (by kernel_rfl)) ?_
    try go_wp2
    go_roundg k1
    case measure => have := HK1.out; omega
    case rel => exact ⟨(wrap64 (x3_1 + 1)), (by first | rfl | (simp; done) | (simp [*]; done)), H', ⟨by have := HK1.out; omega⟩, ⟨BT HB.out⟩⟩
   rw [if_pos c12] at H
   have c12b0 : decide (((rd_T150 l0 x3_1).f0) ≤ ((rd_T150 l0 (ji9)).f0)) = true := decide_eq_true c12
   clear c12
   obtain rfl := Option.some.inj H
   try go_wp2
   replace HB := AM_ (below_drew1 HB.out)
   have p314 : 0 ≤ (x3_1 : Int) := DT
   have q314 : x3_1 < (l0.length : Int) := DT
   obtain ⟨ad314, e314, hx314_0, hx314_1⟩ := at_T150 HR0.out x3_1 p314 q314
   have hw314_1 := hx314_1
   have hw314_0 := hx314_0
   cases e314
   replace hx314_0 := BC HB.out hx314_0
   replace hx314_1 := BC HB.out hx314_1
   replace p314 := eq_true p314
   replace q314 := eq_true q314
   have p316 : 0 ≤ (x3_1 : Int) := DT
   have q316 : x3_1 < (l0.length : Int) := DT
   obtain ⟨ad316, e316, hx316_0, hx316_1⟩ := at_T150 HR0.out x3_1 p316 q316
   have hw316_1 := hx316_1
   have hw316_0 := hx316_0
   obtain rfl : ad314 = ad316 := (by injection e316)
   replace hx316_0 := BC HB.out hx316_0
   replace hx316_1 := BC HB.out hx316_1
   replace p316 := eq_true p316
   replace q316 := eq_true q316
   have p318 : 0 ≤ ((ji9) : Int) := DT
   have q318 : (ji9) < (l0.length : Int) := DT
   obtain ⟨ad318, e318, hx318_0, hx318_1⟩ := at_T150 HR0.out (ji9) p318 q318
   have hw318_1 := hx318_1
   have hw318_0 := hx318_0
   obtain rfl : ad314 = ad318 := (by injection e318)
   replace hx318_0 := BC HB.out hx318_0
   replace hx318_1 := BC HB.out hx318_1
   replace p318 := eq_true p318
   replace q318 := eq_true q318
   have p319 : 0 ≤ (x3_1 : Int) := DT
   have q319 : x3_1 < (l0.length : Int) := DT
   obtain ⟨ad319, e319, hx319_0, hx319_1⟩ := at_T150 HR0.out x3_1 p319 q319
   have hw319_1 := hx319_1
   have hw319_0 := hx319_0
   obtain rfl : ad314 = ad319 := (by injection e319)
   replace hx319_0 := BC HB.out hx319_0
   replace hx319_1 := BC HB.out hx319_1
   replace p319 := eq_true p319
   replace q319 := eq_true q319
   refine start_ (n := 34) (S := fun w' => w'.cell? (ad314.add ((x3_1).toNat * 2)) = some (.int .i64 ((rd_T150 l0 x3_1).f0)) ∧ w'.cell? ⟨(ad314.add ((x3_1).toNat * 2)).block, (ad314.add ((x3_1).toNat * 2)).off + 1, none⟩ = some (.int .i64 ((rd_T150 l0 x3_1).f1)) ∧ w'.cell? (ad314.add ((x3_1).toNat * 2)) = some (.int .i64 ((rd_T150 l0 x3_1).f0)) ∧ w'.cell? ⟨(ad314.add ((x3_1).toNat * 2)).block, (ad314.add ((x3_1).toNat * 2)).off + 1, none⟩ = some (.int .i64 ((rd_T150 l0 x3_1).f1)) ∧ w'.cell? (ad314.add (((ji9)).toNat * 2)) = some (.int .i64 ((rd_T150 l0 (ji9)).f0)) ∧ w'.cell? ⟨(ad314.add (((ji9)).toNat * 2)).block, (ad314.add (((ji9)).toNat * 2)).off + 1, none⟩ = some (.int .i64 ((rd_T150 l0 (ji9)).f1)) ∧ w'.cell? (ad314.add ((x3_1).toNat * 2)) = some (.int .i64 ((rd_T150 l0 x3_1).f0)) ∧ w'.cell? ⟨(ad314.add ((x3_1).toNat * 2)).block, (ad314.add ((x3_1).toNat * 2)).off + 1, none⟩ = some (.int .i64 ((rd_T150 l0 x3_1).f1))) (ds := []) (bs 0 34) (by kernel_rfl) rfl rfl ⟨(BD HB.out hw314_0), (BD HB.out hw314_1), (BD HB.out hw316_0), (BD HB.out hw316_1), (BD HB.out hw318_0), (BD HB.out hw318_1), (BD HB.out hw319_0), (BD HB.out hw319_1)⟩ (fun hHeld => ?_); refine with_tabW spec_AreLocks.tab4 spec_AreLocks.bits4 (fun HT_ HW_ => ?_)
   generalize wr.drew = w13 at HB hx314_0 hx314_1 hx316_0 hx316_1 hx318_0 hx318_1 hx319_0 hx319_1 hHeld ⊢
   refine pu (i := 0) (N := some 10) (v := ?_) (a' := ?_) (bs 1 34) rfl rfl HT_ ?_ ?_ ?_
   rotate_left
   ·intro w'
    go_simp
    with_reducible rfl
   rotate_left
   ·simp only [pA, pS, pZ, pK, i64_w, i32_w]
    rfl
   refine pu (i := 1) (N := some 11) (v := ?_) (a' := ?_) (bs 3 34) rfl rfl HT_ ?_ ?_ ?_
   rotate_left
   ·intro w'
    go_simp
    with_reducible rfl
   rotate_left
   ·simp only [pA, pS, pZ, pK, i64_w, i32_w]
    rfl
   refine pu (i := 2) (N := some 12) (v := ?_) (a' := ?_) (bs 7 34) rfl rfl HT_ ?_ ?_ ?_
   rotate_left
   ·intro w'
    go_simp
    with_reducible rfl
   rotate_left
   ·simp only [pA, pS, pZ, pK, i64_w, i32_w]
    rfl
   refine pu (i := 3) (N := some 13) (v := ?_) (a' := ?_) (bs 15 34) rfl rfl HT_ ?_ ?_ ?_
   rotate_left
   ·intro w'
    go_simp
    with_reducible rfl
   rotate_left
   ·simp only [pA, pS, pZ, pK, i64_w, i32_w]
    rfl
   refine tk (i := 4) (N := some 14) (v := ?_) (a' := ?_) (bs 31 34) rfl rfl HT_ HW_ ?_ hHeld ?_ ?_
   rotate_left
   ·rintro w' ⟨s0, s1, s2, s3, s4, s5, s6, s7⟩
    go_simp
    with_reducible rfl
   rotate_left
   ·simp only [pA, pS, pZ, pK, i64_w, i32_w]
    rfl
   refine one_ (i := 5) (N := some 15) (bs 63 34) rfl rfl (one_of HT_.out (by kernel_rfl)) (by decide) (fun K hK => ?_)
   refine goes_ Try.func82 (by kernel_rfl) rfl #[.int .i64 ((rd_T150 l0 x3_1).f0), .int .i64 0, .int .i64 5] (by rfl) rfl rfl (by (try simp only [List.map_toArray, List.map_cons, List.map_nil]); first | done | rfl | (simp only [List.length_drop, List.length_take]; rfl)) ?_
   with_reducible refine (spec_l1In.calls ((rd_T150 l0 x3_1).f0) 0 5 true _ A4.out).mono ?_
   rintro e w' ⟨rfl, ⟨nd, rfl⟩⟩
   refine ⟨_, rfl, ?_⟩
   refine hK.out _ _ ⟨(BD HB.out hw314_0), (BD HB.out hw314_1), (BD HB.out hw316_0), (BD HB.out hw316_1), (BD HB.out hw318_0), (BD HB.out hw318_1), (BD HB.out hw319_0), (BD HB.out hw319_1)⟩ (fun hHeld => ?_)
   clear hK K
   refine norm_ (a' := ?_) ?_ ?_
   rotate_left
   ·show Act.put _ (some 15) _ = _
    simp only [pA, pS, pZ, pK, i64_w, i32_w]
    rfl
   refine pu (i := 6) (N := some 16) (v := ?_) (a' := ?_) (bs 127 34) rfl rfl HT_ ?_ ?_ ?_
   rotate_left
   ·intro w'
    go_simp
    with_reducible rfl
   rotate_left
   ·simp only [pA, pS, pZ, pK, i64_w, i32_w]
    rfl
   refine pu (i := 7) (N := some 17) (v := ?_) (a' := ?_) (bs 255 34) rfl rfl HT_ ?_ ?_ ?_
   rotate_left
   ·intro w'
    go_simp
    with_reducible rfl
   rotate_left
   ·simp only [pA, pS, pZ, pK, i64_w, i32_w]
    rfl
   refine pu (i := 8) (N := some 18) (v := ?_) (a' := ?_) (bs 511 34) rfl rfl HT_ ?_ ?_ ?_
   rotate_left
   ·intro w'
    go_simp
    with_reducible rfl
   rotate_left
   ·simp only [pA, pS, pZ, pK, i64_w, i32_w]
    rfl
   refine pu (i := 9) (N := some 19) (v := ?_) (a' := ?_) (bs 1023 34) rfl rfl HT_ ?_ ?_ ?_
   rotate_left
   ·intro w'
    go_simp
    with_reducible rfl
   rotate_left
   ·simp only [pA, pS, pZ, pK, i64_w, i32_w]
    rfl
   refine pu (i := 10) (N := some 20) (v := ?_) (a' := ?_) (bs 2047 34) rfl rfl HT_ ?_ ?_ ?_
   rotate_left
   ·intro w'
    go_simp
    with_reducible rfl
   rotate_left
   ·simp only [pA, pS, pZ, pK, i64_w, i32_w]
    rfl
   refine pu (i := 11) (N := some 21) (v := ?_) (a' := ?_) (bs 4095 34) rfl rfl HT_ ?_ ?_ ?_
   rotate_left
   ·intro w'
    go_simp
    with_reducible rfl
   rotate_left
   ·simp only [pA, pS, pZ, pK, i64_w, i32_w]
    rfl
   refine tk (i := 12) (N := some 22) (v := ?_) (a' := ?_) (bs 8191 34) rfl rfl HT_ HW_ ?_ hHeld ?_ ?_
   rotate_left
   ·rintro w' ⟨s0, s1, s2, s3, s4, s5, s6, s7⟩
    go_simp
    with_reducible rfl
   rotate_left
   ·simp only [pA, pS, pZ, pK, i64_w, i32_w]
    rfl
   refine one_ (i := 13) (N := some 23) (bs 16383 34) rfl rfl (one_of HT_.out (by kernel_rfl)) (by decide) (fun K hK => ?_)
   refine goes_ Try.func82 (by kernel_rfl) rfl #[.int .i64 ((rd_T150 l0 x3_1).f1), .int .i64 1, .int .i64 9] (by rfl) rfl rfl (by (try simp only [List.map_toArray, List.map_cons, List.map_nil]); first | done | rfl | (simp only [List.length_drop, List.length_take]; rfl)) ?_
   with_reducible refine (spec_l1In.calls ((rd_T150 l0 x3_1).f1) 1 9 true _ A6.out).mono ?_
   rintro e w' ⟨rfl, ⟨nd, rfl⟩⟩
   refine ⟨_, rfl, ?_⟩
   refine hK.out _ _ ⟨(BD HB.out hw314_0), (BD HB.out hw314_1), (BD HB.out hw316_0), (BD HB.out hw316_1), (BD HB.out hw318_0), (BD HB.out hw318_1), (BD HB.out hw319_0), (BD HB.out hw319_1)⟩ (fun hHeld => ?_)
   clear hK K
   refine norm_ (a' := ?_) ?_ ?_
   rotate_left
   ·show Act.put _ (some 23) _ = _
    simp only [pA, pS, pZ, pK, i64_w, i32_w]
    rfl
   refine pu (i := 14) (N := some 24) (v := ?_) (a' := ?_) (bs 32767 34) rfl rfl HT_ ?_ ?_ ?_
   rotate_left
   ·intro w'
    go_simp
    with_reducible rfl
   rotate_left
   ·simp only [pA, pS, pZ, pK, i64_w, i32_w]
    rfl
   refine pu (i := 15) (N := some 25) (v := ?_) (a' := ?_) (bs 65535 34) rfl rfl HT_ ?_ ?_ ?_
   rotate_left
   ·intro w'
    go_simp
    with_reducible rfl
   rotate_left
   ·simp only [pA, pS, pZ, pK, i64_w, i32_w]
    rfl
   refine pu (i := 16) (N := some 26) (v := ?_) (a' := ?_) (bs 131071 34) rfl rfl HT_ ?_ ?_ ?_
   rotate_left
   ·intro w'
    go_simp
    with_reducible rfl
   rotate_left
   ·simp only [pA, pS, pZ, pK, i64_w, i32_w]
    rfl
   refine pu (i := 17) (N := some 27) (v := ?_) (a' := ?_) (bs 262143 34) rfl rfl HT_ ?_ ?_ ?_
   rotate_left
   ·intro w'
    go_simp
    with_reducible rfl
   rotate_left
   ·simp only [pA, pS, pZ, pK, i64_w, i32_w]
    rfl
   refine pu (i := 18) (N := some 28) (v := ?_) (a' := ?_) (bs 524287 34) rfl rfl HT_ ?_ ?_ ?_
   rotate_left
   ·intro w'
    go_simp
    with_reducible rfl
   rotate_left
   ·simp only [pA, pS, pZ, pK, i64_w, i32_w]
    rfl
   refine pu (i := 19) (N := some 29) (v := ?_) (a' := ?_) (bs 1048575 34) rfl rfl HT_ ?_ ?_ ?_
   rotate_left
   ·intro w'
    go_simp
    with_reducible rfl
   rotate_left
   ·simp only [pA, pS, pZ, pK, i64_w, i32_w]
    rfl
   refine pu (i := 20) (N := some 30) (v := ?_) (a' := ?_) (bs 2097151 34) rfl rfl HT_ ?_ ?_ ?_
   rotate_left
   ·intro w'
    go_simp
    with_reducible rfl
   rotate_left
   ·simp only [pA, pS, pZ, pK, i64_w, i32_w]
    rfl
   refine pu (i := 21) (N := some 31) (v := ?_) (a' := ?_) (bs 4194303 34) rfl rfl HT_ ?_ ?_ ?_
   rotate_left
   ·intro w'
    go_simp
    with_reducible rfl
   rotate_left
   ·simp only [pA, pS, pZ, pK, i64_w, i32_w]
    rfl
   refine pu (i := 22) (N := some 32) (v := ?_) (a' := ?_) (bs 8388607 34) rfl rfl HT_ ?_ ?_ ?_
   rotate_left
   ·intro w'
    go_simp
    with_reducible rfl
   rotate_left
   ·simp only [pA, pS, pZ, pK, i64_w, i32_w]
    rfl
   refine pu (i := 23) (N := some 33) (v := ?_) (a' := ?_) (bs 16777215 34) rfl rfl HT_ ?_ ?_ ?_
   rotate_left
   ·intro w'
    go_simp
    with_reducible rfl
   rotate_left
   ·simp only [pA, pS, pZ, pK, i64_w, i32_w]
    rfl
   refine pu (i := 24) (N := some 34) (v := ?_) (a' := ?_) (bs 33554431 34) rfl rfl HT_ ?_ ?_ ?_
   rotate_left
   ·intro w'
    go_simp
    with_reducible rfl
   rotate_left
   ·simp only [pA, pS, pZ, pK, i64_w, i32_w]
    rfl
   refine pu (i := 26) (N := some 36) (v := ?_) (a' := ?_) (bs 100663295 34) rfl rfl HT_ ?_ ?_ ?_
   rotate_left
   ·intro w'
    go_simp
    with_reducible rfl
   rotate_left
   ·simp only [pA, pS, pZ, pK, i64_w, i32_w]
    rfl
   refine pu (i := 27) (N := some 37) (v := ?_) (a' := ?_) (bs 234881023 34) rfl rfl HT_ ?_ ?_ ?_
   rotate_left
   ·intro w'
    go_simp
    with_reducible rfl
   rotate_left
   ·simp only [pA, pS, pZ, pK, i64_w, i32_w]
    rfl
   refine pu (i := 28) (N := some 38) (v := ?_) (a' := ?_) (bs 503316479 34) rfl rfl HT_ ?_ ?_ ?_
   rotate_left
   ·intro w'
    go_simp
    with_reducible rfl
   rotate_left
   ·simp only [pA, pS, pZ, pK, i64_w, i32_w]
    rfl
   refine pu (i := 29) (N := some 39) (v := ?_) (a' := ?_) (bs 1040187391 34) rfl rfl HT_ ?_ ?_ ?_
   rotate_left
   ·intro w'
    go_simp
    with_reducible rfl
   rotate_left
   ·simp only [pA, pS, pZ, pK, i64_w, i32_w]
    rfl
   refine tk (i := 25) (N := some 35) (v := ?_) (a' := ?_) (bs 1073741823 34) rfl rfl HT_ HW_ ?_ hHeld ?_ ?_
   rotate_left
   ·rintro w' ⟨s0, s1, s2, s3, s4, s5, s6, s7⟩
    go_simp
    with_reducible rfl
   rotate_left
   ·simp only [pA, pS, pZ, pK, i64_w, i32_w]
    rfl
   refine tk (i := 30) (N := some 40) (v := ?_) (a' := ?_) (bs 2147483647 34) rfl rfl HT_ HW_ ?_ hHeld ?_ ?_
   rotate_left
   ·rintro w' ⟨s0, s1, s2, s3, s4, s5, s6, s7⟩
    go_simp
    with_reducible rfl
   rotate_left
   ·simp only [pA, pS, pZ, pK, i64_w, i32_w]
    rfl
   refine pu (i := 31) (N := some 41) (v := ?_) (a' := ?_) (bs 4294967295 34) rfl rfl HT_ ?_ ?_ ?_
   rotate_left
   ·intro w'
    go_simp
    with_reducible rfl
   rotate_left
   ·simp only [pA, pS, pZ, pK, i64_w, i32_w]
    rfl
   refine pu (i := 32) (N := some 42) (v := ?_) (a' := ?_) (bs 8589934591 34) rfl rfl HT_ ?_ ?_ ?_
   rotate_left
   ·intro w'
    go_simp
    with_reducible rfl
   rotate_left
   ·simp only [pA, pS, pZ, pK, i64_w, i32_w]
    rfl
   refine pu (i := 33) (N := some 43) (v := ?_) (a' := ?_) (bs 17179869183 34) rfl rfl HT_ ?_ ?_ ?_
   rotate_left
   ·intro w'
    go_simp
    with_reducible rfl
   rotate_left
   ·simp only [pA, pS, pZ, pK, i64_w, i32_w]
    rfl
   refine done_ (done_of HT_.out (by kernel_rfl)) ?_
   try go_wp2
   go_ret
   exact ⟨by first | rfl | (simp [errW_none, errW_some] <;> rfl) | (simp only [← hji9]; first | rfl | (simp [errW_none, errW_some] <;> rfl)) | (simp [*, errW_none, errW_some] <;> rfl), BT HB.out⟩

end Go.Proofs.Ytakpkmlbklahhaa.PFnExactWriteCode
