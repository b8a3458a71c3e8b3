-- Printed by wip/myprint.py.
import Derived.Test.YtdgknikgfjhohaaPFnExactIsValidEnginex10
namespace Go.Proofs.Ytdgknikgfjhohaa.PFnExactIsValidEngine
open Go.RowKit Go.Proofs.YtdgknikgfjhohaaW.PrintWords Go.Proofs.YtdgknikgfjhohaaW.PrintLast Go.Proofs.YtdgknikgfjhohaaW.PrintMore
set_option maxHeartbeats 8000000
set_option maxRecDepth 100000
set_option linter.unusedVariables false
set_option linter.unusedSimpArgs false

/-! ### impl_AreWaits: function 40 -/
def impl_AreWaits.l0 : Nat → List (S78) → List (S78) → Int → Int → Option (Bool)
 | 0, _, _, _, _ => none
 | k + 1, x0, x5, x6, x7 => if x7 < x6 then (if 0 ≤ x7 then (if x7 < (x5.length : Int) then ((impl_isID.f ((rd_T78 x5 x7).f0)).bind fun t347 => (if t347 = true then ((impl_isID.f ((rd_T78 x5 x7).f1)).bind fun t348 => (if t348 = true then (if ((rd_T78 x5 x7).f0) = ((rd_T78 x5 x7).f1) then (some false) else (if x7 > 0 then (if 0 ≤ (wrap64 (x7 - 1)) then (if (wrap64 (x7 - 1)) < (x0.length : Int) then (if ((rd_T78 x0 (wrap64 (x7 - 1))).f0) ≥ ((rd_T78 x5 x7).f0) then (some false) else (impl_AreWaits.l0 k x0 x5 x6 (wrap64 (x7 + 1)))) else (none)) else (none)) else (impl_AreWaits.l0 k x0 x5 x6 (wrap64 (x7 + 1))))) else (some false))) else (some false))) else (none)) else (none)) else (some true)
def impl_AreWaits.f (k : Nat) (l0 : List (S78)) : Option (Bool) := impl_AreWaits.l0 k l0 l0 (l0.length : Int) 0
theorem impl_AreWaits.mono_l : ∀ k, (∀ y0 y1 y2 y3, LeO (impl_AreWaits.l0 k y0 y1 y2 y3) (impl_AreWaits.l0 (k + 1) y0 y1 y2 y3))
 | 0 => fun _ _ _ _ r h => by simp [impl_AreWaits.l0] at h
 | k + 1 => by
  have ih0 := impl_AreWaits.mono_l k
  all_goals intros; unfold impl_AreWaits.l0
  all_goals repeat' (with_reducible first | exact ih0 .. | exact LeO.refl _ | exact LeO.none _ | refine LeO.ite ?_ ?_ | refine LeO.bind ?_ (fun _ => ?_))
theorem impl_AreWaits.mono : ∀ a0 k, LeO (impl_AreWaits.f k a0) (impl_AreWaits.f (k + 1) a0) := by
 intro a0 k
 have ih0 := impl_AreWaits.mono_l k
 unfold impl_AreWaits.f
 repeat' (with_reducible first | exact ih0 .. | exact LeO.refl _ | exact LeO.none _ | refine LeO.ite ?_ ?_ | refine LeO.bind ?_ (fun _ => ?_))
def impl_AreWaits.T4 : Bool × List (List Nat × List Nat) := (true, [([], []), ([0], [0]), ([1], [1]), ([2], [2]), ([3, 2], [3]), ([4], [4]), ([5, 4], [4, 5]), ([6, 4, 4], [4, 6]), ([7, 4], [4, 7]), ([4, 8], [4, 8]), ([9, 7], [9]), ([10], [10]), ([11, 10], [10, 11]), ([10], [10]), ([13, 10], [10, 13]), ([12, 14, 10], [10, 12, 14]), ([10, 15], [10, 15]), ([16, 10], [16]), ([17], [17]), ([18, 17], [17, 18]), ([19, 17, 17], [17, 19]), ([20], [20]), ([20], [20]), ([22, 20], [20, 22]), ([21, 23, 20], [20, 21, 23]), ([24, 20], [20, 24]), ([25, 20], [20, 25]), ([20], [20]), ([27, 20], [20, 27]), ([26, 28, 20], [20, 26, 28]), ([20, 29, 17], [17, 20, 29]), ([17, 30], [17, 30])])
def impl_AreWaits.B4 : List Nat := [0, 1, 3, 7, 15, 31, 63, 127, 255, 511, 1023, 2047, 4095, 2047, 10239, 32767, 65535, 131071, 262143, 524287, 1048575, 2097151, 2097151, 6291455, 16777215, 33554431, 67108863, 2097151, 136314879, 536870911, 1073741823, 2147483647]
theorem impl_AreWaits.tab4 : rtab .any (opsOf Try.f40 4) = impl_AreWaits.T4 := by kernel_rfl
theorem impl_AreWaits.bits4 : waitsOk impl_AreWaits.T4.2 impl_AreWaits.B4 = true := by kernel_rfl
theorem impl_AreWaits.calls (k : Nat) (A0 : Option Addr) (c0 : Nat) (l0 : List (S78)) (r : Bool) (w : World) (hr0 : Kd.C k78 w A0 l0.length l0) (hc0 : l0.length ≤ c0) (h : impl_AreWaits.f k l0 = some r) :
  Calls Try.prog 40 #[.slice A0 l0.length c0] w fun e w' => e = .returned (.bool r) ∧ Below w.heap.size w w' := by
 have hu78 := Try.underlying78
 have HR0 := AM_ hr0
 have HC0 := AM_ hc0
 clear hr0 hc0
 have HB := AM_ (Below.refl w.heap.size w)
 unfold impl_AreWaits.f at h
 have H := h
 clear h
 have H' := AM_ H
 clear H
 go_enter Try.func40, Try.ntmps40
 go_wp2
 go_loopg [7] k (fun kq v7 w' => ∃ (x7_1 : Int), v7 = .int .i64 x7_1 ∧ Aside0 (impl_AreWaits.l0 kq l0 l0 (l0.length : Int) x7_1 = some r) ∧ Aside0 (kq ≤ k) ∧ Aside0 (Below w.heap.size w w'))
 case atStart => exact ⟨(0), (by first | rfl | (simp; done) | (simp [*]; done)), H', ⟨Nat.le_refl _⟩, ⟨BT HB.out⟩⟩
 case round =>
  clear H'
  obtain ⟨x7_1, rfl, HA, HK1, HB⟩ := hrel
  cases gk with
  | zero => exact absurd HA.out (by simp [impl_AreWaits.l0])
  | succ k1 =>
   have H := HA.out
   clear HA
   simp only [impl_AreWaits.l0] at H
   by_cases c2 : x7_1 < (l0.length : Int)
   rotate_left
   ·rw [if_neg c2] at H
    have c2b0 := decide_eq_false c2
    clear c2
    obtain rfl := Option.some.inj H
    go_wp2
    go_ret
    exact QT (BT HB.out)
   rw [if_pos c2] at H
   have c2b0 := decide_eq_true c2
   clear c2
   replace H := HI H
   obtain ⟨c3, H⟩ := H
   have c3b0 := decide_eq_true c3
   clear c3
   replace H := HI H
   obtain ⟨c4, H⟩ := H
   have c4b0 := decide_eq_true c4
   clear c4
   obtain ⟨t347, A5, H⟩ := OB H
   by_cases c6 : t347 = true
   rotate_left
   ·replace c6 := Bool.eq_false_iff.mpr c6
    subst c6
    replace H := HF H
    obtain rfl := Option.some.inj H
    have p345 : 0 ≤ (x7_1 : Int) := DT
    have q345 : x7_1 < (l0.length : Int) := DT
    obtain ⟨ad345, e345, hx345_0, hx345_1⟩ := at_T78 HR0.out x7_1 p345 q345
    cases e345
    replace hx345_0 := BC HB.out hx345_0
    replace hx345_1 := BC HB.out hx345_1
    replace p345 := eq_true p345
    replace q345 := eq_true q345
    try go_wp2_with (first | ((with_reducible refine G2 4 rfl ?_); refine BY 4 #[.int .i64 0, .int .i64 0] 78 HB ?_; clear HB; intro gb346 w35 BK346 GW346 HB; obtain ⟨hcz36_0, hcz36_1, hfz36_0, hfz36_1⟩ := bk2 BK346.out))
    generalize hW_ : (w35.setCell ⟨gb346, 0, none⟩ (.int .i64 ((rd_T78 l0 x7_1).f0))).setCell ⟨gb346, 1, none⟩ (.int .i64 ((rd_T78 l0 x7_1).f1)) = w37
    have n0_ : Aside0 (w37.heap[gb346]? = some (.cells #[.int .i64 ((rd_T78 l0 x7_1).f0), .int .i64 ((rd_T78 l0 x7_1).f1)] 78 (0, 0))) := by subst hW_; exact ⟨BQ BK346.out⟩
    have n1_ : Aside0 (Below w.heap.size w w37) := by subst hW_; exact ⟨BT HB.out⟩
    (try clear BK346)
    (try clear HB)
    clear hW_
    have BK346 := n0_
    have HB := n1_
    clear n0_ n1_
    replace BK346 := BD1 BK346
    replace HB := BD2 HB
    refine start_ (n := 32) (S := fun w' => w'.cell? ⟨gb346, 0, none⟩ = some (.int .i64 ((rd_T78 l0 x7_1).f0)) ∧ w'.cell? ⟨gb346, 1, none⟩ = some (.int .i64 ((rd_T78 l0 x7_1).f1))) (ds := []) (lo 0 32) (by kernel_rfl) rfl rfl ⟨bc BK346.out 0, bc BK346.out 1⟩ (fun hHeld => ?_); refine with_tabW impl_AreWaits.tab4 impl_AreWaits.bits4 (fun HT_ HW_ => ?_)
    generalize w37.drew = w38 at BK346 HB hHeld ⊢
    iterate 2 first | refine PS HT_ ?_ | refine TS HT_ HW_ hHeld ?_
    refine OS HT_ (fun K hK => ?_)
    refine GO Try.func77 #[.int .i64 ((rd_T78 l0 x7_1).f0)] ?_
    with_reducible refine MQ (impl_isID.calls ((rd_T78 l0 x7_1).f0) false _ A5.out) ?_
    intro nd
    refine hK.out _ _ ⟨bc BK346.out 0, bc BK346.out 1⟩ (fun hHeld => ?_)
    clear hK K
    refine NM 14 ?_
    iterate 29 first | refine PS HT_ ?_ | refine PT HT_ ?_
    refine done_ (done_of HT_.out (by kernel_rfl)) ?_
    try go_wp2
    go_ret
    exact QT (BT HB.out)
   subst c6
   replace H := HT H
   obtain ⟨t348, A7, H⟩ := OB H
   by_cases c8 : t348 = true
   rotate_left
   ·replace c8 := Bool.eq_false_iff.mpr c8
    subst c8
    replace H := HF H
    obtain rfl := Option.some.inj H
    have p345 : 0 ≤ (x7_1 : Int) := DT
    have q345 : x7_1 < (l0.length : Int) := DT
    obtain ⟨ad345, e345, hx345_0, hx345_1⟩ := at_T78 HR0.out x7_1 p345 q345
    cases e345
    replace hx345_0 := BC HB.out hx345_0
    replace hx345_1 := BC HB.out hx345_1
    replace p345 := eq_true p345
    replace q345 := eq_true q345
    try go_wp2_with (first | ((with_reducible refine G2 4 rfl ?_); refine BY 4 #[.int .i64 0, .int .i64 0] 78 HB ?_; clear HB; intro gb346 w31 BK346 GW346 HB; obtain ⟨hcz32_0, hcz32_1, hfz32_0, hfz32_1⟩ := bk2 BK346.out))
    generalize hW_ : (w31.setCell ⟨gb346, 0, none⟩ (.int .i64 ((rd_T78 l0 x7_1).f0))).setCell ⟨gb346, 1, none⟩ (.int .i64 ((rd_T78 l0 x7_1).f1)) = w33
    have n0_ : Aside0 (w33.heap[gb346]? = some (.cells #[.int .i64 ((rd_T78 l0 x7_1).f0), .int .i64 ((rd_T78 l0 x7_1).f1)] 78 (0, 0))) := by subst hW_; exact ⟨BQ BK346.out⟩
    have n1_ : Aside0 (Below w.heap.size w w33) := by subst hW_; exact ⟨BT HB.out⟩
    (try clear BK346)
    (try clear HB)
    clear hW_
    have BK346 := n0_
    have HB := n1_
    clear n0_ n1_
    replace BK346 := BD1 BK346
    replace HB := BD2 HB
    refine start_ (n := 32) (S := fun w' => w'.cell? ⟨gb346, 0, none⟩ = some (.int .i64 ((rd_T78 l0 x7_1).f0)) ∧ w'.cell? ⟨gb346, 1, none⟩ = some (.int .i64 ((rd_T78 l0 x7_1).f1))) (ds := []) (lo 0 32) (by kernel_rfl) rfl rfl ⟨bc BK346.out 0, bc BK346.out 1⟩ (fun hHeld => ?_); refine with_tabW impl_AreWaits.tab4 impl_AreWaits.bits4 (fun HT_ HW_ => ?_)
    generalize w33.drew = w34 at BK346 HB hHeld ⊢
    iterate 2 first | refine PS HT_ ?_ | refine TS HT_ HW_ hHeld ?_
    refine OS HT_ (fun K hK => ?_)
    refine GO Try.func77 #[.int .i64 ((rd_T78 l0 x7_1).f0)] ?_
    with_reducible refine MQ (impl_isID.calls ((rd_T78 l0 x7_1).f0) true _ A5.out) ?_
    intro nd
    refine hK.out _ _ ⟨bc BK346.out 0, bc BK346.out 1⟩ (fun hHeld => ?_)
    clear hK K
    refine NM 14 ?_
    iterate 4 first | refine PS HT_ ?_ | refine TS HT_ HW_ hHeld ?_
    refine OS HT_ (fun K hK => ?_)
    refine GO Try.func77 #[.int .i64 ((rd_T78 l0 x7_1).f1)] ?_
    with_reducible refine MQ (impl_isID.calls ((rd_T78 l0 x7_1).f1) false _ A7.out) ?_
    intro nd
    refine hK.out _ _ ⟨bc BK346.out 0, bc BK346.out 1⟩ (fun hHeld => ?_)
    clear hK K
    refine NM 19 ?_
    iterate 24 first | refine PS HT_ ?_ | refine PT HT_ ?_
    refine done_ (done_of HT_.out (by kernel_rfl)) ?_
    try go_wp2
    go_ret
    exact QT (BT HB.out)
   subst c8
   replace H := HT H
   by_cases c9 : ((rd_T78 l0 x7_1).f0) = ((rd_T78 l0 x7_1).f1)
   ·rw [if_pos c9] at H
    have c9b0 : (((rd_T78 l0 x7_1).f0) == ((rd_T78 l0 x7_1).f1)) = true := beq_iff_eq.mpr c9
    have c9b1 : (((rd_T78 l0 x7_1).f0) != ((rd_T78 l0 x7_1).f1)) = false := bne_eq_false_iff_eq.mpr c9
    clear c9
    obtain rfl := Option.some.inj H
    have p345 : 0 ≤ (x7_1 : Int) := DT
    have q345 : x7_1 < (l0.length : Int) := DT
    obtain ⟨ad345, e345, hx345_0, hx345_1⟩ := at_T78 HR0.out x7_1 p345 q345
    cases e345
    replace hx345_0 := BC HB.out hx345_0
    replace hx345_1 := BC HB.out hx345_1
    replace p345 := eq_true p345
    replace q345 := eq_true q345
    try go_wp2_with (first | ((with_reducible refine G2 4 rfl ?_); refine BY 4 #[.int .i64 0, .int .i64 0] 78 HB ?_; clear HB; intro gb346 w10 BK346 GW346 HB; obtain ⟨hcz11_0, hcz11_1, hfz11_0, hfz11_1⟩ := bk2 BK346.out))
    generalize hW_ : (w10.setCell ⟨gb346, 0, none⟩ (.int .i64 ((rd_T78 l0 x7_1).f0))).setCell ⟨gb346, 1, none⟩ (.int .i64 ((rd_T78 l0 x7_1).f1)) = w12
    have n0_ : Aside0 (w12.heap[gb346]? = some (.cells #[.int .i64 ((rd_T78 l0 x7_1).f0), .int .i64 ((rd_T78 l0 x7_1).f1)] 78 (0, 0))) := by subst hW_; exact ⟨BQ BK346.out⟩
    have n1_ : Aside0 (Below w.heap.size w w12) := by subst hW_; exact ⟨BT HB.out⟩
    (try clear BK346)
    (try clear HB)
    clear hW_
    have BK346 := n0_
    have HB := n1_
    clear n0_ n1_
    replace BK346 := BD1 BK346
    replace HB := BD2 HB
    refine start_ (n := 32) (S := fun w' => w'.cell? ⟨gb346, 0, none⟩ = some (.int .i64 ((rd_T78 l0 x7_1).f0)) ∧ w'.cell? ⟨gb346, 1, none⟩ = some (.int .i64 ((rd_T78 l0 x7_1).f1))) (ds := []) (lo 0 32) (by kernel_rfl) rfl rfl ⟨bc BK346.out 0, bc BK346.out 1⟩ (fun hHeld => ?_); refine with_tabW impl_AreWaits.tab4 impl_AreWaits.bits4 (fun HT_ HW_ => ?_)
    generalize w12.drew = w13 at BK346 HB hHeld ⊢
    iterate 2 first | refine PS HT_ ?_ | refine TS HT_ HW_ hHeld ?_
    refine OS HT_ (fun K hK => ?_)
    refine GO Try.func77 #[.int .i64 ((rd_T78 l0 x7_1).f0)] ?_
    with_reducible refine MQ (impl_isID.calls ((rd_T78 l0 x7_1).f0) true _ A5.out) ?_
    intro nd
    refine hK.out _ _ ⟨bc BK346.out 0, bc BK346.out 1⟩ (fun hHeld => ?_)
    clear hK K
    refine NM 14 ?_
    iterate 4 first | refine PS HT_ ?_ | refine TS HT_ HW_ hHeld ?_
    refine OS HT_ (fun K hK => ?_)
    refine GO Try.func77 #[.int .i64 ((rd_T78 l0 x7_1).f1)] ?_
    with_reducible refine MQ (impl_isID.calls ((rd_T78 l0 x7_1).f1) true _ A7.out) ?_
    intro nd
    refine hK.out _ _ ⟨bc BK346.out 0, bc BK346.out 1⟩ (fun hHeld => ?_)
    clear hK K
    refine NM 19 ?_
    iterate 4 refine PS HT_ ?_
    refine PV 13 (some 25) (bs 12287 32) HT_ ?_
    refine TX 12 (some 24) (lo 14 32) HT_ HW_ hHeld ?_
    iterate 18 first | refine PS HT_ ?_ | refine PT HT_ ?_ | refine TS HT_ HW_ hHeld ?_
    refine done_ (done_of HT_.out (by kernel_rfl)) ?_
    try go_wp2
    go_ret
    exact QT (BT HB.out)
   rw [if_neg c9] at H
   have c9b0 : (((rd_T78 l0 x7_1).f0) == ((rd_T78 l0 x7_1).f1)) = false := beq_eq_false_iff_ne.mpr c9
   have c9b1 : (((rd_T78 l0 x7_1).f0) != ((rd_T78 l0 x7_1).f1)) = true := bne_iff_ne.mpr c9
   by_cases c14 : x7_1 > 0
   rotate_left
   ·rw [if_neg c14] at H
    have c14b0 : decide (0 < x7_1) = false := decide_eq_false c14
    clear c14
    have H' := AM_ H
    clear H
    have p345 : 0 ≤ (x7_1 : Int) := DT
    have q345 : x7_1 < (l0.length : Int) := DT
    obtain ⟨ad345, e345, hx345_0, hx345_1⟩ := at_T78 HR0.out x7_1 p345 q345
    cases e345
    replace hx345_0 := BC HB.out hx345_0
    replace hx345_1 := BC HB.out hx345_1
    replace p345 := eq_true p345
    replace q345 := eq_true q345
    try go_wp2_with (first | ((with_reducible refine G2 4 rfl ?_); refine BY 4 #[.int .i64 0, .int .i64 0] 78 HB ?_; clear HB; intro gb346 w27 BK346 GW346 HB; obtain ⟨hcz28_0, hcz28_1, hfz28_0, hfz28_1⟩ := bk2 BK346.out))
    generalize hW_ : (w27.setCell ⟨gb346, 0, none⟩ (.int .i64 ((rd_T78 l0 x7_1).f0))).setCell ⟨gb346, 1, none⟩ (.int .i64 ((rd_T78 l0 x7_1).f1)) = w29
    have n0_ : Aside0 (w29.heap[gb346]? = some (.cells #[.int .i64 ((rd_T78 l0 x7_1).f0), .int .i64 ((rd_T78 l0 x7_1).f1)] 78 (0, 0))) := by subst hW_; exact ⟨BQ BK346.out⟩
    have n1_ : Aside0 (Below w.heap.size w w29) := by subst hW_; exact ⟨BT HB.out⟩
    (try clear BK346)
    (try clear HB)
    clear hW_
    have BK346 := n0_
    have HB := n1_
    clear n0_ n1_
    replace BK346 := BD1 BK346
    replace HB := BD2 HB
    refine start_ (n := 32) (S := fun w' => w'.cell? ⟨gb346, 0, none⟩ = some (.int .i64 ((rd_T78 l0 x7_1).f0)) ∧ w'.cell? ⟨gb346, 1, none⟩ = some (.int .i64 ((rd_T78 l0 x7_1).f1))) (ds := []) (lo 0 32) (by kernel_rfl) rfl rfl ⟨bc BK346.out 0, bc BK346.out 1⟩ (fun hHeld => ?_); refine with_tabW impl_AreWaits.tab4 impl_AreWaits.bits4 (fun HT_ HW_ => ?_)
    generalize w29.drew = w30 at BK346 HB hHeld ⊢
    iterate 2 first | refine PS HT_ ?_ | refine TS HT_ HW_ hHeld ?_
    refine OS HT_ (fun K hK => ?_)
    refine GO Try.func77 #[.int .i64 ((rd_T78 l0 x7_1).f0)] ?_
    with_reducible refine MQ (impl_isID.calls ((rd_T78 l0 x7_1).f0) true _ A5.out) ?_
    intro nd
    refine hK.out _ _ ⟨bc BK346.out 0, bc BK346.out 1⟩ (fun hHeld => ?_)
    clear hK K
    refine NM 14 ?_
    iterate 4 first | refine PS HT_ ?_ | refine TS HT_ HW_ hHeld ?_
    refine OS HT_ (fun K hK => ?_)
    refine GO Try.func77 #[.int .i64 ((rd_T78 l0 x7_1).f1)] ?_
    with_reducible refine MQ (impl_isID.calls ((rd_T78 l0 x7_1).f1) true _ A7.out) ?_
    intro nd
    refine hK.out _ _ ⟨bc BK346.out 0, bc BK346.out 1⟩ (fun hHeld => ?_)
    clear hK K
    refine NM 19 ?_
    iterate 4 refine PS HT_ ?_
    refine PV 13 (some 25) (bs 12287 32) HT_ ?_
    refine TX 12 (some 24) (lo 14 32) HT_ HW_ hHeld ?_
    iterate 18 first | refine PS HT_ ?_ | refine PT HT_ ?_ | refine TS HT_ HW_ hHeld ?_
    refine done_ (done_of HT_.out (by kernel_rfl)) ?_
    try go_wp2
    go_roundg k1
    case measure => have := HK1.out; omega
    case rel => exact ⟨(wrap64 (x7_1 + 1)), (by first | rfl | (simp; done) | (simp [*]; done)), H', ⟨by have := HK1.out; omega⟩, ⟨BT HB.out⟩⟩
   rw [if_pos c14] at H
   have c14b0 : decide (0 < x7_1) = true := decide_eq_true c14
   clear c14
   obtain ⟨ji15, hji15⟩ : ∃ j_ : Int, (wrap64 (x7_1 - 1)) = j_ := ⟨_, rfl⟩
   replace H : (if 0 ≤ (ji15) then (if (ji15) < (l0.length : Int) then (if ((rd_T78 l0 (ji15)).f0) ≥ ((rd_T78 l0 x7_1).f0) then (some false) else (impl_AreWaits.l0 k1 l0 l0 (l0.length : Int) (wrap64 (x7_1 + 1)))) else (none)) else (none)) = some r := by first | (rw [hji15] at H; exact H) | (simp only [hji15] at H ⊢; exact H)
   (try rw [hji15] at A5)
   (try rw [hji15] at A7)
   have hji15w : (IntKind.i64.wrap (x7_1 - 1)) = ji15 := (i64_w _).trans hji15
   replace H := HI H
   obtain ⟨c16, H⟩ := H
   have c16b0 := decide_eq_true c16
   clear c16
   replace H := HI H
   obtain ⟨c17, H⟩ := H
   have c17b0 := decide_eq_true c17
   clear c17
   by_cases c18 : ((rd_T78 l0 (ji15)).f0) ≥ ((rd_T78 l0 x7_1).f0)
   rotate_left
   ·rw [if_neg c18] at H
    have c18b0 : decide (((rd_T78 l0 x7_1).f0) ≤ ((rd_T78 l0 (ji15)).f0)) = false := decide_eq_false c18
    clear c18
    have H' := AM_ H
    clear H
    have p345 : 0 ≤ (x7_1 : Int) := DT
    have q345 : x7_1 < (l0.length : Int) := DT
    obtain ⟨ad345, e345, hx345_0, hx345_1⟩ := at_T78 HR0.out x7_1 p345 q345
    cases e345
    replace hx345_0 := BC HB.out hx345_0
    replace hx345_1 := BC HB.out hx345_1
    replace p345 := eq_true p345
    replace q345 := eq_true q345
    try go_wp2_with (first | ((with_reducible refine G2 4 rfl ?_); refine BY 4 #[.int .i64 0, .int .i64 0] 78 HB ?_; clear HB; intro gb346 w23 BK346 GW346 HB; obtain ⟨hcz24_0, hcz24_1, hfz24_0, hfz24_1⟩ := bk2 BK346.out))
    generalize hW_ : (w23.setCell ⟨gb346, 0, none⟩ (.int .i64 ((rd_T78 l0 x7_1).f0))).setCell ⟨gb346, 1, none⟩ (.int .i64 ((rd_T78 l0 x7_1).f1)) = w25
    have n0_ : Aside0 (w25.heap[gb346]? = some (.cells #[.int .i64 ((rd_T78 l0 x7_1).f0), .int .i64 ((rd_T78 l0 x7_1).f1)] 78 (0, 0))) := by subst hW_; exact ⟨BQ BK346.out⟩
    have n1_ : Aside0 (Below w.heap.size w w25) := by subst hW_; exact ⟨BT HB.out⟩
    (try clear BK346)
    (try clear HB)
    clear hW_
    have BK346 := n0_
    have HB := n1_
    clear n0_ n1_
    replace BK346 := BD1 BK346
    replace HB := BD2 HB
    have p349 : 0 ≤ ((ji15) : Int) := DT
    have q349 : (ji15) < (l0.length : Int) := DT
    obtain ⟨ad349, e349, hx349_0, hx349_1⟩ := at_T78 HR0.out (ji15) p349 q349
    have hw349_1 := hx349_1
    have hw349_0 := hx349_0
    obtain rfl : ad345 = ad349 := (by injection e349)
    replace hx349_0 := BC HB.out hx349_0
    replace hx349_1 := BC HB.out hx349_1
    replace p349 := eq_true p349
    replace q349 := eq_true q349
    refine start_ (n := 32) (S := fun w' => w'.cell? ⟨gb346, 0, none⟩ = some (.int .i64 ((rd_T78 l0 x7_1).f0)) ∧ w'.cell? ⟨gb346, 1, none⟩ = some (.int .i64 ((rd_T78 l0 x7_1).f1)) ∧ w'.cell? (ad345.add (((ji15)).toNat * 2)) = some (.int .i64 ((rd_T78 l0 (ji15)).f0)) ∧ w'.cell? ⟨(ad345.add (((ji15)).toNat * 2)).block, (ad345.add (((ji15)).toNat * 2)).off + 1, none⟩ = some (.int .i64 ((rd_T78 l0 (ji15)).f1))) (ds := []) (lo 0 32) (by kernel_rfl) rfl rfl ⟨bc BK346.out 0, bc BK346.out 1, (BD HB.out hw349_0), (BD HB.out hw349_1)⟩ (fun hHeld => ?_); refine with_tabW impl_AreWaits.tab4 impl_AreWaits.bits4 (fun HT_ HW_ => ?_)
    generalize w25.drew = w26 at BK346 HB hx349_0 hx349_1 hHeld ⊢
    iterate 2 first | refine PS HT_ ?_ | refine TS HT_ HW_ hHeld ?_
    refine OS HT_ (fun K hK => ?_)
    refine GO Try.func77 #[.int .i64 ((rd_T78 l0 x7_1).f0)] ?_
    with_reducible refine MQ (impl_isID.calls ((rd_T78 l0 x7_1).f0) true _ A5.out) ?_
    intro nd
    refine hK.out _ _ ⟨bc BK346.out 0, bc BK346.out 1, (BD HB.out hw349_0), (BD HB.out hw349_1)⟩ (fun hHeld => ?_)
    clear hK K
    refine NM 14 ?_
    iterate 4 first | refine PS HT_ ?_ | refine TS HT_ HW_ hHeld ?_
    refine OS HT_ (fun K hK => ?_)
    refine GO Try.func77 #[.int .i64 ((rd_T78 l0 x7_1).f1)] ?_
    with_reducible refine MQ (impl_isID.calls ((rd_T78 l0 x7_1).f1) true _ A7.out) ?_
    intro nd
    refine hK.out _ _ ⟨bc BK346.out 0, bc BK346.out 1, (BD HB.out hw349_0), (BD HB.out hw349_1)⟩ (fun hHeld => ?_)
    clear hK K
    refine NM 19 ?_
    iterate 4 refine PS HT_ ?_
    refine PV 13 (some 25) (bs 12287 32) HT_ ?_
    refine TX 12 (some 24) (lo 14 32) HT_ HW_ hHeld ?_
    iterate 12 first | refine PS HT_ ?_ | refine TS HT_ HW_ hHeld ?_
    refine PV 27 (some 39) (bs 201326591 32) HT_ ?_
    refine TX 26 (some 38) (lo 28 32) HT_ HW_ hHeld ?_
    iterate 4 first | refine PS HT_ ?_ | refine TS HT_ HW_ hHeld ?_
    refine done_ (done_of HT_.out (by kernel_rfl)) ?_
    try go_wp2
    go_roundg k1
    case measure => have := HK1.out; omega
    case rel => exact ⟨(wrap64 (x7_1 + 1)), (by first | rfl | (simp; done) | (simp [*]; done)), H', ⟨by have := HK1.out; omega⟩, ⟨BT HB.out⟩⟩
   rw [if_pos c18] at H
   have c18b0 : decide (((rd_T78 l0 x7_1).f0) ≤ ((rd_T78 l0 (ji15)).f0)) = true := decide_eq_true c18
   clear c18
   obtain rfl := Option.some.inj H
   have p345 : 0 ≤ (x7_1 : Int) := DT
   have q345 : x7_1 < (l0.length : Int) := DT
   obtain ⟨ad345, e345, hx345_0, hx345_1⟩ := at_T78 HR0.out x7_1 p345 q345
   cases e345
   replace hx345_0 := BC HB.out hx345_0
   replace hx345_1 := BC HB.out hx345_1
   replace p345 := eq_true p345
   replace q345 := eq_true q345
   try go_wp2_with (first | ((with_reducible refine G2 4 rfl ?_); refine BY 4 #[.int .i64 0, .int .i64 0] 78 HB ?_; clear HB; intro gb346 w19 BK346 GW346 HB; obtain ⟨hcz20_0, hcz20_1, hfz20_0, hfz20_1⟩ := bk2 BK346.out))
   generalize hW_ : (w19.setCell ⟨gb346, 0, none⟩ (.int .i64 ((rd_T78 l0 x7_1).f0))).setCell ⟨gb346, 1, none⟩ (.int .i64 ((rd_T78 l0 x7_1).f1)) = w21
   have n0_ : Aside0 (w21.heap[gb346]? = some (.cells #[.int .i64 ((rd_T78 l0 x7_1).f0), .int .i64 ((rd_T78 l0 x7_1).f1)] 78 (0, 0))) := by subst hW_; exact ⟨BQ BK346.out⟩
   have n1_ : Aside0 (Below w.heap.size w w21) := by subst hW_; exact ⟨BT HB.out⟩
   (try clear BK346)
   (try clear HB)
   clear hW_
   have BK346 := n0_
   have HB := n1_
   clear n0_ n1_
   replace BK346 := BD1 BK346
   replace HB := BD2 HB
   have p349 : 0 ≤ ((ji15) : Int) := DT
   have q349 : (ji15) < (l0.length : Int) := DT
   obtain ⟨ad349, e349, hx349_0, hx349_1⟩ := at_T78 HR0.out (ji15) p349 q349
   have hw349_1 := hx349_1
   have hw349_0 := hx349_0
   obtain rfl : ad345 = ad349 := (by injection e349)
   replace hx349_0 := BC HB.out hx349_0
   replace hx349_1 := BC HB.out hx349_1
   replace p349 := eq_true p349
   replace q349 := eq_true q349
   refine start_ (n := 32) (S := fun w' => w'.cell? ⟨gb346, 0, none⟩ = some (.int .i64 ((rd_T78 l0 x7_1).f0)) ∧ w'.cell? ⟨gb346, 1, none⟩ = some (.int .i64 ((rd_T78 l0 x7_1).f1)) ∧ w'.cell? (ad345.add (((ji15)).toNat * 2)) = some (.int .i64 ((rd_T78 l0 (ji15)).f0)) ∧ w'.cell? ⟨(ad345.add (((ji15)).toNat * 2)).block, (ad345.add (((ji15)).toNat * 2)).off + 1, none⟩ = some (.int .i64 ((rd_T78 l0 (ji15)).f1))) (ds := []) (lo 0 32) (by kernel_rfl) rfl rfl ⟨bc BK346.out 0, bc BK346.out 1, (BD HB.out hw349_0), (BD HB.out hw349_1)⟩ (fun hHeld => ?_); refine with_tabW impl_AreWaits.tab4 impl_AreWaits.bits4 (fun HT_ HW_ => ?_)
   generalize w21.drew = w22 at BK346 HB hx349_0 hx349_1 hHeld ⊢
   iterate 2 first | refine PS HT_ ?_ | refine TS HT_ HW_ hHeld ?_
   refine OS HT_ (fun K hK => ?_)
   refine GO Try.func77 #[.int .i64 ((rd_T78 l0 x7_1).f0)] ?_
   with_reducible refine MQ (impl_isID.calls ((rd_T78 l0 x7_1).f0) true _ A5.out) ?_
   intro nd
   refine hK.out _ _ ⟨bc BK346.out 0, bc BK346.out 1, (BD HB.out hw349_0), (BD HB.out hw349_1)⟩ (fun hHeld => ?_)
   clear hK K
   refine NM 14 ?_
   iterate 4 first | refine PS HT_ ?_ | refine TS HT_ HW_ hHeld ?_
   refine OS HT_ (fun K hK => ?_)
   refine GO Try.func77 #[.int .i64 ((rd_T78 l0 x7_1).f1)] ?_
   with_reducible refine MQ (impl_isID.calls ((rd_T78 l0 x7_1).f1) true _ A7.out) ?_
   intro nd
   refine hK.out _ _ ⟨bc BK346.out 0, bc BK346.out 1, (BD HB.out hw349_0), (BD HB.out hw349_1)⟩ (fun hHeld => ?_)
   clear hK K
   refine NM 19 ?_
   iterate 4 refine PS HT_ ?_
   refine PV 13 (some 25) (bs 12287 32) HT_ ?_
   refine TX 12 (some 24) (lo 14 32) HT_ HW_ hHeld ?_
   iterate 12 first | refine PS HT_ ?_ | refine TS HT_ HW_ hHeld ?_
   refine PV 27 (some 39) (bs 201326591 32) HT_ ?_
   refine TX 26 (some 38) (lo 28 32) HT_ HW_ hHeld ?_
   iterate 4 first | refine PS HT_ ?_ | refine TS HT_ HW_ hHeld ?_
   refine done_ (done_of HT_.out (by kernel_rfl)) ?_
   try go_wp2
   go_ret
   exact ⟨by first | rfl | (simp [errW_none, errW_some] <;> rfl) | (simp only [← hji15]; first | rfl | (simp [errW_none, errW_some] <;> rfl)) | (simp [*, errW_none, errW_some] <;> rfl), BT HB.out⟩

end Go.Proofs.Ytdgknikgfjhohaa.PFnExactIsValidEngine
