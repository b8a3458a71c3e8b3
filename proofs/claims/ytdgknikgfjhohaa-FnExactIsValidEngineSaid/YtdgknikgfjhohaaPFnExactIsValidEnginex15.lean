-- Printed by wip/myprint.py.
import Derived.Test.YtdgknikgfjhohaaPFnExactIsValidEnginex12
import Derived.Test.YtdgknikgfjhohaaPFnExactIsValidEnginex14
namespace Go.Proofs.Ytdgknikgfjhohaa.PFnExactIsValidEngine
open Go.RowKit Go.Proofs.YtdgknikgfjhohaaW.PrintWords Go.Proofs.YtdgknikgfjhohaaW.PrintLast Go.Proofs.YtdgknikgfjhohaaW.PrintMore
set_option maxHeartbeats 8000000
set_option maxRecDepth 100000
set_option linter.unusedVariables false
set_option linter.unusedSimpArgs false

/-! ### impl_areReads: function 111 -/
mutual
def impl_areReads.l0 : Nat → List (S116) → List (S116) → Int → Int → Option (Bool)
 | 0, _, _, _, _ => none
 | k + 1, x0, x5, x6, x7 => if x7 < x6 then (if 0 ≤ x7 then (if x7 < (x5.length : Int) then ((impl_isKey.f ((rd_T116 x5 x7).f0)).bind fun t369 => (if t369 = true then ((impl_in.f ((rd_T116 x5 x7).f1) 0 999).bind fun t370 => (if t370 = true then (if x7 > 0 then (if 0 ≤ (wrap64 (x7 - 1)) then (if (wrap64 (x7 - 1)) < (x0.length : Int) then ((impl_compareMarks.f k ((rd_T116 x0 (wrap64 (x7 - 1))).f0) ((rd_T116 x0 (wrap64 (x7 - 1))).f1) ((rd_T116 x5 x7).f0) ((rd_T116 x5 x7).f1)).bind fun t372 => (impl_areReads.j1 k x0 x7 x5 x6 (decide (t372 ≥ 0)))) else (none)) else (none)) else (impl_areReads.j1 k x0 x7 x5 x6 false)) else (impl_areReads.j1 k x0 x7 x5 x6 true))) else (impl_areReads.j1 k x0 x7 x5 x6 true))) else (none)) else (none)) else (some (decide ((x0.length : Int) ≤ 60)))
def impl_areReads.j1 : Nat → List (S116) → Int → List (S116) → Int → Bool → Option (Bool)
 | 0, _, _, _, _, _ => none
 | k + 1, x0, x3, x5, x6, x35 => if x35 = true then (some false) else (impl_areReads.l0 k x0 x5 x6 (wrap64 (x3 + 1)))
end
def impl_areReads.f (k : Nat) (l0 : List (S116)) : Option (Bool) := impl_areReads.l0 k l0 l0 (l0.length : Int) 0
theorem impl_areReads.mono_l : ∀ k, (∀ y0 y1 y2 y3, LeO (impl_areReads.l0 k y0 y1 y2 y3) (impl_areReads.l0 (k + 1) y0 y1 y2 y3)) ∧ (∀ y0 y1 y2 y3 y4, LeO (impl_areReads.j1 k y0 y1 y2 y3 y4) (impl_areReads.j1 (k + 1) y0 y1 y2 y3 y4))
 | 0 => ⟨fun _ _ _ _ r h => by simp [impl_areReads.l0] at h, fun _ _ _ _ _ r h => by simp [impl_areReads.j1] at h⟩
 | k + 1 => by
  obtain ⟨ih0, ih1⟩ := impl_areReads.mono_l k
  refine ⟨?_, ?_⟩
  all_goals intros; first | unfold impl_areReads.l0 | unfold impl_areReads.j1
  all_goals repeat' (with_reducible first | exact ih0 .. | exact ih1 .. | exact impl_compareMarks.mono .. | exact LeO.refl _ | exact LeO.none _ | refine LeO.ite ?_ ?_ | refine LeO.bind ?_ (fun _ => ?_))
theorem impl_areReads.mono : ∀ a0 k, LeO (impl_areReads.f k a0) (impl_areReads.f (k + 1) a0) := by
 intro a0 k
 obtain ⟨ih0, ih1⟩ := impl_areReads.mono_l k
 unfold impl_areReads.f
 repeat' (with_reducible first | exact ih0 .. | exact ih1 .. | exact impl_compareMarks.mono .. | exact LeO.refl _ | exact LeO.none _ | refine LeO.ite ?_ ?_ | refine LeO.bind ?_ (fun _ => ?_))
def impl_areReads.T4 : Bool × List (List Nat × List Nat) := (true, [([], []), ([0], [0]), ([1], [1]), ([2], [2]), ([3, 2], [3]), ([4], [4]), ([5, 4], [4, 5]), ([6, 4, 4], [4, 6]), ([7, 4], [4, 7]), ([4, 8], [4, 8]), ([9, 7], [9]), ([10], [10]), ([11, 10], [10, 11]), ([12, 10, 10], [10, 12]), ([13], [13]), ([13], [13]), ([15, 13], [13, 15]), ([14, 16, 13], [13, 14, 16]), ([17, 13], [13, 17]), ([13], [13]), ([18, 19, 13, 13], [13, 18, 19]), ([20, 13], [13, 20]), ([13, 21, 10], [10, 13, 21]), ([10, 22], [10, 22])])
def impl_areReads.B4 : List Nat := [0, 1, 3, 7, 15, 31, 63, 127, 255, 511, 1023, 2047, 4095, 8191, 16383, 16383, 49151, 131071, 262143, 16383, 1048575, 2097151, 4194303, 8388607]
theorem impl_areReads.tab4 : rtab .any (opsOf Try.f111 4) = impl_areReads.T4 := by kernel_rfl
theorem impl_areReads.bits4 : waitsOk impl_areReads.T4.2 impl_areReads.B4 = true := by kernel_rfl
theorem impl_areReads.calls (k : Nat) (A0 : Option Addr) (c0 : Nat) (l0 : List (S116)) (r : Bool) (w : World) (hr0 : Kd.C k116 w A0 l0.length l0) (hc0 : l0.length ≤ c0) (h : impl_areReads.f k l0 = some r) :
  Calls Try.prog 111 #[.slice A0 l0.length c0] w fun e w' => e = .returned (.bool r) ∧ Below w.heap.size w w' := by
 have hu116 := Try.underlying116
 have HR0 := AM_ hr0
 have HC0 := AM_ hc0
 clear hr0 hc0
 have HB := AM_ (Below.refl w.heap.size w)
 unfold impl_areReads.f at h
 have H := h
 clear h
 have H' := AM_ H
 clear H
 go_enter Try.func111, Try.ntmps111
 go_wp2
 go_loopg [7] k (fun kq v7 w' => ∃ (x7_1 : Int), v7 = .int .i64 x7_1 ∧ Aside0 (impl_areReads.l0 kq l0 l0 (l0.length : Int) x7_1 = some r) ∧ Aside0 (kq ≤ k) ∧ Aside0 (Below w.heap.size w w'))
 case atStart => exact ⟨(0), (by first | rfl | (simp; done) | (simp [*]; done)), H', ⟨Nat.le_refl _⟩, ⟨BT HB.out⟩⟩
 case round =>
  clear H'
  obtain ⟨x7_1, rfl, HA, HK1, HB⟩ := hrel
  cases gk with
  | zero => exact absurd HA.out (by simp [impl_areReads.l0])
  | succ k1 =>
   have H := HA.out
   clear HA
   simp only [impl_areReads.l0] at H
   by_cases c2 : x7_1 < (l0.length : Int)
   rotate_left
   ·rw [if_neg c2] at H
    have c2b0 := decide_eq_false c2
    clear c2
    obtain rfl := Option.some.inj H
    go_wp2
    go_ret
    exact QT (BT HB.out)
   rw [if_pos c2] at H
   have c2b0 := decide_eq_true c2
   clear c2
   replace H := HI H
   obtain ⟨c3, H⟩ := H
   have c3b0 := decide_eq_true c3
   clear c3
   replace H := HI H
   obtain ⟨c4, H⟩ := H
   have c4b0 := decide_eq_true c4
   clear c4
   have HC5 := AM_ H
   clear H
   have p367 : 0 ≤ (x7_1 : Int) := DT
   have q367 : x7_1 < (l0.length : Int) := DT
   obtain ⟨ad367, e367, hx367_0, hx367_1⟩ := at_T116 HR0.out x7_1 p367 q367
   cases e367
   replace hx367_0 := BC HB.out hx367_0
   replace hx367_1 := BC HB.out hx367_1
   replace p367 := eq_true p367
   replace q367 := eq_true q367
   go_upto_region 4 with (first | ((with_reducible refine G2 4 rfl ?_); refine BY 4 #[.int .i64 0, .int .i64 0] 116 HB ?_; clear HB; intro gb368 w6 BK368 GW368 HB; obtain ⟨hcz7_0, hcz7_1, hfz7_0, hfz7_1⟩ := bk2 BK368.out))
   (try simp only [pA, pS, pZ, pK])
   go_cut [35] (fun v35 wc => ∃ (kq : Nat) (x35_4 : Bool), v35 = .bool x35_4 ∧ Aside0 (impl_areReads.j1 kq l0 x7_1 l0 (l0.length : Int) x35_4 = some r) ∧ Aside0 (kq ≤ k1) ∧ Aside0 (wc.heap[gb368]? = some (.cells #[.int .i64 ((rd_T116 l0 x7_1).f0), .int .i64 ((rd_T116 l0 x7_1).f1)] 116 (0, 0))) ∧ Aside0 (Below w.heap.size w wc))
   case first =>
    have H := HC5.out
    clear HC5
    obtain ⟨t369, A8, H⟩ := OB H
    by_cases c9 : t369 = true
    rotate_left
    ·replace c9 := Bool.eq_false_iff.mpr c9
     subst c9
     replace H := HF H
     have H' := AM_ H
     clear H
     try go_wp2
     generalize hW_ : (w6.setCell ⟨gb368, 0, none⟩ (.int .i64 ((rd_T116 l0 x7_1).f0))).setCell ⟨gb368, 1, none⟩ (.int .i64 ((rd_T116 l0 x7_1).f1)) = w24
     have n0_ : Aside0 (w24.heap[gb368]? = some (.cells #[.int .i64 ((rd_T116 l0 x7_1).f0), .int .i64 ((rd_T116 l0 x7_1).f1)] 116 (0, 0))) := by subst hW_; exact ⟨BQ BK368.out⟩
     have n1_ : Aside0 (Below w.heap.size w w24) := by subst hW_; exact ⟨BT HB.out⟩
     (try clear BK368)
     (try clear HB)
     clear hW_
     have BK368 := n0_
     have HB := n1_
     clear n0_ n1_
     replace BK368 := BD1 BK368
     replace HB := BD2 HB
     refine start_ (n := 24) (S := fun w' => w'.cell? ⟨gb368, 0, none⟩ = some (.int .i64 ((rd_T116 l0 x7_1).f0)) ∧ w'.cell? ⟨gb368, 1, none⟩ = some (.int .i64 ((rd_T116 l0 x7_1).f1))) (ds := []) (lo 0 24) (by kernel_rfl) rfl rfl ⟨bc BK368.out 0, bc BK368.out 1⟩ (fun hHeld => ?_); refine with_tabW impl_areReads.tab4 impl_areReads.bits4 (fun HT_ HW_ => ?_)
     generalize w24.drew = w25 at BK368 HB hHeld ⊢
     iterate 2 first | refine PS HT_ ?_ | refine TS HT_ HW_ hHeld ?_
     refine OS HT_ (fun K hK => ?_)
     refine GO Try.func56 #[.int .i64 ((rd_T116 l0 x7_1).f0)] ?_
     with_reducible refine MQ (impl_isKey.calls ((rd_T116 l0 x7_1).f0) false _ A8.out) ?_
     intro nd
     refine hK.out _ _ ⟨bc BK368.out 0, bc BK368.out 1⟩ (fun hHeld => ?_)
     clear hK K
     refine NM 14 ?_
     iterate 21 first | refine PS HT_ ?_ | refine PT HT_ ?_
     refine done_ (done_of HT_.out (by kernel_rfl)) ?_
     try go_wp2
     go_meet
     case rel => exact ⟨_, (true), (by first | rfl | (simp; done) | (simp [*]; done)), H', ⟨by have := HK1.out; first | omega | exact Nat.le_refl _⟩, ⟨BH BK368.out⟩, ⟨BT HB.out⟩⟩
    subst c9
    replace H := HT H
    obtain ⟨t370, A10, H⟩ := OB H
    by_cases c11 : t370 = true
    rotate_left
    ·replace c11 := Bool.eq_false_iff.mpr c11
     subst c11
     replace H := HF H
     have H' := AM_ H
     clear H
     try go_wp2
     generalize hW_ : (w6.setCell ⟨gb368, 0, none⟩ (.int .i64 ((rd_T116 l0 x7_1).f0))).setCell ⟨gb368, 1, none⟩ (.int .i64 ((rd_T116 l0 x7_1).f1)) = w22
     have n0_ : Aside0 (w22.heap[gb368]? = some (.cells #[.int .i64 ((rd_T116 l0 x7_1).f0), .int .i64 ((rd_T116 l0 x7_1).f1)] 116 (0, 0))) := by subst hW_; exact ⟨BQ BK368.out⟩
     have n1_ : Aside0 (Below w.heap.size w w22) := by subst hW_; exact ⟨BT HB.out⟩
     (try clear BK368)
     (try clear HB)
     clear hW_
     have BK368 := n0_
     have HB := n1_
     clear n0_ n1_
     replace BK368 := BD1 BK368
     replace HB := BD2 HB
     refine start_ (n := 24) (S := fun w' => w'.cell? ⟨gb368, 0, none⟩ = some (.int .i64 ((rd_T116 l0 x7_1).f0)) ∧ w'.cell? ⟨gb368, 1, none⟩ = some (.int .i64 ((rd_T116 l0 x7_1).f1))) (ds := []) (lo 0 24) (by kernel_rfl) rfl rfl ⟨bc BK368.out 0, bc BK368.out 1⟩ (fun hHeld => ?_); refine with_tabW impl_areReads.tab4 impl_areReads.bits4 (fun HT_ HW_ => ?_)
     generalize w22.drew = w23 at BK368 HB hHeld ⊢
     iterate 2 first | refine PS HT_ ?_ | refine TS HT_ HW_ hHeld ?_
     refine OS HT_ (fun K hK => ?_)
     refine GO Try.func56 #[.int .i64 ((rd_T116 l0 x7_1).f0)] ?_
     with_reducible refine MQ (impl_isKey.calls ((rd_T116 l0 x7_1).f0) true _ A8.out) ?_
     intro nd
     refine hK.out _ _ ⟨bc BK368.out 0, bc BK368.out 1⟩ (fun hHeld => ?_)
     clear hK K
     refine NM 14 ?_
     iterate 4 first | refine PS HT_ ?_ | refine TS HT_ HW_ hHeld ?_
     refine OS HT_ (fun K hK => ?_)
     refine GO Try.func41 #[.int .i64 ((rd_T116 l0 x7_1).f1), .int .i64 0, .int .i64 999] ?_
     with_reducible refine MQ (impl_in.calls ((rd_T116 l0 x7_1).f1) 0 999 false _ A10.out) ?_
     intro nd
     refine hK.out _ _ ⟨bc BK368.out 0, bc BK368.out 1⟩ (fun hHeld => ?_)
     clear hK K
     refine NM 19 ?_
     iterate 16 first | refine PS HT_ ?_ | refine PT HT_ ?_
     refine done_ (done_of HT_.out (by kernel_rfl)) ?_
     try go_wp2
     go_meet
     case rel => exact ⟨_, (true), (by first | rfl | (simp; done) | (simp [*]; done)), H', ⟨by have := HK1.out; first | omega | exact Nat.le_refl _⟩, ⟨BH BK368.out⟩, ⟨BT HB.out⟩⟩
    subst c11
    replace H := HT H
    by_cases c12 : x7_1 > 0
    rotate_left
    ·rw [if_neg c12] at H
     have c12b0 : decide (0 < x7_1) = false := decide_eq_false c12
     clear c12
     (first | rw [c12b0] | (simp only [i64_w, i32_w]; rw [c12b0]) | skip)
     have H' := AM_ H
     clear H
     try go_wp2
     generalize hW_ : (w6.setCell ⟨gb368, 0, none⟩ (.int .i64 ((rd_T116 l0 x7_1).f0))).setCell ⟨gb368, 1, none⟩ (.int .i64 ((rd_T116 l0 x7_1).f1)) = w20
     have n0_ : Aside0 (w20.heap[gb368]? = some (.cells #[.int .i64 ((rd_T116 l0 x7_1).f0), .int .i64 ((rd_T116 l0 x7_1).f1)] 116 (0, 0))) := by subst hW_; exact ⟨BQ BK368.out⟩
     have n1_ : Aside0 (Below w.heap.size w w20) := by subst hW_; exact ⟨BT HB.out⟩
     (try clear BK368)
     (try clear HB)
     clear hW_
     have BK368 := n0_
     have HB := n1_
     clear n0_ n1_
     replace BK368 := BD1 BK368
     replace HB := BD2 HB
     refine start_ (n := 24) (S := fun w' => w'.cell? ⟨gb368, 0, none⟩ = some (.int .i64 ((rd_T116 l0 x7_1).f0)) ∧ w'.cell? ⟨gb368, 1, none⟩ = some (.int .i64 ((rd_T116 l0 x7_1).f1))) (ds := []) (lo 0 24) (by kernel_rfl) rfl rfl ⟨bc BK368.out 0, bc BK368.out 1⟩ (fun hHeld => ?_); refine with_tabW impl_areReads.tab4 impl_areReads.bits4 (fun HT_ HW_ => ?_)
     generalize w20.drew = w21 at BK368 HB hHeld ⊢
     iterate 2 first | refine PS HT_ ?_ | refine TS HT_ HW_ hHeld ?_
     refine OS HT_ (fun K hK => ?_)
     refine GO Try.func56 #[.int .i64 ((rd_T116 l0 x7_1).f0)] ?_
     with_reducible refine MQ (impl_isKey.calls ((rd_T116 l0 x7_1).f0) true _ A8.out) ?_
     intro nd
     refine hK.out _ _ ⟨bc BK368.out 0, bc BK368.out 1⟩ (fun hHeld => ?_)
     clear hK K
     refine NM 14 ?_
     iterate 4 first | refine PS HT_ ?_ | refine TS HT_ HW_ hHeld ?_
     refine OS HT_ (fun K hK => ?_)
     refine GO Try.func41 #[.int .i64 ((rd_T116 l0 x7_1).f1), .int .i64 0, .int .i64 999] ?_
     with_reducible refine MQ (impl_in.calls ((rd_T116 l0 x7_1).f1) 0 999 true _ A10.out) ?_
     intro nd
     refine hK.out _ _ ⟨bc BK368.out 0, bc BK368.out 1⟩ (fun hHeld => ?_)
     clear hK K
     refine NM 19 ?_
     iterate 16 first | refine PS HT_ ?_ | refine PT HT_ ?_
     refine done_ (done_of HT_.out (by kernel_rfl)) ?_
     try go_wp2
     go_meet
     case rel => exact ⟨_, (false), (by first | rfl | (simp; done) | (simp [*]; done)), H', ⟨by have := HK1.out; first | omega | exact Nat.le_refl _⟩, ⟨BH BK368.out⟩, ⟨BT HB.out⟩⟩
    rw [if_pos c12] at H
    have c12b0 : decide (0 < x7_1) = true := decide_eq_true c12
    clear c12
    (first | rw [c12b0] | (simp only [i64_w, i32_w]; rw [c12b0]) | skip)
    obtain ⟨ji13, hji13⟩ : ∃ j_ : Int, (wrap64 (x7_1 - 1)) = j_ := ⟨_, rfl⟩
    replace H : (if 0 ≤ (ji13) then (if (ji13) < (l0.length : Int) then ((impl_compareMarks.f k1 ((rd_T116 l0 (ji13)).f0) ((rd_T116 l0 (ji13)).f1) ((rd_T116 l0 x7_1).f0) ((rd_T116 l0 x7_1).f1)).bind fun t372 => (impl_areReads.j1 k1 l0 x7_1 l0 (l0.length : Int) (decide (t372 ≥ 0)))) else (none)) else (none)) = some r := by first | (rw [hji13] at H; exact H) | (simp only [hji13] at H ⊢; exact H)
    (try rw [hji13] at A8)
    (try rw [hji13] at A10)
    have hji13w : (IntKind.i64.wrap (x7_1 - 1)) = ji13 := (i64_w _).trans hji13
    replace H := HI H
    obtain ⟨c14, H⟩ := H
    have c14b0 := decide_eq_true c14
    clear c14
    replace H := HI H
    obtain ⟨c15, H⟩ := H
    have c15b0 := decide_eq_true c15
    clear c15
    obtain ⟨t372, A16, H⟩ := OB H
    have H' := AM_ H
    clear H
    try go_wp2
    generalize hW_ : (w6.setCell ⟨gb368, 0, none⟩ (.int .i64 ((rd_T116 l0 x7_1).f0))).setCell ⟨gb368, 1, none⟩ (.int .i64 ((rd_T116 l0 x7_1).f1)) = w17
    have n0_ : Aside0 (w17.heap[gb368]? = some (.cells #[.int .i64 ((rd_T116 l0 x7_1).f0), .int .i64 ((rd_T116 l0 x7_1).f1)] 116 (0, 0))) := by subst hW_; exact ⟨BQ BK368.out⟩
    have n1_ : Aside0 (Below w.heap.size w w17) := by subst hW_; exact ⟨BT HB.out⟩
    (try clear BK368)
    (try clear HB)
    clear hW_
    have BK368 := n0_
    have HB := n1_
    clear n0_ n1_
    replace BK368 := BD1 BK368
    replace HB := BD2 HB
    have p371 : 0 ≤ ((ji13) : Int) := DT
    have q371 : (ji13) < (l0.length : Int) := DT
    obtain ⟨ad371, e371, hx371_0, hx371_1⟩ := at_T116 HR0.out (ji13) p371 q371
    have hw371_1 := hx371_1
    have hw371_0 := hx371_0
    obtain rfl : ad367 = ad371 := (by injection e371)
    replace hx371_0 := BC HB.out hx371_0
    replace hx371_1 := BC HB.out hx371_1
    replace p371 := eq_true p371
    replace q371 := eq_true q371
    refine start_ (n := 24) (S := fun w' => w'.cell? ⟨gb368, 0, none⟩ = some (.int .i64 ((rd_T116 l0 x7_1).f0)) ∧ w'.cell? ⟨gb368, 1, none⟩ = some (.int .i64 ((rd_T116 l0 x7_1).f1)) ∧ w'.cell? (ad367.add (((ji13)).toNat * 2)) = some (.int .i64 ((rd_T116 l0 (ji13)).f0)) ∧ w'.cell? ⟨(ad367.add (((ji13)).toNat * 2)).block, (ad367.add (((ji13)).toNat * 2)).off + 1, none⟩ = some (.int .i64 ((rd_T116 l0 (ji13)).f1))) (ds := []) (lo 0 24) (by kernel_rfl) rfl rfl ⟨bc BK368.out 0, bc BK368.out 1, (BD HB.out hw371_0), (BD HB.out hw371_1)⟩ (fun hHeld => ?_); refine with_tabW impl_areReads.tab4 impl_areReads.bits4 (fun HT_ HW_ => ?_)
    generalize w17.drew = w18 at BK368 HB hx371_0 hx371_1 hHeld ⊢
    iterate 2 first | refine PS HT_ ?_ | refine TS HT_ HW_ hHeld ?_
    refine OS HT_ (fun K hK => ?_)
    refine GO Try.func56 #[.int .i64 ((rd_T116 l0 x7_1).f0)] ?_
    with_reducible refine MQ (impl_isKey.calls ((rd_T116 l0 x7_1).f0) true _ A8.out) ?_
    intro nd
    refine hK.out _ _ ⟨bc BK368.out 0, bc BK368.out 1, (BD HB.out hw371_0), (BD HB.out hw371_1)⟩ (fun hHeld => ?_)
    clear hK K
    refine NM 14 ?_
    iterate 4 first | refine PS HT_ ?_ | refine TS HT_ HW_ hHeld ?_
    refine OS HT_ (fun K hK => ?_)
    refine GO Try.func41 #[.int .i64 ((rd_T116 l0 x7_1).f1), .int .i64 0, .int .i64 999] ?_
    with_reducible refine MQ (impl_in.calls ((rd_T116 l0 x7_1).f1) 0 999 true _ A10.out) ?_
    intro nd
    refine hK.out _ _ ⟨bc BK368.out 0, bc BK368.out 1, (BD HB.out hw371_0), (BD HB.out hw371_1)⟩ (fun hHeld => ?_)
    clear hK K
    refine NM 19 ?_
    iterate 12 first | refine PS HT_ ?_ | refine TS HT_ HW_ hHeld ?_
    refine OS HT_ (fun K hK => ?_)
    refine goes_ Try.func131 (by kernel_rfl) rfl #[.agg #[.int .i64 ((rd_T116 l0 (ji13)).f0), .int .i64 ((rd_T116 l0 (ji13)).f1)], .agg #[.int .i64 ((rd_T116 l0 x7_1).f0), .int .i64 ((rd_T116 l0 x7_1).f1)]] (by rfl) rfl rfl (by (try simp only [List.map_toArray, List.map_cons, List.map_nil]); first | done | (simp only [hji13]; rfl) | rfl | (simp only [List.length_drop, List.length_take]; rfl)) ?_
    with_reducible refine (impl_compareMarks.calls k1 ((rd_T116 l0 (ji13)).f0) ((rd_T116 l0 (ji13)).f1) ((rd_T116 l0 x7_1).f0) ((rd_T116 l0 x7_1).f1) t372 _ A16.out).mono ?_
    rintro e w19 ⟨rfl, hb⟩
    refine ⟨_, rfl, ?_⟩
    replace BK368 := BV BK368 hb
    replace HB := BW HB hb
    (try clear hb)
    refine hK.out _ _ ⟨bc BK368.out 0, bc BK368.out 1, (BD HB.out hw371_0), (BD HB.out hw371_1)⟩ (fun hHeld => ?_)
    clear hK K
    refine NM 32 ?_
    iterate 3 refine PS HT_ ?_
    refine done_ (done_of HT_.out (by kernel_rfl)) ?_
    try go_wp2
    go_meet
    case rel => exact ⟨_, (decide (t372 ≥ 0)), (by first | rfl | (simp; done) | (simp [*]; done)), H', ⟨by have := HK1.out; first | omega | exact Nat.le_refl _⟩, ⟨BH BK368.out⟩, ⟨BT HB.out⟩⟩
   case rest =>
    clear HC5
    try clear c4
    try clear c9
    try clear c11
    try clear c12
    try clear c12b0
    try clear c14
    try clear c15
    obtain ⟨kq, x35_4, rfl, HA, HJ4, BK368, HB⟩ := hcut
    cases kq with
    | zero => exact absurd HA.out (by simp [impl_areReads.j1])
    | succ kj4 =>
     have H := HA.out
     clear HA
     simp only [impl_areReads.j1] at H
     by_cases c26 : x35_4 = true
     ·subst c26
      replace H := HT H
      obtain rfl := Option.some.inj H
      go_wp2
      go_ret
      exact QT (BT HB.out)
     replace c26 := Bool.eq_false_iff.mpr c26
     subst c26
     replace H := HF H
     have H' := AM_ H
     clear H
     go_wp2
     go_roundg kj4
     case measure => have := HK1.out; have := HJ4.out; omega
     case rel => exact ⟨(wrap64 (x7_1 + 1)), (by first | rfl | (simp; done) | (simp [*]; done)), H', ⟨by have := HK1.out; have := HJ4.out; omega⟩, ⟨BT HB.out⟩⟩

end Go.Proofs.Ytdgknikgfjhohaa.PFnExactIsValidEngine
