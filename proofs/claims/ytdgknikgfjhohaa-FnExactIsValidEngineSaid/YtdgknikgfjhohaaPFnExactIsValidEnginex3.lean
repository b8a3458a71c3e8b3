-- Printed by wip/myprint.py.
import Derived.Test.YtdgknikgfjhohaaPFnExactIsValidEnginex1
namespace Go.Proofs.Ytdgknikgfjhohaa.PFnExactIsValidEngine
open Go.RowKit Go.Proofs.YtdgknikgfjhohaaW.PrintWords Go.Proofs.YtdgknikgfjhohaaW.PrintLast Go.Proofs.YtdgknikgfjhohaaW.PrintMore
set_option maxHeartbeats 8000000
set_option maxRecDepth 100000
set_option linter.unusedVariables false
set_option linter.unusedSimpArgs false

/-! ### spec_AreLocks: function 27 -/
def spec_AreLocks.l0 : Nat → List (S76) → Int → Option (Bool)
 | 0, _, _ => none
 | k + 1, x0, x3 => if x3 < (x0.length : Int) then (if 0 ≤ x3 then ((spec_l1In.f ((rd_T76 x0 x3).f0) 0 5).bind fun t137 => (if t137 = true then ((spec_l1In.f ((rd_T76 x0 x3).f1) 1 9).bind fun t139 => (if t139 = true then (if x3 > 0 then (if 0 ≤ (wrap64 (x3 - 1)) then (if (wrap64 (x3 - 1)) < (x0.length : Int) then (if ((rd_T76 x0 (wrap64 (x3 - 1))).f0) ≥ ((rd_T76 x0 x3).f0) then (some false) else (spec_AreLocks.l0 k x0 (wrap64 (x3 + 1)))) else (none)) else (none)) else (spec_AreLocks.l0 k x0 (wrap64 (x3 + 1)))) else (some false))) else (some false))) else (none)) else (some true)
def spec_AreLocks.f (k : Nat) (l0 : List (S76)) : Option (Bool) := spec_AreLocks.l0 k l0 0
theorem spec_AreLocks.mono_l : ∀ k, (∀ y0 y1, LeO (spec_AreLocks.l0 k y0 y1) (spec_AreLocks.l0 (k + 1) y0 y1))
 | 0 => fun _ _ r h => by simp [spec_AreLocks.l0] at h
 | k + 1 => by
  have ih0 := spec_AreLocks.mono_l k
  all_goals intros; unfold spec_AreLocks.l0
  all_goals repeat' (with_reducible first | exact ih0 .. | exact LeO.refl _ | exact LeO.none _ | refine LeO.ite ?_ ?_ | refine LeO.bind ?_ (fun _ => ?_))
theorem spec_AreLocks.mono : ∀ a0 k, LeO (spec_AreLocks.f k a0) (spec_AreLocks.f (k + 1) a0) := by
 intro a0 k
 have ih0 := spec_AreLocks.mono_l k
 unfold spec_AreLocks.f
 repeat' (with_reducible first | exact ih0 .. | exact LeO.refl _ | exact LeO.none _ | refine LeO.ite ?_ ?_ | refine LeO.bind ?_ (fun _ => ?_))
def spec_AreLocks.T4 : Bool × List (List Nat × List Nat) := (true, [([], []), ([], []), ([0, 1], [0, 1]), ([2], [2]), ([3], [3]), ([4], [4]), ([5], [5]), ([6, 5], [6]), ([7], [7]), ([7], [7]), ([8, 9, 7], [7, 8, 9]), ([10, 7], [7, 10]), ([11, 7], [7, 11]), ([12, 7, 7], [7, 12]), ([13, 7], [7, 13]), ([7, 14], [7, 14]), ([15, 13], [15]), ([16], [16]), ([17, 16], [16, 17]), ([18, 16, 16], [16, 18]), ([19], [19]), ([19], [19]), ([21, 19], [19, 21]), ([20, 22, 19], [19, 20, 22]), ([23, 19], [19, 23]), ([24, 19], [19, 24]), ([19], [19]), ([19], [19]), ([26, 27, 19], [19, 26, 27]), ([28, 19], [19, 28]), ([29, 19], [19, 29]), ([25, 30, 19], [19, 25, 30]), ([19, 31, 16], [16, 19, 31]), ([16, 32], [16, 32])])
def spec_AreLocks.B4 : List Nat := [0, 0, 3, 7, 15, 31, 63, 127, 255, 255, 1023, 2047, 4095, 8191, 16383, 32767, 65535, 131071, 262143, 524287, 1048575, 1048575, 3145727, 8388607, 16777215, 33554431, 1048575, 1048575, 202375167, 470810623, 1007681535, 2147483647, 4294967295, 8589934591]
theorem spec_AreLocks.tab4 : rtab .any (opsOf Try.f27 4) = spec_AreLocks.T4 := by kernel_rfl
theorem spec_AreLocks.bits4 : waitsOk spec_AreLocks.T4.2 spec_AreLocks.B4 = true := by kernel_rfl
theorem spec_AreLocks.calls (k : Nat) (A0 : Option Addr) (c0 : Nat) (l0 : List (S76)) (r : Bool) (w : World) (hr0 : Kd.C k76 w A0 l0.length l0) (hc0 : l0.length ≤ c0) (h : spec_AreLocks.f k l0 = some r) :
  Calls Try.prog 27 #[.slice A0 l0.length c0] w fun e w' => e = .returned (.bool r) ∧ Below w.heap.size w w' := by
 have HR0 := AM_ hr0
 have HC0 := AM_ hc0
 clear hr0 hc0
 have HB := AM_ (Below.refl w.heap.size w)
 unfold spec_AreLocks.f at h
 have H := h
 clear h
 have H' := AM_ H
 clear H
 go_enter Try.func27, Try.ntmps27
 go_wp2
 go_loopg [3] k (fun kq v3 w' => ∃ (x3_1 : Int), v3 = .int .i64 x3_1 ∧ Aside0 (spec_AreLocks.l0 kq l0 x3_1 = some r) ∧ Aside0 (kq ≤ k) ∧ Aside0 (Below w.heap.size w w'))
 case atStart => exact ⟨(0), (by first | rfl | (simp; done) | (simp [*]; done)), H', ⟨Nat.le_refl _⟩, ⟨BT HB.out⟩⟩
 case round =>
  clear H'
  obtain ⟨x3_1, rfl, HA, HK1, HB⟩ := hrel
  cases gk with
  | zero => exact absurd HA.out (by simp [spec_AreLocks.l0])
  | succ k1 =>
   have H := HA.out
   clear HA
   simp only [spec_AreLocks.l0] at H
   by_cases c2 : x3_1 < (l0.length : Int)
   rotate_left
   ·rw [if_neg c2] at H
    have c2b0 := decide_eq_false c2
    clear c2
    obtain rfl := Option.some.inj H
    go_wp2
    go_ret
    exact QT (BT HB.out)
   rw [if_pos c2] at H
   have c2b0 := decide_eq_true c2
   clear c2
   replace H := HI H
   obtain ⟨c3, H⟩ := H
   have c3b0 := decide_eq_true c3
   clear c3
   obtain ⟨t137, A4, H⟩ := OB H
   by_cases c5 : t137 = true
   rotate_left
   ·replace c5 := Bool.eq_false_iff.mpr c5
    subst c5
    replace H := HF H
    obtain rfl := Option.some.inj H
    try go_wp2
    replace HB := BD2 HB
    have p136 : 0 ≤ (x3_1 : Int) := DT
    have q136 : x3_1 < (l0.length : Int) := DT
    obtain ⟨ad136, e136, hx136_0, hx136_1⟩ := at_T76 HR0.out x3_1 p136 q136
    have hw136_1 := hx136_1
    have hw136_0 := hx136_0
    cases e136
    replace hx136_0 := BC HB.out hx136_0
    replace hx136_1 := BC HB.out hx136_1
    replace p136 := eq_true p136
    replace q136 := eq_true q136
    refine start_ (n := 34) (S := fun w' => w'.cell? (ad136.add ((x3_1).toNat * 2)) = some (.int .i64 ((rd_T76 l0 x3_1).f0)) ∧ w'.cell? ⟨(ad136.add ((x3_1).toNat * 2)).block, (ad136.add ((x3_1).toNat * 2)).off + 1, none⟩ = some (.int .i64 ((rd_T76 l0 x3_1).f1))) (ds := []) (lo 0 34) (by kernel_rfl) rfl rfl ⟨(BD HB.out hw136_0), (BD HB.out hw136_1)⟩ (fun hHeld => ?_); refine with_tabW spec_AreLocks.tab4 spec_AreLocks.bits4 (fun HT_ HW_ => ?_)
    generalize wr.drew = w17 at HB hx136_0 hx136_1 hHeld ⊢
    iterate 5 first | refine PS HT_ ?_ | refine TS HT_ HW_ hHeld ?_
    refine OS HT_ (fun K hK => ?_)
    refine GO Try.func29 #[.int .i64 ((rd_T76 l0 x3_1).f0), .int .i64 0, .int .i64 5] ?_
    with_reducible refine MQ (spec_l1In.calls ((rd_T76 l0 x3_1).f0) 0 5 false _ A4.out) ?_
    intro nd
    refine hK.out _ _ ⟨(BD HB.out hw136_0), (BD HB.out hw136_1)⟩ (fun hHeld => ?_)
    clear hK K
    refine NM 15 ?_
    iterate 28 first | refine PS HT_ ?_ | refine PT HT_ ?_
    refine done_ (done_of HT_.out (by kernel_rfl)) ?_
    try go_wp2
    go_ret
    exact QT (BT HB.out)
   subst c5
   replace H := HT H
   obtain ⟨t139, A6, H⟩ := OB H
   by_cases c7 : t139 = true
   rotate_left
   ·replace c7 := Bool.eq_false_iff.mpr c7
    subst c7
    replace H := HF H
    obtain rfl := Option.some.inj H
    try go_wp2
    replace HB := BD2 HB
    have p136 : 0 ≤ (x3_1 : Int) := DT
    have q136 : x3_1 < (l0.length : Int) := DT
    obtain ⟨ad136, e136, hx136_0, hx136_1⟩ := at_T76 HR0.out x3_1 p136 q136
    have hw136_1 := hx136_1
    have hw136_0 := hx136_0
    cases e136
    replace hx136_0 := BC HB.out hx136_0
    replace hx136_1 := BC HB.out hx136_1
    replace p136 := eq_true p136
    replace q136 := eq_true q136
    have p138 : 0 ≤ (x3_1 : Int) := DT
    have q138 : x3_1 < (l0.length : Int) := DT
    obtain ⟨ad138, e138, hx138_0, hx138_1⟩ := at_T76 HR0.out x3_1 p138 q138
    have hw138_1 := hx138_1
    have hw138_0 := hx138_0
    obtain rfl : ad136 = ad138 := (by injection e138)
    replace hx138_0 := BC HB.out hx138_0
    replace hx138_1 := BC HB.out hx138_1
    replace p138 := eq_true p138
    replace q138 := eq_true q138
    refine start_ (n := 34) (S := fun w' => w'.cell? (ad136.add ((x3_1).toNat * 2)) = some (.int .i64 ((rd_T76 l0 x3_1).f0)) ∧ w'.cell? ⟨(ad136.add ((x3_1).toNat * 2)).block, (ad136.add ((x3_1).toNat * 2)).off + 1, none⟩ = some (.int .i64 ((rd_T76 l0 x3_1).f1)) ∧ w'.cell? (ad136.add ((x3_1).toNat * 2)) = some (.int .i64 ((rd_T76 l0 x3_1).f0)) ∧ w'.cell? ⟨(ad136.add ((x3_1).toNat * 2)).block, (ad136.add ((x3_1).toNat * 2)).off + 1, none⟩ = some (.int .i64 ((rd_T76 l0 x3_1).f1))) (ds := []) (lo 0 34) (by kernel_rfl) rfl rfl ⟨(BD HB.out hw136_0), (BD HB.out hw136_1), (BD HB.out hw138_0), (BD HB.out hw138_1)⟩ (fun hHeld => ?_); refine with_tabW spec_AreLocks.tab4 spec_AreLocks.bits4 (fun HT_ HW_ => ?_)
    generalize wr.drew = w16 at HB hx136_0 hx136_1 hx138_0 hx138_1 hHeld ⊢
    iterate 5 first | refine PS HT_ ?_ | refine TS HT_ HW_ hHeld ?_
    refine OS HT_ (fun K hK => ?_)
    refine GO Try.func29 #[.int .i64 ((rd_T76 l0 x3_1).f0), .int .i64 0, .int .i64 5] ?_
    with_reducible refine MQ (spec_l1In.calls ((rd_T76 l0 x3_1).f0) 0 5 true _ A4.out) ?_
    intro nd
    refine hK.out _ _ ⟨(BD HB.out hw136_0), (BD HB.out hw136_1), (BD HB.out hw138_0), (BD HB.out hw138_1)⟩ (fun hHeld => ?_)
    clear hK K
    refine NM 15 ?_
    iterate 7 first | refine PS HT_ ?_ | refine TS HT_ HW_ hHeld ?_
    refine OS HT_ (fun K hK => ?_)
    refine GO Try.func29 #[.int .i64 ((rd_T76 l0 x3_1).f1), .int .i64 1, .int .i64 9] ?_
    with_reducible refine MQ (spec_l1In.calls ((rd_T76 l0 x3_1).f1) 1 9 false _ A6.out) ?_
    intro nd
    refine hK.out _ _ ⟨(BD HB.out hw136_0), (BD HB.out hw136_1), (BD HB.out hw138_0), (BD HB.out hw138_1)⟩ (fun hHeld => ?_)
    clear hK K
    refine NM 23 ?_
    iterate 20 first | refine PS HT_ ?_ | refine PT HT_ ?_
    refine done_ (done_of HT_.out (by kernel_rfl)) ?_
    try go_wp2
    go_ret
    exact QT (BT HB.out)
   subst c7
   replace H := HT H
   by_cases c8 : x3_1 > 0
   rotate_left
   ·rw [if_neg c8] at H
    have c8b0 : decide (0 < x3_1) = false := decide_eq_false c8
    clear c8
    have H' := AM_ H
    clear H
    try go_wp2
    replace HB := BD2 HB
    have p136 : 0 ≤ (x3_1 : Int) := DT
    have q136 : x3_1 < (l0.length : Int) := DT
    obtain ⟨ad136, e136, hx136_0, hx136_1⟩ := at_T76 HR0.out x3_1 p136 q136
    have hw136_1 := hx136_1
    have hw136_0 := hx136_0
    cases e136
    replace hx136_0 := BC HB.out hx136_0
    replace hx136_1 := BC HB.out hx136_1
    replace p136 := eq_true p136
    replace q136 := eq_true q136
    have p138 : 0 ≤ (x3_1 : Int) := DT
    have q138 : x3_1 < (l0.length : Int) := DT
    obtain ⟨ad138, e138, hx138_0, hx138_1⟩ := at_T76 HR0.out x3_1 p138 q138
    have hw138_1 := hx138_1
    have hw138_0 := hx138_0
    obtain rfl : ad136 = ad138 := (by injection e138)
    replace hx138_0 := BC HB.out hx138_0
    replace hx138_1 := BC HB.out hx138_1
    replace p138 := eq_true p138
    replace q138 := eq_true q138
    refine start_ (n := 34) (S := fun w' => w'.cell? (ad136.add ((x3_1).toNat * 2)) = some (.int .i64 ((rd_T76 l0 x3_1).f0)) ∧ w'.cell? ⟨(ad136.add ((x3_1).toNat * 2)).block, (ad136.add ((x3_1).toNat * 2)).off + 1, none⟩ = some (.int .i64 ((rd_T76 l0 x3_1).f1)) ∧ w'.cell? (ad136.add ((x3_1).toNat * 2)) = some (.int .i64 ((rd_T76 l0 x3_1).f0)) ∧ w'.cell? ⟨(ad136.add ((x3_1).toNat * 2)).block, (ad136.add ((x3_1).toNat * 2)).off + 1, none⟩ = some (.int .i64 ((rd_T76 l0 x3_1).f1))) (ds := []) (lo 0 34) (by kernel_rfl) rfl rfl ⟨(BD HB.out hw136_0), (BD HB.out hw136_1), (BD HB.out hw138_0), (BD HB.out hw138_1)⟩ (fun hHeld => ?_); refine with_tabW spec_AreLocks.tab4 spec_AreLocks.bits4 (fun HT_ HW_ => ?_)
    generalize wr.drew = w15 at HB hx136_0 hx136_1 hx138_0 hx138_1 hHeld ⊢
    iterate 5 first | refine PS HT_ ?_ | refine TS HT_ HW_ hHeld ?_
    refine OS HT_ (fun K hK => ?_)
    refine GO Try.func29 #[.int .i64 ((rd_T76 l0 x3_1).f0), .int .i64 0, .int .i64 5] ?_
    with_reducible refine MQ (spec_l1In.calls ((rd_T76 l0 x3_1).f0) 0 5 true _ A4.out) ?_
    intro nd
    refine hK.out _ _ ⟨(BD HB.out hw136_0), (BD HB.out hw136_1), (BD HB.out hw138_0), (BD HB.out hw138_1)⟩ (fun hHeld => ?_)
    clear hK K
    refine NM 15 ?_
    iterate 7 first | refine PS HT_ ?_ | refine TS HT_ HW_ hHeld ?_
    refine OS HT_ (fun K hK => ?_)
    refine GO Try.func29 #[.int .i64 ((rd_T76 l0 x3_1).f1), .int .i64 1, .int .i64 9] ?_
    with_reducible refine MQ (spec_l1In.calls ((rd_T76 l0 x3_1).f1) 1 9 true _ A6.out) ?_
    intro nd
    refine hK.out _ _ ⟨(BD HB.out hw136_0), (BD HB.out hw136_1), (BD HB.out hw138_0), (BD HB.out hw138_1)⟩ (fun hHeld => ?_)
    clear hK K
    refine NM 23 ?_
    iterate 20 first | refine PS HT_ ?_ | refine PT HT_ ?_
    refine done_ (done_of HT_.out (by kernel_rfl)) ?_
    try go_wp2
    go_roundg k1
    case measure => have := HK1.out; omega
    case rel => exact ⟨(wrap64 (x3_1 + 1)), (by first | rfl | (simp; done) | (simp [*]; done)), H', ⟨by have := HK1.out; omega⟩, ⟨BT HB.out⟩⟩
   rw [if_pos c8] at H
   have c8b0 : decide (0 < x3_1) = true := decide_eq_true c8
   clear c8
   obtain ⟨ji9, hji9⟩ : ∃ j_ : Int, (wrap64 (x3_1 - 1)) = j_ := ⟨_, rfl⟩
   replace H : (if 0 ≤ (ji9) then (if (ji9) < (l0.length : Int) then (if ((rd_T76 l0 (ji9)).f0) ≥ ((rd_T76 l0 x3_1).f0) then (some false) else (spec_AreLocks.l0 k1 l0 (wrap64 (x3_1 + 1)))) else (none)) else (none)) = some r := by first | (rw [hji9] at H; exact H) | (simp only [hji9] at H ⊢; exact H)
   (try rw [hji9] at A4)
   (try rw [hji9] at A6)
   have hji9w : (IntKind.i64.wrap (x3_1 - 1)) = ji9 := (i64_w _).trans hji9
   replace H := HI H
   obtain ⟨c10, H⟩ := H
   have c10b0 := decide_eq_true c10
   clear c10
   replace H := HI H
   obtain ⟨c11, H⟩ := H
   have c11b0 := decide_eq_true c11
   clear c11
   by_cases c12 : ((rd_T76 l0 (ji9)).f0) ≥ ((rd_T76 l0 x3_1).f0)
   rotate_left
   ·rw [if_neg c12] at H
    have c12b0 : decide (((rd_T76 l0 x3_1).f0) ≤ ((rd_T76 l0 (ji9)).f0)) = false := decide_eq_false c12
    clear c12
    have H' := AM_ H
    clear H
    try go_wp2
    replace HB := BD2 HB
    have p136 : 0 ≤ (x3_1 : Int) := DT
    have q136 : x3_1 < (l0.length : Int) := DT
    obtain ⟨ad136, e136, hx136_0, hx136_1⟩ := at_T76 HR0.out x3_1 p136 q136
    have hw136_1 := hx136_1
    have hw136_0 := hx136_0
    cases e136
    replace hx136_0 := BC HB.out hx136_0
    replace hx136_1 := BC HB.out hx136_1
    replace p136 := eq_true p136
    replace q136 := eq_true q136
    have p138 : 0 ≤ (x3_1 : Int) := DT
    have q138 : x3_1 < (l0.length : Int) := DT
    obtain ⟨ad138, e138, hx138_0, hx138_1⟩ := at_T76 HR0.out x3_1 p138 q138
    have hw138_1 := hx138_1
    have hw138_0 := hx138_0
    obtain rfl : ad136 = ad138 := (by injection e138)
    replace hx138_0 := BC HB.out hx138_0
    replace hx138_1 := BC HB.out hx138_1
    replace p138 := eq_true p138
    replace q138 := eq_true q138
    have p140 : 0 ≤ ((ji9) : Int) := DT
    have q140 : (ji9) < (l0.length : Int) := DT
    obtain ⟨ad140, e140, hx140_0, hx140_1⟩ := at_T76 HR0.out (ji9) p140 q140
    have hw140_1 := hx140_1
    have hw140_0 := hx140_0
    obtain rfl : ad136 = ad140 := (by injection e140)
    replace hx140_0 := BC HB.out hx140_0
    replace hx140_1 := BC HB.out hx140_1
    replace p140 := eq_true p140
    replace q140 := eq_true q140
    have p141 : 0 ≤ (x3_1 : Int) := DT
    have q141 : x3_1 < (l0.length : Int) := DT
    obtain ⟨ad141, e141, hx141_0, hx141_1⟩ := at_T76 HR0.out x3_1 p141 q141
    have hw141_1 := hx141_1
    have hw141_0 := hx141_0
    obtain rfl : ad136 = ad141 := (by injection e141)
    replace hx141_0 := BC HB.out hx141_0
    replace hx141_1 := BC HB.out hx141_1
    replace p141 := eq_true p141
    replace q141 := eq_true q141
    refine start_ (n := 34) (S := fun w' => w'.cell? (ad136.add ((x3_1).toNat * 2)) = some (.int .i64 ((rd_T76 l0 x3_1).f0)) ∧ w'.cell? ⟨(ad136.add ((x3_1).toNat * 2)).block, (ad136.add ((x3_1).toNat * 2)).off + 1, none⟩ = some (.int .i64 ((rd_T76 l0 x3_1).f1)) ∧ w'.cell? (ad136.add ((x3_1).toNat * 2)) = some (.int .i64 ((rd_T76 l0 x3_1).f0)) ∧ w'.cell? ⟨(ad136.add ((x3_1).toNat * 2)).block, (ad136.add ((x3_1).toNat * 2)).off + 1, none⟩ = some (.int .i64 ((rd_T76 l0 x3_1).f1)) ∧ w'.cell? (ad136.add (((ji9)).toNat * 2)) = some (.int .i64 ((rd_T76 l0 (ji9)).f0)) ∧ w'.cell? ⟨(ad136.add (((ji9)).toNat * 2)).block, (ad136.add (((ji9)).toNat * 2)).off + 1, none⟩ = some (.int .i64 ((rd_T76 l0 (ji9)).f1)) ∧ w'.cell? (ad136.add ((x3_1).toNat * 2)) = some (.int .i64 ((rd_T76 l0 x3_1).f0)) ∧ w'.cell? ⟨(ad136.add ((x3_1).toNat * 2)).block, (ad136.add ((x3_1).toNat * 2)).off + 1, none⟩ = some (.int .i64 ((rd_T76 l0 x3_1).f1))) (ds := []) (lo 0 34) (by kernel_rfl) rfl rfl ⟨(BD HB.out hw136_0), (BD HB.out hw136_1), (BD HB.out hw138_0), (BD HB.out hw138_1), (BD HB.out hw140_0), (BD HB.out hw140_1), (BD HB.out hw141_0), (BD HB.out hw141_1)⟩ (fun hHeld => ?_); refine with_tabW spec_AreLocks.tab4 spec_AreLocks.bits4 (fun HT_ HW_ => ?_)
    generalize wr.drew = w14 at HB hx136_0 hx136_1 hx138_0 hx138_1 hx140_0 hx140_1 hx141_0 hx141_1 hHeld ⊢
    iterate 5 first | refine PS HT_ ?_ | refine TS HT_ HW_ hHeld ?_
    refine OS HT_ (fun K hK => ?_)
    refine GO Try.func29 #[.int .i64 ((rd_T76 l0 x3_1).f0), .int .i64 0, .int .i64 5] ?_
    with_reducible refine MQ (spec_l1In.calls ((rd_T76 l0 x3_1).f0) 0 5 true _ A4.out) ?_
    intro nd
    refine hK.out _ _ ⟨(BD HB.out hw136_0), (BD HB.out hw136_1), (BD HB.out hw138_0), (BD HB.out hw138_1), (BD HB.out hw140_0), (BD HB.out hw140_1), (BD HB.out hw141_0), (BD HB.out hw141_1)⟩ (fun hHeld => ?_)
    clear hK K
    refine NM 15 ?_
    iterate 7 first | refine PS HT_ ?_ | refine TS HT_ HW_ hHeld ?_
    refine OS HT_ (fun K hK => ?_)
    refine GO Try.func29 #[.int .i64 ((rd_T76 l0 x3_1).f1), .int .i64 1, .int .i64 9] ?_
    with_reducible refine MQ (spec_l1In.calls ((rd_T76 l0 x3_1).f1) 1 9 true _ A6.out) ?_
    intro nd
    refine hK.out _ _ ⟨(BD HB.out hw136_0), (BD HB.out hw136_1), (BD HB.out hw138_0), (BD HB.out hw138_1), (BD HB.out hw140_0), (BD HB.out hw140_1), (BD HB.out hw141_0), (BD HB.out hw141_1)⟩ (fun hHeld => ?_)
    clear hK K
    refine NM 23 ?_
    iterate 11 refine PS HT_ ?_
    refine PV 26 (some 36) (bs 100663295 34) HT_ ?_
    refine PV 27 (some 37) (bs 234881023 34) HT_ ?_
    refine PV 28 (some 38) (bs 503316479 34) HT_ ?_
    refine PV 29 (some 39) (bs 1040187391 34) HT_ ?_
    refine TX 25 (some 35) (lo 30 34) HT_ HW_ hHeld ?_
    iterate 4 first | refine PS HT_ ?_ | refine TS HT_ HW_ hHeld ?_
    refine done_ (done_of HT_.out (by kernel_rfl)) ?_
    try go_wp2
    go_roundg k1
    case measure => have := HK1.out; omega
    case rel => exact ⟨(wrap64 (x3_1 + 1)), (by first | rfl | (simp; done) | (simp [*]; done)), H', ⟨by have := HK1.out; omega⟩, ⟨BT HB.out⟩⟩
   rw [if_pos c12] at H
   have c12b0 : decide (((rd_T76 l0 x3_1).f0) ≤ ((rd_T76 l0 (ji9)).f0)) = true := decide_eq_true c12
   clear c12
   obtain rfl := Option.some.inj H
   try go_wp2
   replace HB := BD2 HB
   have p136 : 0 ≤ (x3_1 : Int) := DT
   have q136 : x3_1 < (l0.length : Int) := DT
   obtain ⟨ad136, e136, hx136_0, hx136_1⟩ := at_T76 HR0.out x3_1 p136 q136
   have hw136_1 := hx136_1
   have hw136_0 := hx136_0
   cases e136
   replace hx136_0 := BC HB.out hx136_0
   replace hx136_1 := BC HB.out hx136_1
   replace p136 := eq_true p136
   replace q136 := eq_true q136
   have p138 : 0 ≤ (x3_1 : Int) := DT
   have q138 : x3_1 < (l0.length : Int) := DT
   obtain ⟨ad138, e138, hx138_0, hx138_1⟩ := at_T76 HR0.out x3_1 p138 q138
   have hw138_1 := hx138_1
   have hw138_0 := hx138_0
   obtain rfl : ad136 = ad138 := (by injection e138)
   replace hx138_0 := BC HB.out hx138_0
   replace hx138_1 := BC HB.out hx138_1
   replace p138 := eq_true p138
   replace q138 := eq_true q138
   have p140 : 0 ≤ ((ji9) : Int) := DT
   have q140 : (ji9) < (l0.length : Int) := DT
   obtain ⟨ad140, e140, hx140_0, hx140_1⟩ := at_T76 HR0.out (ji9) p140 q140
   have hw140_1 := hx140_1
   have hw140_0 := hx140_0
   obtain rfl : ad136 = ad140 := (by injection e140)
   replace hx140_0 := BC HB.out hx140_0
   replace hx140_1 := BC HB.out hx140_1
   replace p140 := eq_true p140
   replace q140 := eq_true q140
   have p141 : 0 ≤ (x3_1 : Int) := DT
   have q141 : x3_1 < (l0.length : Int) := DT
   obtain ⟨ad141, e141, hx141_0, hx141_1⟩ := at_T76 HR0.out x3_1 p141 q141
   have hw141_1 := hx141_1
   have hw141_0 := hx141_0
   obtain rfl : ad136 = ad141 := (by injection e141)
   replace hx141_0 := BC HB.out hx141_0
   replace hx141_1 := BC HB.out hx141_1
   replace p141 := eq_true p141
   replace q141 := eq_true q141
   refine start_ (n := 34) (S := fun w' => w'.cell? (ad136.add ((x3_1).toNat * 2)) = some (.int .i64 ((rd_T76 l0 x3_1).f0)) ∧ w'.cell? ⟨(ad136.add ((x3_1).toNat * 2)).block, (ad136.add ((x3_1).toNat * 2)).off + 1, none⟩ = some (.int .i64 ((rd_T76 l0 x3_1).f1)) ∧ w'.cell? (ad136.add ((x3_1).toNat * 2)) = some (.int .i64 ((rd_T76 l0 x3_1).f0)) ∧ w'.cell? ⟨(ad136.add ((x3_1).toNat * 2)).block, (ad136.add ((x3_1).toNat * 2)).off + 1, none⟩ = some (.int .i64 ((rd_T76 l0 x3_1).f1)) ∧ w'.cell? (ad136.add (((ji9)).toNat * 2)) = some (.int .i64 ((rd_T76 l0 (ji9)).f0)) ∧ w'.cell? ⟨(ad136.add (((ji9)).toNat * 2)).block, (ad136.add (((ji9)).toNat * 2)).off + 1, none⟩ = some (.int .i64 ((rd_T76 l0 (ji9)).f1)) ∧ w'.cell? (ad136.add ((x3_1).toNat * 2)) = some (.int .i64 ((rd_T76 l0 x3_1).f0)) ∧ w'.cell? ⟨(ad136.add ((x3_1).toNat * 2)).block, (ad136.add ((x3_1).toNat * 2)).off + 1, none⟩ = some (.int .i64 ((rd_T76 l0 x3_1).f1))) (ds := []) (lo 0 34) (by kernel_rfl) rfl rfl ⟨(BD HB.out hw136_0), (BD HB.out hw136_1), (BD HB.out hw138_0), (BD HB.out hw138_1), (BD HB.out hw140_0), (BD HB.out hw140_1), (BD HB.out hw141_0), (BD HB.out hw141_1)⟩ (fun hHeld => ?_); refine with_tabW spec_AreLocks.tab4 spec_AreLocks.bits4 (fun HT_ HW_ => ?_)
   generalize wr.drew = w13 at HB hx136_0 hx136_1 hx138_0 hx138_1 hx140_0 hx140_1 hx141_0 hx141_1 hHeld ⊢
   iterate 5 first | refine PS HT_ ?_ | refine TS HT_ HW_ hHeld ?_
   refine OS HT_ (fun K hK => ?_)
   refine GO Try.func29 #[.int .i64 ((rd_T76 l0 x3_1).f0), .int .i64 0, .int .i64 5] ?_
   with_reducible refine MQ (spec_l1In.calls ((rd_T76 l0 x3_1).f0) 0 5 true _ A4.out) ?_
   intro nd
   refine hK.out _ _ ⟨(BD HB.out hw136_0), (BD HB.out hw136_1), (BD HB.out hw138_0), (BD HB.out hw138_1), (BD HB.out hw140_0), (BD HB.out hw140_1), (BD HB.out hw141_0), (BD HB.out hw141_1)⟩ (fun hHeld => ?_)
   clear hK K
   refine NM 15 ?_
   iterate 7 first | refine PS HT_ ?_ | refine TS HT_ HW_ hHeld ?_
   refine OS HT_ (fun K hK => ?_)
   refine GO Try.func29 #[.int .i64 ((rd_T76 l0 x3_1).f1), .int .i64 1, .int .i64 9] ?_
   with_reducible refine MQ (spec_l1In.calls ((rd_T76 l0 x3_1).f1) 1 9 true _ A6.out) ?_
   intro nd
   refine hK.out _ _ ⟨(BD HB.out hw136_0), (BD HB.out hw136_1), (BD HB.out hw138_0), (BD HB.out hw138_1), (BD HB.out hw140_0), (BD HB.out hw140_1), (BD HB.out hw141_0), (BD HB.out hw141_1)⟩ (fun hHeld => ?_)
   clear hK K
   refine NM 23 ?_
   iterate 11 refine PS HT_ ?_
   refine PV 26 (some 36) (bs 100663295 34) HT_ ?_
   refine PV 27 (some 37) (bs 234881023 34) HT_ ?_
   refine PV 28 (some 38) (bs 503316479 34) HT_ ?_
   refine PV 29 (some 39) (bs 1040187391 34) HT_ ?_
   refine TX 25 (some 35) (lo 30 34) HT_ HW_ hHeld ?_
   iterate 4 first | refine PS HT_ ?_ | refine TS HT_ HW_ hHeld ?_
   refine done_ (done_of HT_.out (by kernel_rfl)) ?_
   try go_wp2
   go_ret
   exact ⟨by first | rfl | (simp [errW_none, errW_some] <;> rfl) | (simp only [← hji9]; first | rfl | (simp [errW_none, errW_some] <;> rfl)) | (simp [*, errW_none, errW_some] <;> rfl), BT HB.out⟩

end Go.Proofs.Ytdgknikgfjhohaa.PFnExactIsValidEngine
