-- Printed by wip/myprint.py.
import Derived.Test.YtdgknikgfjhohaaPFnExactIsValidEnginex1
namespace Go.Proofs.Ytdgknikgfjhohaa.PFnExactIsValidEngine
open Go.RowKit Go.Proofs.YtdgknikgfjhohaaW.PrintWords Go.Proofs.YtdgknikgfjhohaaW.PrintLast Go.Proofs.YtdgknikgfjhohaaW.PrintMore
set_option maxHeartbeats 8000000
set_option maxRecDepth 100000
set_option linter.unusedVariables false
set_option linter.unusedSimpArgs false

/-! ### spec_AreWaits: function 28 -/
def spec_AreWaits.l0 : Nat → List (S78) → Int → Option (Bool)
 | 0, _, _ => none
 | k + 1, x0, x3 => if x3 < (x0.length : Int) then (if 0 ≤ x3 then ((spec_l1In.f ((rd_T78 x0 x3).f0) 1 9).bind fun t143 => (if t143 = true then ((spec_l1In.f ((rd_T78 x0 x3).f1) 1 9).bind fun t145 => (if t145 = true then (if ((rd_T78 x0 x3).f0) = ((rd_T78 x0 x3).f1) then (some false) else (if x3 > 0 then (if 0 ≤ (wrap64 (x3 - 1)) then (if (wrap64 (x3 - 1)) < (x0.length : Int) then (if ((rd_T78 x0 (wrap64 (x3 - 1))).f0) ≥ ((rd_T78 x0 x3).f0) then (some false) else (spec_AreWaits.l0 k x0 (wrap64 (x3 + 1)))) else (none)) else (none)) else (spec_AreWaits.l0 k x0 (wrap64 (x3 + 1))))) else (some false))) else (some false))) else (none)) else (some true)
def spec_AreWaits.f (k : Nat) (l0 : List (S78)) : Option (Bool) := spec_AreWaits.l0 k l0 0
theorem spec_AreWaits.mono_l : ∀ k, (∀ y0 y1, LeO (spec_AreWaits.l0 k y0 y1) (spec_AreWaits.l0 (k + 1) y0 y1))
 | 0 => fun _ _ r h => by simp [spec_AreWaits.l0] at h
 | k + 1 => by
  have ih0 := spec_AreWaits.mono_l k
  all_goals intros; unfold spec_AreWaits.l0
  all_goals repeat' (with_reducible first | exact ih0 .. | exact LeO.refl _ | exact LeO.none _ | refine LeO.ite ?_ ?_ | refine LeO.bind ?_ (fun _ => ?_))
theorem spec_AreWaits.mono : ∀ a0 k, LeO (spec_AreWaits.f k a0) (spec_AreWaits.f (k + 1) a0) := by
 intro a0 k
 have ih0 := spec_AreWaits.mono_l k
 unfold spec_AreWaits.f
 repeat' (with_reducible first | exact ih0 .. | exact LeO.refl _ | exact LeO.none _ | refine LeO.ite ?_ ?_ | refine LeO.bind ?_ (fun _ => ?_))
def spec_AreWaits.T4 : Bool × List (List Nat × List Nat) := (true, [([], []), ([], []), ([0, 1], [0, 1]), ([2], [2]), ([3], [3]), ([4], [4]), ([5], [5]), ([6, 5], [6]), ([7], [7]), ([7], [7]), ([8, 9, 7], [7, 8, 9]), ([10, 7], [7, 10]), ([11, 7], [7, 11]), ([12, 7, 7], [7, 12]), ([13, 7], [7, 13]), ([7, 14], [7, 14]), ([15, 13], [15]), ([16], [16]), ([16], [16]), ([17, 18, 16], [16, 17, 18]), ([19, 16], [16, 19]), ([20, 16], [16, 20]), ([16], [16]), ([16], [16]), ([22, 23, 16], [16, 22, 23]), ([24, 16], [16, 24]), ([25, 16], [16, 25]), ([21, 26, 16], [16, 21, 26]), ([16, 27], [16, 27]), ([28, 16], [28]), ([29], [29]), ([30, 29], [29, 30]), ([31, 29, 29], [29, 31]), ([32], [32]), ([32], [32]), ([34, 32], [32, 34]), ([33, 35, 32], [32, 33, 35]), ([36, 32], [32, 36]), ([37, 32], [32, 37]), ([32], [32]), ([32], [32]), ([39, 40, 32], [32, 39, 40]), ([41, 32], [32, 41]), ([42, 32], [32, 42]), ([38, 43, 32], [32, 38, 43]), ([32, 44, 29], [29, 32, 44]), ([29, 45], [29, 45])])
def spec_AreWaits.B4 : List Nat := [0, 0, 3, 7, 15, 31, 63, 127, 255, 255, 1023, 2047, 4095, 8191, 16383, 32767, 65535, 131071, 131071, 524287, 1048575, 2097151, 131071, 131071, 12713983, 29491199, 63045631, 134217727, 268435455, 536870911, 1073741823, 2147483647, 4294967295, 8589934591, 8589934591, 25769803775, 68719476735, 137438953471, 274877906943, 8589934591, 8589934591, 1657857376255, 3856880631807, 8254927142911, 17592186044415, 35184372088831, 70368744177663]
theorem spec_AreWaits.tab4 : rtab .any (opsOf Try.f28 4) = spec_AreWaits.T4 := by kernel_rfl
theorem spec_AreWaits.bits4 : waitsOk spec_AreWaits.T4.2 spec_AreWaits.B4 = true := by kernel_rfl
theorem spec_AreWaits.calls (k : Nat) (A0 : Option Addr) (c0 : Nat) (l0 : List (S78)) (r : Bool) (w : World) (hr0 : Kd.C k78 w A0 l0.length l0) (hc0 : l0.length ≤ c0) (h : spec_AreWaits.f k l0 = some r) :
  Calls Try.prog 28 #[.slice A0 l0.length c0] w fun e w' => e = .returned (.bool r) ∧ Below w.heap.size w w' := by
 have HR0 := AM_ hr0
 have HC0 := AM_ hc0
 clear hr0 hc0
 have HB := AM_ (Below.refl w.heap.size w)
 unfold spec_AreWaits.f at h
 have H := h
 clear h
 have H' := AM_ H
 clear H
 go_enter Try.func28, Try.ntmps28
 go_wp2
 go_loopg [3] k (fun kq v3 w' => ∃ (x3_1 : Int), v3 = .int .i64 x3_1 ∧ Aside0 (spec_AreWaits.l0 kq l0 x3_1 = some r) ∧ Aside0 (kq ≤ k) ∧ Aside0 (Below w.heap.size w w'))
 case atStart => exact ⟨(0), (by first | rfl | (simp; done) | (simp [*]; done)), H', ⟨Nat.le_refl _⟩, ⟨BT HB.out⟩⟩
 case round =>
  clear H'
  obtain ⟨x3_1, rfl, HA, HK1, HB⟩ := hrel
  cases gk with
  | zero => exact absurd HA.out (by simp [spec_AreWaits.l0])
  | succ k1 =>
   have H := HA.out
   clear HA
   simp only [spec_AreWaits.l0] at H
   by_cases c2 : x3_1 < (l0.length : Int)
   rotate_left
   ·rw [if_neg c2] at H
    have c2b0 := decide_eq_false c2
    clear c2
    obtain rfl := Option.some.inj H
    go_wp2
    go_ret
    exact QT (BT HB.out)
   rw [if_pos c2] at H
   have c2b0 := decide_eq_true c2
   clear c2
   replace H := HI H
   obtain ⟨c3, H⟩ := H
   have c3b0 := decide_eq_true c3
   clear c3
   obtain ⟨t143, A4, H⟩ := OB H
   by_cases c5 : t143 = true
   rotate_left
   ·replace c5 := Bool.eq_false_iff.mpr c5
    subst c5
    replace H := HF H
    obtain rfl := Option.some.inj H
    try go_wp2
    replace HB := BD2 HB
    have p142 : 0 ≤ (x3_1 : Int) := DT
    have q142 : x3_1 < (l0.length : Int) := DT
    obtain ⟨ad142, e142, hx142_0, hx142_1⟩ := at_T78 HR0.out x3_1 p142 q142
    have hw142_1 := hx142_1
    have hw142_0 := hx142_0
    cases e142
    replace hx142_0 := BC HB.out hx142_0
    replace hx142_1 := BC HB.out hx142_1
    replace p142 := eq_true p142
    replace q142 := eq_true q142
    refine start_ (n := 47) (S := fun w' => w'.cell? (ad142.add ((x3_1).toNat * 2)) = some (.int .i64 ((rd_T78 l0 x3_1).f0)) ∧ w'.cell? ⟨(ad142.add ((x3_1).toNat * 2)).block, (ad142.add ((x3_1).toNat * 2)).off + 1, none⟩ = some (.int .i64 ((rd_T78 l0 x3_1).f1))) (ds := []) (lo 0 47) (by kernel_rfl) rfl rfl ⟨(BD HB.out hw142_0), (BD HB.out hw142_1)⟩ (fun hHeld => ?_); refine with_tabW spec_AreWaits.tab4 spec_AreWaits.bits4 (fun HT_ HW_ => ?_)
    generalize wr.drew = w19 at HB hx142_0 hx142_1 hHeld ⊢
    iterate 5 first | refine PS HT_ ?_ | refine TS HT_ HW_ hHeld ?_
    refine OS HT_ (fun K hK => ?_)
    refine GO Try.func29 #[.int .i64 ((rd_T78 l0 x3_1).f0), .int .i64 1, .int .i64 9] ?_
    with_reducible refine MQ (spec_l1In.calls ((rd_T78 l0 x3_1).f0) 1 9 false _ A4.out) ?_
    intro nd
    refine hK.out _ _ ⟨(BD HB.out hw142_0), (BD HB.out hw142_1)⟩ (fun hHeld => ?_)
    clear hK K
    refine NM 15 ?_
    iterate 41 first | refine PS HT_ ?_ | refine PT HT_ ?_
    refine done_ (done_of HT_.out (by kernel_rfl)) ?_
    try go_wp2
    go_ret
    exact QT (BT HB.out)
   subst c5
   replace H := HT H
   obtain ⟨t145, A6, H⟩ := OB H
   by_cases c7 : t145 = true
   rotate_left
   ·replace c7 := Bool.eq_false_iff.mpr c7
    subst c7
    replace H := HF H
    obtain rfl := Option.some.inj H
    try go_wp2
    replace HB := BD2 HB
    have p142 : 0 ≤ (x3_1 : Int) := DT
    have q142 : x3_1 < (l0.length : Int) := DT
    obtain ⟨ad142, e142, hx142_0, hx142_1⟩ := at_T78 HR0.out x3_1 p142 q142
    have hw142_1 := hx142_1
    have hw142_0 := hx142_0
    cases e142
    replace hx142_0 := BC HB.out hx142_0
    replace hx142_1 := BC HB.out hx142_1
    replace p142 := eq_true p142
    replace q142 := eq_true q142
    have p144 : 0 ≤ (x3_1 : Int) := DT
    have q144 : x3_1 < (l0.length : Int) := DT
    obtain ⟨ad144, e144, hx144_0, hx144_1⟩ := at_T78 HR0.out x3_1 p144 q144
    have hw144_1 := hx144_1
    have hw144_0 := hx144_0
    obtain rfl : ad142 = ad144 := (by injection e144)
    replace hx144_0 := BC HB.out hx144_0
    replace hx144_1 := BC HB.out hx144_1
    replace p144 := eq_true p144
    replace q144 := eq_true q144
    refine start_ (n := 47) (S := fun w' => w'.cell? (ad142.add ((x3_1).toNat * 2)) = some (.int .i64 ((rd_T78 l0 x3_1).f0)) ∧ w'.cell? ⟨(ad142.add ((x3_1).toNat * 2)).block, (ad142.add ((x3_1).toNat * 2)).off + 1, none⟩ = some (.int .i64 ((rd_T78 l0 x3_1).f1)) ∧ w'.cell? (ad142.add ((x3_1).toNat * 2)) = some (.int .i64 ((rd_T78 l0 x3_1).f0)) ∧ w'.cell? ⟨(ad142.add ((x3_1).toNat * 2)).block, (ad142.add ((x3_1).toNat * 2)).off + 1, none⟩ = some (.int .i64 ((rd_T78 l0 x3_1).f1))) (ds := []) (lo 0 47) (by kernel_rfl) rfl rfl ⟨(BD HB.out hw142_0), (BD HB.out hw142_1), (BD HB.out hw144_0), (BD HB.out hw144_1)⟩ (fun hHeld => ?_); refine with_tabW spec_AreWaits.tab4 spec_AreWaits.bits4 (fun HT_ HW_ => ?_)
    generalize wr.drew = w18 at HB hx142_0 hx142_1 hx144_0 hx144_1 hHeld ⊢
    iterate 5 first | refine PS HT_ ?_ | refine TS HT_ HW_ hHeld ?_
    refine OS HT_ (fun K hK => ?_)
    refine GO Try.func29 #[.int .i64 ((rd_T78 l0 x3_1).f0), .int .i64 1, .int .i64 9] ?_
    with_reducible refine MQ (spec_l1In.calls ((rd_T78 l0 x3_1).f0) 1 9 true _ A4.out) ?_
    intro nd
    refine hK.out _ _ ⟨(BD HB.out hw142_0), (BD HB.out hw142_1), (BD HB.out hw144_0), (BD HB.out hw144_1)⟩ (fun hHeld => ?_)
    clear hK K
    refine NM 15 ?_
    iterate 7 first | refine PS HT_ ?_ | refine TS HT_ HW_ hHeld ?_
    refine OS HT_ (fun K hK => ?_)
    refine GO Try.func29 #[.int .i64 ((rd_T78 l0 x3_1).f1), .int .i64 1, .int .i64 9] ?_
    with_reducible refine MQ (spec_l1In.calls ((rd_T78 l0 x3_1).f1) 1 9 false _ A6.out) ?_
    intro nd
    refine hK.out _ _ ⟨(BD HB.out hw142_0), (BD HB.out hw142_1), (BD HB.out hw144_0), (BD HB.out hw144_1)⟩ (fun hHeld => ?_)
    clear hK K
    refine NM 23 ?_
    iterate 33 first | refine PS HT_ ?_ | refine PT HT_ ?_
    refine done_ (done_of HT_.out (by kernel_rfl)) ?_
    try go_wp2
    go_ret
    exact QT (BT HB.out)
   subst c7
   replace H := HT H
   by_cases c8 : ((rd_T78 l0 x3_1).f0) = ((rd_T78 l0 x3_1).f1)
   ·rw [if_pos c8] at H
    have c8b0 : (((rd_T78 l0 x3_1).f0) == ((rd_T78 l0 x3_1).f1)) = true := beq_iff_eq.mpr c8
    have c8b1 : (((rd_T78 l0 x3_1).f0) != ((rd_T78 l0 x3_1).f1)) = false := bne_eq_false_iff_eq.mpr c8
    clear c8
    obtain rfl := Option.some.inj H
    try go_wp2
    replace HB := BD2 HB
    have p142 : 0 ≤ (x3_1 : Int) := DT
    have q142 : x3_1 < (l0.length : Int) := DT
    obtain ⟨ad142, e142, hx142_0, hx142_1⟩ := at_T78 HR0.out x3_1 p142 q142
    have hw142_1 := hx142_1
    have hw142_0 := hx142_0
    cases e142
    replace hx142_0 := BC HB.out hx142_0
    replace hx142_1 := BC HB.out hx142_1
    replace p142 := eq_true p142
    replace q142 := eq_true q142
    have p144 : 0 ≤ (x3_1 : Int) := DT
    have q144 : x3_1 < (l0.length : Int) := DT
    obtain ⟨ad144, e144, hx144_0, hx144_1⟩ := at_T78 HR0.out x3_1 p144 q144
    have hw144_1 := hx144_1
    have hw144_0 := hx144_0
    obtain rfl : ad142 = ad144 := (by injection e144)
    replace hx144_0 := BC HB.out hx144_0
    replace hx144_1 := BC HB.out hx144_1
    replace p144 := eq_true p144
    replace q144 := eq_true q144
    have p146 : 0 ≤ (x3_1 : Int) := DT
    have q146 : x3_1 < (l0.length : Int) := DT
    obtain ⟨ad146, e146, hx146_0, hx146_1⟩ := at_T78 HR0.out x3_1 p146 q146
    have hw146_1 := hx146_1
    have hw146_0 := hx146_0
    obtain rfl : ad142 = ad146 := (by injection e146)
    replace hx146_0 := BC HB.out hx146_0
    replace hx146_1 := BC HB.out hx146_1
    replace p146 := eq_true p146
    replace q146 := eq_true q146
    have p147 : 0 ≤ (x3_1 : Int) := DT
    have q147 : x3_1 < (l0.length : Int) := DT
    obtain ⟨ad147, e147, hx147_0, hx147_1⟩ := at_T78 HR0.out x3_1 p147 q147
    have hw147_1 := hx147_1
    have hw147_0 := hx147_0
    obtain rfl : ad142 = ad147 := (by injection e147)
    replace hx147_0 := BC HB.out hx147_0
    replace hx147_1 := BC HB.out hx147_1
    replace p147 := eq_true p147
    replace q147 := eq_true q147
    refine start_ (n := 47) (S := fun w' => w'.cell? (ad142.add ((x3_1).toNat * 2)) = some (.int .i64 ((rd_T78 l0 x3_1).f0)) ∧ w'.cell? ⟨(ad142.add ((x3_1).toNat * 2)).block, (ad142.add ((x3_1).toNat * 2)).off + 1, none⟩ = some (.int .i64 ((rd_T78 l0 x3_1).f1)) ∧ w'.cell? (ad142.add ((x3_1).toNat * 2)) = some (.int .i64 ((rd_T78 l0 x3_1).f0)) ∧ w'.cell? ⟨(ad142.add ((x3_1).toNat * 2)).block, (ad142.add ((x3_1).toNat * 2)).off + 1, none⟩ = some (.int .i64 ((rd_T78 l0 x3_1).f1)) ∧ w'.cell? (ad142.add ((x3_1).toNat * 2)) = some (.int .i64 ((rd_T78 l0 x3_1).f0)) ∧ w'.cell? ⟨(ad142.add ((x3_1).toNat * 2)).block, (ad142.add ((x3_1).toNat * 2)).off + 1, none⟩ = some (.int .i64 ((rd_T78 l0 x3_1).f1)) ∧ w'.cell? (ad142.add ((x3_1).toNat * 2)) = some (.int .i64 ((rd_T78 l0 x3_1).f0)) ∧ w'.cell? ⟨(ad142.add ((x3_1).toNat * 2)).block, (ad142.add ((x3_1).toNat * 2)).off + 1, none⟩ = some (.int .i64 ((rd_T78 l0 x3_1).f1))) (ds := []) (lo 0 47) (by kernel_rfl) rfl rfl ⟨(BD HB.out hw142_0), (BD HB.out hw142_1), (BD HB.out hw144_0), (BD HB.out hw144_1), (BD HB.out hw146_0), (BD HB.out hw146_1), (BD HB.out hw147_0), (BD HB.out hw147_1)⟩ (fun hHeld => ?_); refine with_tabW spec_AreWaits.tab4 spec_AreWaits.bits4 (fun HT_ HW_ => ?_)
    generalize wr.drew = w9 at HB hx142_0 hx142_1 hx144_0 hx144_1 hx146_0 hx146_1 hx147_0 hx147_1 hHeld ⊢
    iterate 5 first | refine PS HT_ ?_ | refine TS HT_ HW_ hHeld ?_
    refine OS HT_ (fun K hK => ?_)
    refine GO Try.func29 #[.int .i64 ((rd_T78 l0 x3_1).f0), .int .i64 1, .int .i64 9] ?_
    with_reducible refine MQ (spec_l1In.calls ((rd_T78 l0 x3_1).f0) 1 9 true _ A4.out) ?_
    intro nd
    refine hK.out _ _ ⟨(BD HB.out hw142_0), (BD HB.out hw142_1), (BD HB.out hw144_0), (BD HB.out hw144_1), (BD HB.out hw146_0), (BD HB.out hw146_1), (BD HB.out hw147_0), (BD HB.out hw147_1)⟩ (fun hHeld => ?_)
    clear hK K
    refine NM 15 ?_
    iterate 7 first | refine PS HT_ ?_ | refine TS HT_ HW_ hHeld ?_
    refine OS HT_ (fun K hK => ?_)
    refine GO Try.func29 #[.int .i64 ((rd_T78 l0 x3_1).f1), .int .i64 1, .int .i64 9] ?_
    with_reducible refine MQ (spec_l1In.calls ((rd_T78 l0 x3_1).f1) 1 9 true _ A6.out) ?_
    intro nd
    refine hK.out _ _ ⟨(BD HB.out hw142_0), (BD HB.out hw142_1), (BD HB.out hw144_0), (BD HB.out hw144_1), (BD HB.out hw146_0), (BD HB.out hw146_1), (BD HB.out hw147_0), (BD HB.out hw147_1)⟩ (fun hHeld => ?_)
    clear hK K
    refine NM 23 ?_
    iterate 7 refine PS HT_ ?_
    refine PV 22 (some 32) (bs 6291455 47) HT_ ?_
    refine PV 23 (some 33) (bs 14680063 47) HT_ ?_
    refine PV 24 (some 34) (bs 31457279 47) HT_ ?_
    refine PV 25 (some 35) (bs 65011711 47) HT_ ?_
    refine TX 21 (some 31) (lo 26 47) HT_ HW_ hHeld ?_
    iterate 21 first | refine PS HT_ ?_ | refine PT HT_ ?_ | refine TS HT_ HW_ hHeld ?_
    refine done_ (done_of HT_.out (by kernel_rfl)) ?_
    try go_wp2
    go_ret
    exact QT (BT HB.out)
   rw [if_neg c8] at H
   have c8b0 : (((rd_T78 l0 x3_1).f0) == ((rd_T78 l0 x3_1).f1)) = false := beq_eq_false_iff_ne.mpr c8
   have c8b1 : (((rd_T78 l0 x3_1).f0) != ((rd_T78 l0 x3_1).f1)) = true := bne_iff_ne.mpr c8
   by_cases c10 : x3_1 > 0
   rotate_left
   ·rw [if_neg c10] at H
    have c10b0 : decide (0 < x3_1) = false := decide_eq_false c10
    clear c10
    have H' := AM_ H
    clear H
    try go_wp2
    replace HB := BD2 HB
    have p142 : 0 ≤ (x3_1 : Int) := DT
    have q142 : x3_1 < (l0.length : Int) := DT
    obtain ⟨ad142, e142, hx142_0, hx142_1⟩ := at_T78 HR0.out x3_1 p142 q142
    have hw142_1 := hx142_1
    have hw142_0 := hx142_0
    cases e142
    replace hx142_0 := BC HB.out hx142_0
    replace hx142_1 := BC HB.out hx142_1
    replace p142 := eq_true p142
    replace q142 := eq_true q142
    have p144 : 0 ≤ (x3_1 : Int) := DT
    have q144 : x3_1 < (l0.length : Int) := DT
    obtain ⟨ad144, e144, hx144_0, hx144_1⟩ := at_T78 HR0.out x3_1 p144 q144
    have hw144_1 := hx144_1
    have hw144_0 := hx144_0
    obtain rfl : ad142 = ad144 := (by injection e144)
    replace hx144_0 := BC HB.out hx144_0
    replace hx144_1 := BC HB.out hx144_1
    replace p144 := eq_true p144
    replace q144 := eq_true q144
    have p146 : 0 ≤ (x3_1 : Int) := DT
    have q146 : x3_1 < (l0.length : Int) := DT
    obtain ⟨ad146, e146, hx146_0, hx146_1⟩ := at_T78 HR0.out x3_1 p146 q146
    have hw146_1 := hx146_1
    have hw146_0 := hx146_0
    obtain rfl : ad142 = ad146 := (by injection e146)
    replace hx146_0 := BC HB.out hx146_0
    replace hx146_1 := BC HB.out hx146_1
    replace p146 := eq_true p146
    replace q146 := eq_true q146
    have p147 : 0 ≤ (x3_1 : Int) := DT
    have q147 : x3_1 < (l0.length : Int) := DT
    obtain ⟨ad147, e147, hx147_0, hx147_1⟩ := at_T78 HR0.out x3_1 p147 q147
    have hw147_1 := hx147_1
    have hw147_0 := hx147_0
    obtain rfl : ad142 = ad147 := (by injection e147)
    replace hx147_0 := BC HB.out hx147_0
    replace hx147_1 := BC HB.out hx147_1
    replace p147 := eq_true p147
    replace q147 := eq_true q147
    refine start_ (n := 47) (S := fun w' => w'.cell? (ad142.add ((x3_1).toNat * 2)) = some (.int .i64 ((rd_T78 l0 x3_1).f0)) ∧ w'.cell? ⟨(ad142.add ((x3_1).toNat * 2)).block, (ad142.add ((x3_1).toNat * 2)).off + 1, none⟩ = some (.int .i64 ((rd_T78 l0 x3_1).f1)) ∧ w'.cell? (ad142.add ((x3_1).toNat * 2)) = some (.int .i64 ((rd_T78 l0 x3_1).f0)) ∧ w'.cell? ⟨(ad142.add ((x3_1).toNat * 2)).block, (ad142.add ((x3_1).toNat * 2)).off + 1, none⟩ = some (.int .i64 ((rd_T78 l0 x3_1).f1)) ∧ w'.cell? (ad142.add ((x3_1).toNat * 2)) = some (.int .i64 ((rd_T78 l0 x3_1).f0)) ∧ w'.cell? ⟨(ad142.add ((x3_1).toNat * 2)).block, (ad142.add ((x3_1).toNat * 2)).off + 1, none⟩ = some (.int .i64 ((rd_T78 l0 x3_1).f1)) ∧ w'.cell? (ad142.add ((x3_1).toNat * 2)) = some (.int .i64 ((rd_T78 l0 x3_1).f0)) ∧ w'.cell? ⟨(ad142.add ((x3_1).toNat * 2)).block, (ad142.add ((x3_1).toNat * 2)).off + 1, none⟩ = some (.int .i64 ((rd_T78 l0 x3_1).f1))) (ds := []) (lo 0 47) (by kernel_rfl) rfl rfl ⟨(BD HB.out hw142_0), (BD HB.out hw142_1), (BD HB.out hw144_0), (BD HB.out hw144_1), (BD HB.out hw146_0), (BD HB.out hw146_1), (BD HB.out hw147_0), (BD HB.out hw147_1)⟩ (fun hHeld => ?_); refine with_tabW spec_AreWaits.tab4 spec_AreWaits.bits4 (fun HT_ HW_ => ?_)
    generalize wr.drew = w17 at HB hx142_0 hx142_1 hx144_0 hx144_1 hx146_0 hx146_1 hx147_0 hx147_1 hHeld ⊢
    iterate 5 first | refine PS HT_ ?_ | refine TS HT_ HW_ hHeld ?_
    refine OS HT_ (fun K hK => ?_)
    refine GO Try.func29 #[.int .i64 ((rd_T78 l0 x3_1).f0), .int .i64 1, .int .i64 9] ?_
    with_reducible refine MQ (spec_l1In.calls ((rd_T78 l0 x3_1).f0) 1 9 true _ A4.out) ?_
    intro nd
    refine hK.out _ _ ⟨(BD HB.out hw142_0), (BD HB.out hw142_1), (BD HB.out hw144_0), (BD HB.out hw144_1), (BD HB.out hw146_0), (BD HB.out hw146_1), (BD HB.out hw147_0), (BD HB.out hw147_1)⟩ (fun hHeld => ?_)
    clear hK K
    refine NM 15 ?_
    iterate 7 first | refine PS HT_ ?_ | refine TS HT_ HW_ hHeld ?_
    refine OS HT_ (fun K hK => ?_)
    refine GO Try.func29 #[.int .i64 ((rd_T78 l0 x3_1).f1), .int .i64 1, .int .i64 9] ?_
    with_reducible refine MQ (spec_l1In.calls ((rd_T78 l0 x3_1).f1) 1 9 true _ A6.out) ?_
    intro nd
    refine hK.out _ _ ⟨(BD HB.out hw142_0), (BD HB.out hw142_1), (BD HB.out hw144_0), (BD HB.out hw144_1), (BD HB.out hw146_0), (BD HB.out hw146_1), (BD HB.out hw147_0), (BD HB.out hw147_1)⟩ (fun hHeld => ?_)
    clear hK K
    refine NM 23 ?_
    iterate 7 refine PS HT_ ?_
    refine PV 22 (some 32) (bs 6291455 47) HT_ ?_
    refine PV 23 (some 33) (bs 14680063 47) HT_ ?_
    refine PV 24 (some 34) (bs 31457279 47) HT_ ?_
    refine PV 25 (some 35) (bs 65011711 47) HT_ ?_
    refine TX 21 (some 31) (lo 26 47) HT_ HW_ hHeld ?_
    iterate 21 first | refine PS HT_ ?_ | refine PT HT_ ?_ | refine TS HT_ HW_ hHeld ?_
    refine done_ (done_of HT_.out (by kernel_rfl)) ?_
    try go_wp2
    go_roundg k1
    case measure => have := HK1.out; omega
    case rel => exact ⟨(wrap64 (x3_1 + 1)), (by first | rfl | (simp; done) | (simp [*]; done)), H', ⟨by have := HK1.out; omega⟩, ⟨BT HB.out⟩⟩
   rw [if_pos c10] at H
   have c10b0 : decide (0 < x3_1) = true := decide_eq_true c10
   clear c10
   obtain ⟨ji11, hji11⟩ : ∃ j_ : Int, (wrap64 (x3_1 - 1)) = j_ := ⟨_, rfl⟩
   replace H : (if 0 ≤ (ji11) then (if (ji11) < (l0.length : Int) then (if ((rd_T78 l0 (ji11)).f0) ≥ ((rd_T78 l0 x3_1).f0) then (some false) else (spec_AreWaits.l0 k1 l0 (wrap64 (x3_1 + 1)))) else (none)) else (none)) = some r := by first | (rw [hji11] at H; exact H) | (simp only [hji11] at H ⊢; exact H)
   (try rw [hji11] at A4)
   (try rw [hji11] at A6)
   have hji11w : (IntKind.i64.wrap (x3_1 - 1)) = ji11 := (i64_w _).trans hji11
   replace H := HI H
   obtain ⟨c12, H⟩ := H
   have c12b0 := decide_eq_true c12
   clear c12
   replace H := HI H
   obtain ⟨c13, H⟩ := H
   have c13b0 := decide_eq_true c13
   clear c13
   by_cases c14 : ((rd_T78 l0 (ji11)).f0) ≥ ((rd_T78 l0 x3_1).f0)
   rotate_left
   ·rw [if_neg c14] at H
    have c14b0 : decide (((rd_T78 l0 x3_1).f0) ≤ ((rd_T78 l0 (ji11)).f0)) = false := decide_eq_false c14
    clear c14
    have H' := AM_ H
    clear H
    try go_wp2
    replace HB := BD2 HB
    have p142 : 0 ≤ (x3_1 : Int) := DT
    have q142 : x3_1 < (l0.length : Int) := DT
    obtain ⟨ad142, e142, hx142_0, hx142_1⟩ := at_T78 HR0.out x3_1 p142 q142
    have hw142_1 := hx142_1
    have hw142_0 := hx142_0
    cases e142
    replace hx142_0 := BC HB.out hx142_0
    replace hx142_1 := BC HB.out hx142_1
    replace p142 := eq_true p142
    replace q142 := eq_true q142
    have p144 : 0 ≤ (x3_1 : Int) := DT
    have q144 : x3_1 < (l0.length : Int) := DT
    obtain ⟨ad144, e144, hx144_0, hx144_1⟩ := at_T78 HR0.out x3_1 p144 q144
    have hw144_1 := hx144_1
    have hw144_0 := hx144_0
    obtain rfl : ad142 = ad144 := (by injection e144)
    replace hx144_0 := BC HB.out hx144_0
    replace hx144_1 := BC HB.out hx144_1
    replace p144 := eq_true p144
    replace q144 := eq_true q144
    have p146 : 0 ≤ (x3_1 : Int) := DT
    have q146 : x3_1 < (l0.length : Int) := DT
    obtain ⟨ad146, e146, hx146_0, hx146_1⟩ := at_T78 HR0.out x3_1 p146 q146
    have hw146_1 := hx146_1
    have hw146_0 := hx146_0
    obtain rfl : ad142 = ad146 := (by injection e146)
    replace hx146_0 := BC HB.out hx146_0
    replace hx146_1 := BC HB.out hx146_1
    replace p146 := eq_true p146
    replace q146 := eq_true q146
    have p147 : 0 ≤ (x3_1 : Int) := DT
    have q147 : x3_1 < (l0.length : Int) := DT
    obtain ⟨ad147, e147, hx147_0, hx147_1⟩ := at_T78 HR0.out x3_1 p147 q147
    have hw147_1 := hx147_1
    have hw147_0 := hx147_0
    obtain rfl : ad142 = ad147 := (by injection e147)
    replace hx147_0 := BC HB.out hx147_0
    replace hx147_1 := BC HB.out hx147_1
    replace p147 := eq_true p147
    replace q147 := eq_true q147
    have p148 : 0 ≤ ((ji11) : Int) := DT
    have q148 : (ji11) < (l0.length : Int) := DT
    obtain ⟨ad148, e148, hx148_0, hx148_1⟩ := at_T78 HR0.out (ji11) p148 q148
    have hw148_1 := hx148_1
    have hw148_0 := hx148_0
    obtain rfl : ad142 = ad148 := (by injection e148)
    replace hx148_0 := BC HB.out hx148_0
    replace hx148_1 := BC HB.out hx148_1
    replace p148 := eq_true p148
    replace q148 := eq_true q148
    have p149 : 0 ≤ (x3_1 : Int) := DT
    have q149 : x3_1 < (l0.length : Int) := DT
    obtain ⟨ad149, e149, hx149_0, hx149_1⟩ := at_T78 HR0.out x3_1 p149 q149
    have hw149_1 := hx149_1
    have hw149_0 := hx149_0
    obtain rfl : ad142 = ad149 := (by injection e149)
    replace hx149_0 := BC HB.out hx149_0
    replace hx149_1 := BC HB.out hx149_1
    replace p149 := eq_true p149
    replace q149 := eq_true q149
    refine start_ (n := 47) (S := fun w' => w'.cell? (ad142.add ((x3_1).toNat * 2)) = some (.int .i64 ((rd_T78 l0 x3_1).f0)) ∧ w'.cell? ⟨(ad142.add ((x3_1).toNat * 2)).block, (ad142.add ((x3_1).toNat * 2)).off + 1, none⟩ = some (.int .i64 ((rd_T78 l0 x3_1).f1)) ∧ w'.cell? (ad142.add ((x3_1).toNat * 2)) = some (.int .i64 ((rd_T78 l0 x3_1).f0)) ∧ w'.cell? ⟨(ad142.add ((x3_1).toNat * 2)).block, (ad142.add ((x3_1).toNat * 2)).off + 1, none⟩ = some (.int .i64 ((rd_T78 l0 x3_1).f1)) ∧ w'.cell? (ad142.add ((x3_1).toNat * 2)) = some (.int .i64 ((rd_T78 l0 x3_1).f0)) ∧ w'.cell? ⟨(ad142.add ((x3_1).toNat * 2)).block, (ad142.add ((x3_1).toNat * 2)).off + 1, none⟩ = some (.int .i64 ((rd_T78 l0 x3_1).f1)) ∧ w'.cell? (ad142.add ((x3_1).toNat * 2)) = some (.int .i64 ((rd_T78 l0 x3_1).f0)) ∧ w'.cell? ⟨(ad142.add ((x3_1).toNat * 2)).block, (ad142.add ((x3_1).toNat * 2)).off + 1, none⟩ = some (.int .i64 ((rd_T78 l0 x3_1).f1)) ∧ w'.cell? (ad142.add (((ji11)).toNat * 2)) = some (.int .i64 ((rd_T78 l0 (ji11)).f0)) ∧ w'.cell? ⟨(ad142.add (((ji11)).toNat * 2)).block, (ad142.add (((ji11)).toNat * 2)).off + 1, none⟩ = some (.int .i64 ((rd_T78 l0 (ji11)).f1)) ∧ w'.cell? (ad142.add ((x3_1).toNat * 2)) = some (.int .i64 ((rd_T78 l0 x3_1).f0)) ∧ w'.cell? ⟨(ad142.add ((x3_1).toNat * 2)).block, (ad142.add ((x3_1).toNat * 2)).off + 1, none⟩ = some (.int .i64 ((rd_T78 l0 x3_1).f1))) (ds := []) (lo 0 47) (by kernel_rfl) rfl rfl ⟨(BD HB.out hw142_0), (BD HB.out hw142_1), (BD HB.out hw144_0), (BD HB.out hw144_1), (BD HB.out hw146_0), (BD HB.out hw146_1), (BD HB.out hw147_0), (BD HB.out hw147_1), (BD HB.out hw148_0), (BD HB.out hw148_1), (BD HB.out hw149_0), (BD HB.out hw149_1)⟩ (fun hHeld => ?_); refine with_tabW spec_AreWaits.tab4 spec_AreWaits.bits4 (fun HT_ HW_ => ?_)
    generalize wr.drew = w16 at HB hx142_0 hx142_1 hx144_0 hx144_1 hx146_0 hx146_1 hx147_0 hx147_1 hx148_0 hx148_1 hx149_0 hx149_1 hHeld ⊢
    iterate 5 first | refine PS HT_ ?_ | refine TS HT_ HW_ hHeld ?_
    refine OS HT_ (fun K hK => ?_)
    refine GO Try.func29 #[.int .i64 ((rd_T78 l0 x3_1).f0), .int .i64 1, .int .i64 9] ?_
    with_reducible refine MQ (spec_l1In.calls ((rd_T78 l0 x3_1).f0) 1 9 true _ A4.out) ?_
    intro nd
    refine hK.out _ _ ⟨(BD HB.out hw142_0), (BD HB.out hw142_1), (BD HB.out hw144_0), (BD HB.out hw144_1), (BD HB.out hw146_0), (BD HB.out hw146_1), (BD HB.out hw147_0), (BD HB.out hw147_1), (BD HB.out hw148_0), (BD HB.out hw148_1), (BD HB.out hw149_0), (BD HB.out hw149_1)⟩ (fun hHeld => ?_)
    clear hK K
    refine NM 15 ?_
    iterate 7 first | refine PS HT_ ?_ | refine TS HT_ HW_ hHeld ?_
    refine OS HT_ (fun K hK => ?_)
    refine GO Try.func29 #[.int .i64 ((rd_T78 l0 x3_1).f1), .int .i64 1, .int .i64 9] ?_
    with_reducible refine MQ (spec_l1In.calls ((rd_T78 l0 x3_1).f1) 1 9 true _ A6.out) ?_
    intro nd
    refine hK.out _ _ ⟨(BD HB.out hw142_0), (BD HB.out hw142_1), (BD HB.out hw144_0), (BD HB.out hw144_1), (BD HB.out hw146_0), (BD HB.out hw146_1), (BD HB.out hw147_0), (BD HB.out hw147_1), (BD HB.out hw148_0), (BD HB.out hw148_1), (BD HB.out hw149_0), (BD HB.out hw149_1)⟩ (fun hHeld => ?_)
    clear hK K
    refine NM 23 ?_
    iterate 7 refine PS HT_ ?_
    refine PV 22 (some 32) (bs 6291455 47) HT_ ?_
    refine PV 23 (some 33) (bs 14680063 47) HT_ ?_
    refine PV 24 (some 34) (bs 31457279 47) HT_ ?_
    refine PV 25 (some 35) (bs 65011711 47) HT_ ?_
    refine TX 21 (some 31) (lo 26 47) HT_ HW_ hHeld ?_
    iterate 12 first | refine PS HT_ ?_ | refine TS HT_ HW_ hHeld ?_
    refine PV 39 (some 49) (bs 824633720831 47) HT_ ?_
    refine PV 40 (some 50) (bs 1924145348607 47) HT_ ?_
    refine PV 41 (some 51) (bs 4123168604159 47) HT_ ?_
    refine PV 42 (some 52) (bs 8521215115263 47) HT_ ?_
    refine TX 38 (some 48) (lo 43 47) HT_ HW_ hHeld ?_
    iterate 4 first | refine PS HT_ ?_ | refine TS HT_ HW_ hHeld ?_
    refine done_ (done_of HT_.out (by kernel_rfl)) ?_
    try go_wp2
    go_roundg k1
    case measure => have := HK1.out; omega
    case rel => exact ⟨(wrap64 (x3_1 + 1)), (by first | rfl | (simp; done) | (simp [*]; done)), H', ⟨by have := HK1.out; omega⟩, ⟨BT HB.out⟩⟩
   rw [if_pos c14] at H
   have c14b0 : decide (((rd_T78 l0 x3_1).f0) ≤ ((rd_T78 l0 (ji11)).f0)) = true := decide_eq_true c14
   clear c14
   obtain rfl := Option.some.inj H
   try go_wp2
   replace HB := BD2 HB
   have p142 : 0 ≤ (x3_1 : Int) := DT
   have q142 : x3_1 < (l0.length : Int) := DT
   obtain ⟨ad142, e142, hx142_0, hx142_1⟩ := at_T78 HR0.out x3_1 p142 q142
   have hw142_1 := hx142_1
   have hw142_0 := hx142_0
   cases e142
   replace hx142_0 := BC HB.out hx142_0
   replace hx142_1 := BC HB.out hx142_1
   replace p142 := eq_true p142
   replace q142 := eq_true q142
   have p144 : 0 ≤ (x3_1 : Int) := DT
   have q144 : x3_1 < (l0.length : Int) := DT
   obtain ⟨ad144, e144, hx144_0, hx144_1⟩ := at_T78 HR0.out x3_1 p144 q144
   have hw144_1 := hx144_1
   have hw144_0 := hx144_0
   obtain rfl : ad142 = ad144 := (by injection e144)
   replace hx144_0 := BC HB.out hx144_0
   replace hx144_1 := BC HB.out hx144_1
   replace p144 := eq_true p144
   replace q144 := eq_true q144
   have p146 : 0 ≤ (x3_1 : Int) := DT
   have q146 : x3_1 < (l0.length : Int) := DT
   obtain ⟨ad146, e146, hx146_0, hx146_1⟩ := at_T78 HR0.out x3_1 p146 q146
   have hw146_1 := hx146_1
   have hw146_0 := hx146_0
   obtain rfl : ad142 = ad146 := (by injection e146)
   replace hx146_0 := BC HB.out hx146_0
   replace hx146_1 := BC HB.out hx146_1
   replace p146 := eq_true p146
   replace q146 := eq_true q146
   have p147 : 0 ≤ (x3_1 : Int) := DT
   have q147 : x3_1 < (l0.length : Int) := DT
   obtain ⟨ad147, e147, hx147_0, hx147_1⟩ := at_T78 HR0.out x3_1 p147 q147
   have hw147_1 := hx147_1
   have hw147_0 := hx147_0
   obtain rfl : ad142 = ad147 := (by injection e147)
   replace hx147_0 := BC HB.out hx147_0
   replace hx147_1 := BC HB.out hx147_1
   replace p147 := eq_true p147
   replace q147 := eq_true q147
   have p148 : 0 ≤ ((ji11) : Int) := DT
   have q148 : (ji11) < (l0.length : Int) := DT
   obtain ⟨ad148, e148, hx148_0, hx148_1⟩ := at_T78 HR0.out (ji11) p148 q148
   have hw148_1 := hx148_1
   have hw148_0 := hx148_0
   obtain rfl : ad142 = ad148 := (by injection e148)
   replace hx148_0 := BC HB.out hx148_0
   replace hx148_1 := BC HB.out hx148_1
   replace p148 := eq_true p148
   replace q148 := eq_true q148
   have p149 : 0 ≤ (x3_1 : Int) := DT
   have q149 : x3_1 < (l0.length : Int) := DT
   obtain ⟨ad149, e149, hx149_0, hx149_1⟩ := at_T78 HR0.out x3_1 p149 q149
   have hw149_1 := hx149_1
   have hw149_0 := hx149_0
   obtain rfl : ad142 = ad149 := (by injection e149)
   replace hx149_0 := BC HB.out hx149_0
   replace hx149_1 := BC HB.out hx149_1
   replace p149 := eq_true p149
   replace q149 := eq_true q149
   refine start_ (n := 47) (S := fun w' => w'.cell? (ad142.add ((x3_1).toNat * 2)) = some (.int .i64 ((rd_T78 l0 x3_1).f0)) ∧ w'.cell? ⟨(ad142.add ((x3_1).toNat * 2)).block, (ad142.add ((x3_1).toNat * 2)).off + 1, none⟩ = some (.int .i64 ((rd_T78 l0 x3_1).f1)) ∧ w'.cell? (ad142.add ((x3_1).toNat * 2)) = some (.int .i64 ((rd_T78 l0 x3_1).f0)) ∧ w'.cell? ⟨(ad142.add ((x3_1).toNat * 2)).block, (ad142.add ((x3_1).toNat * 2)).off + 1, none⟩ = some (.int .i64 ((rd_T78 l0 x3_1).f1)) ∧ w'.cell? (ad142.add ((x3_1).toNat * 2)) = some (.int .i64 ((rd_T78 l0 x3_1).f0)) ∧ w'.cell? ⟨(ad142.add ((x3_1).toNat * 2)).block, (ad142.add ((x3_1).toNat * 2)).off + 1, none⟩ = some (.int .i64 ((rd_T78 l0 x3_1).f1)) ∧ w'.cell? (ad142.add ((x3_1).toNat * 2)) = some (.int .i64 ((rd_T78 l0 x3_1).f0)) ∧ w'.cell? ⟨(ad142.add ((x3_1).toNat * 2)).block, (ad142.add ((x3_1).toNat * 2)).off + 1, none⟩ = some (.int .i64 ((rd_T78 l0 x3_1).f1)) ∧ w'.cell? (ad142.add (((ji11)).toNat * 2)) = some (.int .i64 ((rd_T78 l0 (ji11)).f0)) ∧ w'.cell? ⟨(ad142.add (((ji11)).toNat * 2)).block, (ad142.add (((ji11)).toNat * 2)).off + 1, none⟩ = some (.int .i64 ((rd_T78 l0 (ji11)).f1)) ∧ w'.cell? (ad142.add ((x3_1).toNat * 2)) = some (.int .i64 ((rd_T78 l0 x3_1).f0)) ∧ w'.cell? ⟨(ad142.add ((x3_1).toNat * 2)).block, (ad142.add ((x3_1).toNat * 2)).off + 1, none⟩ = some (.int .i64 ((rd_T78 l0 x3_1).f1))) (ds := []) (lo 0 47) (by kernel_rfl) rfl rfl ⟨(BD HB.out hw142_0), (BD HB.out hw142_1), (BD HB.out hw144_0), (BD HB.out hw144_1), (BD HB.out hw146_0), (BD HB.out hw146_1), (BD HB.out hw147_0), (BD HB.out hw147_1), (BD HB.out hw148_0), (BD HB.out hw148_1), (BD HB.out hw149_0), (BD HB.out hw149_1)⟩ (fun hHeld => ?_); refine with_tabW spec_AreWaits.tab4 spec_AreWaits.bits4 (fun HT_ HW_ => ?_)
   generalize wr.drew = w15 at HB hx142_0 hx142_1 hx144_0 hx144_1 hx146_0 hx146_1 hx147_0 hx147_1 hx148_0 hx148_1 hx149_0 hx149_1 hHeld ⊢
   iterate 5 first | refine PS HT_ ?_ | refine TS HT_ HW_ hHeld ?_
   refine OS HT_ (fun K hK => ?_)
   refine GO Try.func29 #[.int .i64 ((rd_T78 l0 x3_1).f0), .int .i64 1, .int .i64 9] ?_
   with_reducible refine MQ (spec_l1In.calls ((rd_T78 l0 x3_1).f0) 1 9 true _ A4.out) ?_
   intro nd
   refine hK.out _ _ ⟨(BD HB.out hw142_0), (BD HB.out hw142_1), (BD HB.out hw144_0), (BD HB.out hw144_1), (BD HB.out hw146_0), (BD HB.out hw146_1), (BD HB.out hw147_0), (BD HB.out hw147_1), (BD HB.out hw148_0), (BD HB.out hw148_1), (BD HB.out hw149_0), (BD HB.out hw149_1)⟩ (fun hHeld => ?_)
   clear hK K
   refine NM 15 ?_
   iterate 7 first | refine PS HT_ ?_ | refine TS HT_ HW_ hHeld ?_
   refine OS HT_ (fun K hK => ?_)
   refine GO Try.func29 #[.int .i64 ((rd_T78 l0 x3_1).f1), .int .i64 1, .int .i64 9] ?_
   with_reducible refine MQ (spec_l1In.calls ((rd_T78 l0 x3_1).f1) 1 9 true _ A6.out) ?_
   intro nd
   refine hK.out _ _ ⟨(BD HB.out hw142_0), (BD HB.out hw142_1), (BD HB.out hw144_0), (BD HB.out hw144_1), (BD HB.out hw146_0), (BD HB.out hw146_1), (BD HB.out hw147_0), (BD HB.out hw147_1), (BD HB.out hw148_0), (BD HB.out hw148_1), (BD HB.out hw149_0), (BD HB.out hw149_1)⟩ (fun hHeld => ?_)
   clear hK K
   refine NM 23 ?_
   iterate 7 refine PS HT_ ?_
   refine PV 22 (some 32) (bs 6291455 47) HT_ ?_
   refine PV 23 (some 33) (bs 14680063 47) HT_ ?_
   refine PV 24 (some 34) (bs 31457279 47) HT_ ?_
   refine PV 25 (some 35) (bs 65011711 47) HT_ ?_
   refine TX 21 (some 31) (lo 26 47) HT_ HW_ hHeld ?_
   iterate 12 first | refine PS HT_ ?_ | refine TS HT_ HW_ hHeld ?_
   refine PV 39 (some 49) (bs 824633720831 47) HT_ ?_
   refine PV 40 (some 50) (bs 1924145348607 47) HT_ ?_
   refine PV 41 (some 51) (bs 4123168604159 47) HT_ ?_
   refine PV 42 (some 52) (bs 8521215115263 47) HT_ ?_
   refine TX 38 (some 48) (lo 43 47) HT_ HW_ hHeld ?_
   iterate 4 first | refine PS HT_ ?_ | refine TS HT_ HW_ hHeld ?_
   refine done_ (done_of HT_.out (by kernel_rfl)) ?_
   try go_wp2
   go_ret
   exact ⟨by first | rfl | (simp [errW_none, errW_some] <;> rfl) | (simp only [← hji11]; first | rfl | (simp [errW_none, errW_some] <;> rfl)) | (simp [*, errW_none, errW_some] <;> rfl), BT HB.out⟩

end Go.Proofs.Ytdgknikgfjhohaa.PFnExactIsValidEngine
