-- Printed by a program of mine (wip/myprint.py), which runs the printer of the kit with contracts of mine beside it.
import Derived.Test.YtgpmfkmdchcagaaDoorPFnExactFormatHistoryx0
import Derived.Test.YtgpmfkmdchcagaaDoorPFnExactFormatHistoryx1
import Derived.Test.YtgpmfkmdchcagaaDoorPFnExactFormatHistoryx6
import Derived.Test.YtgpmfkmdchcagaaDoorPFnExactFormatHistoryx7
import Derived.Test.YtgpmfkmdchcagaaDoorPFnExactFormatHistoryx14
import Derived.Test.YtgpmfkmdchcagaaDoorPFnExactFormatHistoryx15
namespace Go.Proofs.YtgpmfkmdchcagaaDoor.PFnExactFormatHistory
open Go.RowKit Go.Proofs.YtgpmfkmdchcagaaDoorW.PrintWords Go.Proofs.YtgpmfkmdchcagaaDoorW.PrintLast Go.Proofs.YtgpmfkmdchcagaaDoorW.PrintMore
attribute [local go_sem] max2_int min2_int max_two min_two max_three min_three max_four min_four   -- for this text's walks alone
set_option linter.unusedVariables false
set_option linter.unusedSimpArgs false

/-! ### laws_eqEntryS: function 15 -/
def laws_eqEntryS.l0 : Nat → List (S53) → List (S53) → Int → Option (Bool)
 | 0, _, _, _ => none
 | k + 1, x0, x1, x5 => if x5 < (x0.length : Int) then (if 0 ≤ x5 then (if x5 < (x1.length : Int) then ((laws_eqEntry.f k ((rd_T53 x0 x5).f0) ((rd_T53 x0 x5).f1) ((rd_T53 x0 x5).f2) ((rd_T53 x0 x5).f3) ((rd_T53 x1 x5).f0) ((rd_T53 x1 x5).f1) ((rd_T53 x1 x5).f2) ((rd_T53 x1 x5).f3)).bind fun t326 => (if t326 = true then (laws_eqEntryS.l0 k x0 x1 (wrap64 (x5 + 1))) else (some false))) else (none)) else (none)) else (some true)
def laws_eqEntryS.f (k : Nat) (l0 : List (S53)) (l1 : List (S53)) : Option (Bool) := if (l0.length : Int) = (l1.length : Int) then (laws_eqEntryS.l0 k l0 l1 0) else (some false)
theorem laws_eqEntryS.mono_l : ∀ k, (∀ y0 y1 y2, LeO (laws_eqEntryS.l0 k y0 y1 y2) (laws_eqEntryS.l0 (k + 1) y0 y1 y2))
 | 0 => fun _ _ _ r h => by simp [laws_eqEntryS.l0] at h
 | k + 1 => by
  have ih0 := laws_eqEntryS.mono_l k
  ·intro y0 y1 y2
   unfold laws_eqEntryS.l0
   repeat' first
   | (with_reducible exact ih0 _ _ _)
   | (with_reducible exact laws_eqEntry.mono _ _ _ _ _ _ _ _ _)
   | (with_reducible exact LeO.refl _)
   | (with_reducible exact LeO.none _)
   | (with_reducible refine LeO.ite ?_ ?_)
   | (with_reducible refine LeO.bind ?_ (fun _ => ?_))
   | exact ih0 _ _ _
   | exact laws_eqEntry.mono _ _ _ _ _ _ _ _ _
   | exact LeO.none _
   | refine LeO.ite ?_ ?_
   | refine LeO.bind ?_ (fun _ => ?_)
theorem laws_eqEntryS.mono : ∀ a0 a1 k, LeO (laws_eqEntryS.f k a0 a1) (laws_eqEntryS.f (k + 1) a0 a1) := by
 intro a0 a1 k
 have ih0 := laws_eqEntryS.mono_l k
 unfold laws_eqEntryS.f
 repeat' first
   | (with_reducible exact ih0 _ _ _)
   | (with_reducible exact laws_eqEntry.mono _ _ _ _ _ _ _ _ _)
   | (with_reducible exact LeO.refl _)
   | (with_reducible exact LeO.none _)
   | (with_reducible refine LeO.ite ?_ ?_)
   | (with_reducible refine LeO.bind ?_ (fun _ => ?_))
   | exact ih0 _ _ _
   | exact laws_eqEntry.mono _ _ _ _ _ _ _ _ _
   | exact LeO.none _
   | refine LeO.ite ?_ ?_
   | refine LeO.bind ?_ (fun _ => ?_)
def laws_eqEntryS.T6 : Bool × List (List Nat × List Nat) := (true, [([], []), ([], []), ([0, 1], [0, 1]), ([2], [2]), ([], []), ([], []), ([4, 5], [4, 5]), ([6], [6]), ([3, 7], [3, 7]), ([8], [8])])
def laws_eqEntryS.B6 : List Nat := [0, 0, 3, 7, 0, 0, 48, 112, 255, 511]
theorem laws_eqEntryS.tab6 : rtab .any (opsOf Tryd.f15 6) = laws_eqEntryS.T6 := by kernel_rfl
theorem laws_eqEntryS.bits6 : waitsOk laws_eqEntryS.T6.2 laws_eqEntryS.B6 = true := by kernel_rfl
set_option maxHeartbeats 8000000 in
set_option maxRecDepth 100000 in
theorem laws_eqEntryS.calls (k : Nat) (A0 : Option Addr) (c0 : Nat) (l0 : List (S53)) (A1 : Option Addr) (c1 : Nat) (l1 : List (S53)) (r : Bool) (w : World) (hr0 : Kd.C k53 w A0 l0.length l0) (hc0 : l0.length ≤ c0) (hr1 : Kd.C k53 w A1 l1.length l1) (hc1 : l1.length ≤ c1) (h : laws_eqEntryS.f k l0 l1 = some r) :
  Calls Tryd.prog 15 #[.slice A0 l0.length c0, .slice A1 l1.length c1] w fun e w' => e = .returned (.bool r) ∧ Below w.heap.size w w' := by
 have hu53 := Tryd.underlying53
 have HR0 := AM_ hr0
 have HC0 := AM_ hc0
 clear hr0 hc0
 have HR1 := AM_ hr1
 have HC1 := AM_ hc1
 clear hr1 hc1
 have HB := AM_ (Below.refl w.heap.size w)
 have H : (if (l0.length : Int) = (l1.length : Int) then (laws_eqEntryS.l0 k l0 l1 0) else (some false)) = some r := h
 clear h
 by_cases c3 : (l0.length : Int) = (l1.length : Int)
 rotate_left
 ·rw [if_neg c3] at H
  have c3b0 : ((l0.length : Int) == (l1.length : Int)) = false := beq_eq_false_iff_ne.mpr c3
  have c3b1 : ((l0.length : Int) != (l1.length : Int)) = true := bne_iff_ne.mpr c3
  have c3b2 : (l0.length == l1.length) = false := by first | simpa using c3 | (simp at c3 ⊢; omega)
  obtain rfl := Option.some.inj H
  go_enter Tryd.func15, Tryd.ntmps15
  go_wp2
  go_ret
  exact QT (BT HB.out)
 rw [if_pos c3] at H
 have c3b0 : ((l0.length : Int) == (l1.length : Int)) = true := beq_iff_eq.mpr c3
 have c3b1 : ((l0.length : Int) != (l1.length : Int)) = false := bne_eq_false_iff_eq.mpr c3
 have c3b2 : (l0.length == l1.length) = true := by first | simpa using c3 | (simp at c3 ⊢; omega)
 clear c3
 have H' := AM_ H
 clear H
 go_enter Tryd.func15, Tryd.ntmps15
 go_wp2
 go_loopg [5] k (fun kq v5 w' => ∃ (x5_1 : Int), v5 = .int .i64 x5_1 ∧ Aside0 (laws_eqEntryS.l0 kq l0 l1 x5_1 = some r) ∧ Aside0 (kq ≤ k) ∧ Aside0 (Below w.heap.size w w'))
 case atStart => exact ⟨(0), (by first | rfl | (simp; done) | (simp [*]; done)), H', ⟨Nat.le_refl _⟩, ⟨BT HB.out⟩⟩
 case round =>
  clear H'
  try clear c1
  try clear p2
  try clear c3
  try clear c3b0
  try clear c3b1
  try clear c3b2
  obtain ⟨x5_1, rfl, HA, HK1, HB⟩ := hrel
  cases gk with
  | zero => exact absurd HA.out (by simp [laws_eqEntryS.l0])
  | succ k1 =>
   have H := HA.out
   clear HA
   simp only [laws_eqEntryS.l0] at H
   by_cases c4 : x5_1 < (l0.length : Int)
   rotate_left
   ·rw [if_neg c4] at H
    have c4b0 : decide (x5_1 < (l0.length : Int)) = false := decide_eq_false c4
    clear c4
    obtain rfl := Option.some.inj H
    go_wp2
    go_ret
    exact QT (BT HB.out)
   rw [if_pos c4] at H
   have c4b0 : decide (x5_1 < (l0.length : Int)) = true := decide_eq_true c4
   clear c4
   by_cases c5 : 0 ≤ x5_1
   rotate_left
   ·rw [if_neg c5] at H
    exact absurd H (by simp)
   rw [if_pos c5] at H
   have c5b0 : decide (0 ≤ x5_1) = true := decide_eq_true c5
   clear c5
   by_cases c6 : x5_1 < (l1.length : Int)
   rotate_left
   ·rw [if_neg c6] at H
    exact absurd H (by simp)
   rw [if_pos c6] at H
   have c6b0 : decide (x5_1 < (l1.length : Int)) = true := decide_eq_true c6
   clear c6
   replace H := Option.bind_eq_some_iff.mp H
   obtain ⟨t326, A70, H⟩ := H
   replace H : (if t326 = true then (laws_eqEntryS.l0 k1 l0 l1 (wrap64 (x5_1 + 1))) else (some false)) = some r := H
   have A7 := AM_ A70
   clear A70
   by_cases c8 : t326 = true
   rotate_left
   ·replace c8 := Bool.eq_false_iff.mpr c8
    subst c8
    have H1 : (some false) = some r := by rw [if_neg (show ¬ (false = true) by decide)] at H; exact H
    clear H
    have H := H1
    clear H1
    obtain rfl := Option.some.inj H
    try go_wp2
    replace HB := AM_ (below_drew1 HB.out)
    have p324 : 0 ≤ (x5_1 : Int) := DT
    have q324 : x5_1 < (l0.length : Int) := DT
    obtain ⟨ad324, A324_2, c324_2, A324_3, c324_3, e324, hx324_0, hx324_1, hx324_2, hx324_3, hl324_2, hi324_2, hl324_3, hi324_3⟩ := at_T53 HR0.out x5_1 p324 q324
    have hw324_3 := hx324_3
    have hw324_2 := hx324_2
    have hw324_1 := hx324_1
    have hw324_0 := hx324_0
    cases e324
    replace hx324_0 := BC HB.out hx324_0
    replace hx324_1 := BC HB.out hx324_1
    replace hx324_2 := BC HB.out hx324_2
    replace hx324_3 := BC HB.out hx324_3
    have HR324_2 := AM_ hi324_2
    have HC324_2 := AM_ hl324_2
    clear hi324_2 hl324_2
    have HR324_3 := AM_ hi324_3
    have HC324_3 := AM_ hl324_3
    clear hi324_3 hl324_3
    replace p324 := eq_true p324
    replace q324 := eq_true q324
    have p325 : 0 ≤ (x5_1 : Int) := DT
    have q325 : x5_1 < (l1.length : Int) := DT
    obtain ⟨ad325, A325_2, c325_2, A325_3, c325_3, e325, hx325_0, hx325_1, hx325_2, hx325_3, hl325_2, hi325_2, hl325_3, hi325_3⟩ := at_T53 HR1.out x5_1 p325 q325
    have hw325_3 := hx325_3
    have hw325_2 := hx325_2
    have hw325_1 := hx325_1
    have hw325_0 := hx325_0
    cases e325
    replace hx325_0 := BC HB.out hx325_0
    replace hx325_1 := BC HB.out hx325_1
    replace hx325_2 := BC HB.out hx325_2
    replace hx325_3 := BC HB.out hx325_3
    have HR325_2 := AM_ hi325_2
    have HC325_2 := AM_ hl325_2
    clear hi325_2 hl325_2
    have HR325_3 := AM_ hi325_3
    have HC325_3 := AM_ hl325_3
    clear hi325_3 hl325_3
    replace p325 := eq_true p325
    replace q325 := eq_true q325
    refine start_ (n := 10) (S := fun w' => w'.cell? (ad324.add ((x5_1).toNat * 4)) = some (.int .i64 ((rd_T53 l0 x5_1).f0)) ∧ w'.cell? ⟨(ad324.add ((x5_1).toNat * 4)).block, (ad324.add ((x5_1).toNat * 4)).off + 1, none⟩ = some (.int .i64 ((rd_T53 l0 x5_1).f1)) ∧ w'.cell? ⟨(ad324.add ((x5_1).toNat * 4)).block, (ad324.add ((x5_1).toNat * 4)).off + 2, none⟩ = some (.slice A324_2 ((rd_T53 l0 x5_1).f2).length c324_2) ∧ w'.cell? ⟨(ad324.add ((x5_1).toNat * 4)).block, (ad324.add ((x5_1).toNat * 4)).off + 3, none⟩ = some (.slice A324_3 ((rd_T53 l0 x5_1).f3).length c324_3) ∧ w'.cell? (ad325.add ((x5_1).toNat * 4)) = some (.int .i64 ((rd_T53 l1 x5_1).f0)) ∧ w'.cell? ⟨(ad325.add ((x5_1).toNat * 4)).block, (ad325.add ((x5_1).toNat * 4)).off + 1, none⟩ = some (.int .i64 ((rd_T53 l1 x5_1).f1)) ∧ w'.cell? ⟨(ad325.add ((x5_1).toNat * 4)).block, (ad325.add ((x5_1).toNat * 4)).off + 2, none⟩ = some (.slice A325_2 ((rd_T53 l1 x5_1).f2).length c325_2) ∧ w'.cell? ⟨(ad325.add ((x5_1).toNat * 4)).block, (ad325.add ((x5_1).toNat * 4)).off + 3, none⟩ = some (.slice A325_3 ((rd_T53 l1 x5_1).f3).length c325_3)) (ds := []) (bs 0 10) (by kernel_rfl) rfl rfl ⟨(BD HB.out hw324_0), (BD HB.out hw324_1), (BD HB.out hw324_2), (BD HB.out hw324_3), (BD HB.out hw325_0), (BD HB.out hw325_1), (BD HB.out hw325_2), (BD HB.out hw325_3)⟩ (fun hHeld => ?_); refine with_tabW laws_eqEntryS.tab6 laws_eqEntryS.bits6 (fun HT_ HW_ => ?_)
    generalize wr.drew = w11 at HB HR324_2 HR324_3 HR325_2 HR325_3 hx324_0 hx324_1 hx324_2 hx324_3 hx325_0 hx325_1 hx325_2 hx325_3 hHeld ⊢
    refine pu (i := 0) (N := some 17) (v := ?_) (a' := ?_) (bs 1 10) rfl rfl HT_ ?_ ?_ ?_
    rotate_left
    ·intro w'
     go_simp
     with_reducible rfl
    rotate_left
    ·simp only [pA, pS, pZ, pK, i64_w, i32_w]
     rfl
    refine pu (i := 1) (N := some 18) (v := ?_) (a' := ?_) (bs 3 10) rfl rfl HT_ ?_ ?_ ?_
    rotate_left
    ·intro w'
     go_simp
     with_reducible rfl
    rotate_left
    ·simp only [pA, pS, pZ, pK, i64_w, i32_w]
     rfl
    refine pu (i := 2) (N := some 19) (v := ?_) (a' := ?_) (bs 7 10) rfl rfl HT_ ?_ ?_ ?_
    rotate_left
    ·intro w'
     go_simp
     with_reducible rfl
    rotate_left
    ·simp only [pA, pS, pZ, pK, i64_w, i32_w]
     rfl
    refine pu (i := 4) (N := some 21) (v := ?_) (a' := ?_) (bs 23 10) rfl rfl HT_ ?_ ?_ ?_
    rotate_left
    ·intro w'
     go_simp
     with_reducible rfl
    rotate_left
    ·simp only [pA, pS, pZ, pK, i64_w, i32_w]
     rfl
    refine pu (i := 5) (N := some 22) (v := ?_) (a' := ?_) (bs 55 10) rfl rfl HT_ ?_ ?_ ?_
    rotate_left
    ·intro w'
     go_simp
     with_reducible rfl
    rotate_left
    ·simp only [pA, pS, pZ, pK, i64_w, i32_w]
     rfl
    refine pu (i := 6) (N := some 23) (v := ?_) (a' := ?_) (bs 119 10) rfl rfl HT_ ?_ ?_ ?_
    rotate_left
    ·intro w'
     go_simp
     with_reducible rfl
    rotate_left
    ·simp only [pA, pS, pZ, pK, i64_w, i32_w]
     rfl
    refine tk (i := 3) (N := some 20) (v := ?_) (a' := ?_) (bs 127 10) rfl rfl HT_ HW_ ?_ hHeld ?_ ?_
    rotate_left
    ·rintro w' ⟨s0, s1, s2, s3, s4, s5, s6, s7⟩
     go_simp
     with_reducible rfl
    rotate_left
    ·simp only [pA, pS, pZ, pK, i64_w, i32_w]
     rfl
    refine tk (i := 7) (N := some 24) (v := ?_) (a' := ?_) (bs 255 10) rfl rfl HT_ HW_ ?_ hHeld ?_ ?_
    rotate_left
    ·rintro w' ⟨s0, s1, s2, s3, s4, s5, s6, s7⟩
     go_simp
     with_reducible rfl
    rotate_left
    ·simp only [pA, pS, pZ, pK, i64_w, i32_w]
     rfl
    refine one_ (i := 8) (N := some 25) (bs 511 10) rfl rfl (one_of HT_.out (by kernel_rfl)) (by decide) (fun K hK => ?_)
    refine goes_ Tryd.func30 (by kernel_rfl) rfl #[.agg #[.int .i64 ((rd_T53 l0 x5_1).f0), .int .i64 ((rd_T53 l0 x5_1).f1), .slice A324_2 ((rd_T53 l0 x5_1).f2).length c324_2, .slice A324_3 ((rd_T53 l0 x5_1).f3).length c324_3], .agg #[.int .i64 ((rd_T53 l1 x5_1).f0), .int .i64 ((rd_T53 l1 x5_1).f1), .slice A325_2 ((rd_T53 l1 x5_1).f2).length c325_2, .slice A325_3 ((rd_T53 l1 x5_1).f3).length c325_3]] (by rfl) rfl rfl (by (try simp only [List.map_toArray, List.map_cons, List.map_nil]); first | done | rfl | (simp only [List.length_drop, List.length_take]; rfl)) ?_
    with_reducible refine (laws_eqEntry.calls k1 ((rd_T53 l0 x5_1).f0) ((rd_T53 l0 x5_1).f1) _ _ ((rd_T53 l0 x5_1).f2) _ _ ((rd_T53 l0 x5_1).f3) ((rd_T53 l1 x5_1).f0) ((rd_T53 l1 x5_1).f1) _ _ ((rd_T53 l1 x5_1).f2) _ _ ((rd_T53 l1 x5_1).f3) false _ ?side1 ?side2 ?side3 ?side4 ?side5 ?side6 ?side7 ?side8 A7.out).mono ?_
    (case side1 => exact CB HR324_2.out HB.out)
    (case side2 => exact HC324_2.out)
    (case side3 => exact CB HR324_3.out HB.out)
    (case side4 => exact HC324_3.out)
    (case side5 => exact CB HR325_2.out HB.out)
    (case side6 => exact HC325_2.out)
    (case side7 => exact CB HR325_3.out HB.out)
    (case side8 => exact HC325_3.out)
    rintro e w12 ⟨rfl, hb⟩
    refine ⟨_, rfl, ?_⟩
    replace HB := AM_ (below_step (BT HB.out) hb)
    (try clear hb)
    (try clear hb2)
    (try clear hk)
    (try clear hi)
    refine hK.out _ _ ⟨(BD HB.out hw324_0), (BD HB.out hw324_1), (BD HB.out hw324_2), (BD HB.out hw324_3), (BD HB.out hw325_0), (BD HB.out hw325_1), (BD HB.out hw325_2), (BD HB.out hw325_3)⟩ (fun hHeld => ?_)
    clear hK K
    refine norm_ (a' := ?_) ?_ ?_
    rotate_left
    ·show Act.put _ (some 25) _ = _
     simp only [pA, pS, pZ, pK, i64_w, i32_w]
     rfl
    refine pu (i := 9) (N := some 26) (v := ?_) (a' := ?_) (bs 1023 10) rfl rfl HT_ ?_ ?_ ?_
    rotate_left
    ·intro w'
     go_simp
     with_reducible rfl
    rotate_left
    ·simp only [pA, pS, pZ, pK, i64_w, i32_w]
     rfl
    refine done_ (done_of HT_.out (by kernel_rfl)) ?_
    try go_wp2
    go_ret
    exact QT (BT HB.out)
   subst c8
   have H1 : (laws_eqEntryS.l0 k1 l0 l1 (wrap64 (x5_1 + 1))) = some r := by rw [if_pos rfl] at H; exact H
   clear H
   have H := H1
   clear H1
   have H' := AM_ H
   clear H
   try go_wp2
   replace HB := AM_ (below_drew1 HB.out)
   have p324 : 0 ≤ (x5_1 : Int) := DT
   have q324 : x5_1 < (l0.length : Int) := DT
   obtain ⟨ad324, A324_2, c324_2, A324_3, c324_3, e324, hx324_0, hx324_1, hx324_2, hx324_3, hl324_2, hi324_2, hl324_3, hi324_3⟩ := at_T53 HR0.out x5_1 p324 q324
   have hw324_3 := hx324_3
   have hw324_2 := hx324_2
   have hw324_1 := hx324_1
   have hw324_0 := hx324_0
   cases e324
   replace hx324_0 := BC HB.out hx324_0
   replace hx324_1 := BC HB.out hx324_1
   replace hx324_2 := BC HB.out hx324_2
   replace hx324_3 := BC HB.out hx324_3
   have HR324_2 := AM_ hi324_2
   have HC324_2 := AM_ hl324_2
   clear hi324_2 hl324_2
   have HR324_3 := AM_ hi324_3
   have HC324_3 := AM_ hl324_3
   clear hi324_3 hl324_3
   replace p324 := eq_true p324
   replace q324 := eq_true q324
   have p325 : 0 ≤ (x5_1 : Int) := DT
   have q325 : x5_1 < (l1.length : Int) := DT
   obtain ⟨ad325, A325_2, c325_2, A325_3, c325_3, e325, hx325_0, hx325_1, hx325_2, hx325_3, hl325_2, hi325_2, hl325_3, hi325_3⟩ := at_T53 HR1.out x5_1 p325 q325
   have hw325_3 := hx325_3
   have hw325_2 := hx325_2
   have hw325_1 := hx325_1
   have hw325_0 := hx325_0
   cases e325
   replace hx325_0 := BC HB.out hx325_0
   replace hx325_1 := BC HB.out hx325_1
   replace hx325_2 := BC HB.out hx325_2
   replace hx325_3 := BC HB.out hx325_3
   have HR325_2 := AM_ hi325_2
   have HC325_2 := AM_ hl325_2
   clear hi325_2 hl325_2
   have HR325_3 := AM_ hi325_3
   have HC325_3 := AM_ hl325_3
   clear hi325_3 hl325_3
   replace p325 := eq_true p325
   replace q325 := eq_true q325
   refine start_ (n := 10) (S := fun w' => w'.cell? (ad324.add ((x5_1).toNat * 4)) = some (.int .i64 ((rd_T53 l0 x5_1).f0)) ∧ w'.cell? ⟨(ad324.add ((x5_1).toNat * 4)).block, (ad324.add ((x5_1).toNat * 4)).off + 1, none⟩ = some (.int .i64 ((rd_T53 l0 x5_1).f1)) ∧ w'.cell? ⟨(ad324.add ((x5_1).toNat * 4)).block, (ad324.add ((x5_1).toNat * 4)).off + 2, none⟩ = some (.slice A324_2 ((rd_T53 l0 x5_1).f2).length c324_2) ∧ w'.cell? ⟨(ad324.add ((x5_1).toNat * 4)).block, (ad324.add ((x5_1).toNat * 4)).off + 3, none⟩ = some (.slice A324_3 ((rd_T53 l0 x5_1).f3).length c324_3) ∧ w'.cell? (ad325.add ((x5_1).toNat * 4)) = some (.int .i64 ((rd_T53 l1 x5_1).f0)) ∧ w'.cell? ⟨(ad325.add ((x5_1).toNat * 4)).block, (ad325.add ((x5_1).toNat * 4)).off + 1, none⟩ = some (.int .i64 ((rd_T53 l1 x5_1).f1)) ∧ w'.cell? ⟨(ad325.add ((x5_1).toNat * 4)).block, (ad325.add ((x5_1).toNat * 4)).off + 2, none⟩ = some (.slice A325_2 ((rd_T53 l1 x5_1).f2).length c325_2) ∧ w'.cell? ⟨(ad325.add ((x5_1).toNat * 4)).block, (ad325.add ((x5_1).toNat * 4)).off + 3, none⟩ = some (.slice A325_3 ((rd_T53 l1 x5_1).f3).length c325_3)) (ds := []) (bs 0 10) (by kernel_rfl) rfl rfl ⟨(BD HB.out hw324_0), (BD HB.out hw324_1), (BD HB.out hw324_2), (BD HB.out hw324_3), (BD HB.out hw325_0), (BD HB.out hw325_1), (BD HB.out hw325_2), (BD HB.out hw325_3)⟩ (fun hHeld => ?_); refine with_tabW laws_eqEntryS.tab6 laws_eqEntryS.bits6 (fun HT_ HW_ => ?_)
   generalize wr.drew = w9 at HB HR324_2 HR324_3 HR325_2 HR325_3 hx324_0 hx324_1 hx324_2 hx324_3 hx325_0 hx325_1 hx325_2 hx325_3 hHeld ⊢
   refine pu (i := 0) (N := some 17) (v := ?_) (a' := ?_) (bs 1 10) rfl rfl HT_ ?_ ?_ ?_
   rotate_left
   ·intro w'
    go_simp
    with_reducible rfl
   rotate_left
   ·simp only [pA, pS, pZ, pK, i64_w, i32_w]
    rfl
   refine pu (i := 1) (N := some 18) (v := ?_) (a' := ?_) (bs 3 10) rfl rfl HT_ ?_ ?_ ?_
   rotate_left
   ·intro w'
    go_simp
    with_reducible rfl
   rotate_left
   ·simp only [pA, pS, pZ, pK, i64_w, i32_w]
    rfl
   refine pu (i := 2) (N := some 19) (v := ?_) (a' := ?_) (bs 7 10) rfl rfl HT_ ?_ ?_ ?_
   rotate_left
   ·intro w'
    go_simp
    with_reducible rfl
   rotate_left
   ·simp only [pA, pS, pZ, pK, i64_w, i32_w]
    rfl
   refine pu (i := 4) (N := some 21) (v := ?_) (a' := ?_) (bs 23 10) rfl rfl HT_ ?_ ?_ ?_
   rotate_left
   ·intro w'
    go_simp
    with_reducible rfl
   rotate_left
   ·simp only [pA, pS, pZ, pK, i64_w, i32_w]
    rfl
   refine pu (i := 5) (N := some 22) (v := ?_) (a' := ?_) (bs 55 10) rfl rfl HT_ ?_ ?_ ?_
   rotate_left
   ·intro w'
    go_simp
    with_reducible rfl
   rotate_left
   ·simp only [pA, pS, pZ, pK, i64_w, i32_w]
    rfl
   refine pu (i := 6) (N := some 23) (v := ?_) (a' := ?_) (bs 119 10) rfl rfl HT_ ?_ ?_ ?_
   rotate_left
   ·intro w'
    go_simp
    with_reducible rfl
   rotate_left
   ·simp only [pA, pS, pZ, pK, i64_w, i32_w]
    rfl
   refine tk (i := 3) (N := some 20) (v := ?_) (a' := ?_) (bs 127 10) rfl rfl HT_ HW_ ?_ hHeld ?_ ?_
   rotate_left
   ·rintro w' ⟨s0, s1, s2, s3, s4, s5, s6, s7⟩
    go_simp
    with_reducible rfl
   rotate_left
   ·simp only [pA, pS, pZ, pK, i64_w, i32_w]
    rfl
   refine tk (i := 7) (N := some 24) (v := ?_) (a' := ?_) (bs 255 10) rfl rfl HT_ HW_ ?_ hHeld ?_ ?_
   rotate_left
   ·rintro w' ⟨s0, s1, s2, s3, s4, s5, s6, s7⟩
    go_simp
    with_reducible rfl
   rotate_left
   ·simp only [pA, pS, pZ, pK, i64_w, i32_w]
    rfl
   refine one_ (i := 8) (N := some 25) (bs 511 10) rfl rfl (one_of HT_.out (by kernel_rfl)) (by decide) (fun K hK => ?_)
   refine goes_ Tryd.func30 (by kernel_rfl) rfl #[.agg #[.int .i64 ((rd_T53 l0 x5_1).f0), .int .i64 ((rd_T53 l0 x5_1).f1), .slice A324_2 ((rd_T53 l0 x5_1).f2).length c324_2, .slice A324_3 ((rd_T53 l0 x5_1).f3).length c324_3], .agg #[.int .i64 ((rd_T53 l1 x5_1).f0), .int .i64 ((rd_T53 l1 x5_1).f1), .slice A325_2 ((rd_T53 l1 x5_1).f2).length c325_2, .slice A325_3 ((rd_T53 l1 x5_1).f3).length c325_3]] (by rfl) rfl rfl (by (try simp only [List.map_toArray, List.map_cons, List.map_nil]); first | done | rfl | (simp only [List.length_drop, List.length_take]; rfl)) ?_
   with_reducible refine (laws_eqEntry.calls k1 ((rd_T53 l0 x5_1).f0) ((rd_T53 l0 x5_1).f1) _ _ ((rd_T53 l0 x5_1).f2) _ _ ((rd_T53 l0 x5_1).f3) ((rd_T53 l1 x5_1).f0) ((rd_T53 l1 x5_1).f1) _ _ ((rd_T53 l1 x5_1).f2) _ _ ((rd_T53 l1 x5_1).f3) true _ ?side1 ?side2 ?side3 ?side4 ?side5 ?side6 ?side7 ?side8 A7.out).mono ?_
   (case side1 => exact CB HR324_2.out HB.out)
   (case side2 => exact HC324_2.out)
   (case side3 => exact CB HR324_3.out HB.out)
   (case side4 => exact HC324_3.out)
   (case side5 => exact CB HR325_2.out HB.out)
   (case side6 => exact HC325_2.out)
   (case side7 => exact CB HR325_3.out HB.out)
   (case side8 => exact HC325_3.out)
   rintro e w10 ⟨rfl, hb⟩
   refine ⟨_, rfl, ?_⟩
   replace HB := AM_ (below_step (BT HB.out) hb)
   (try clear hb)
   (try clear hb2)
   (try clear hk)
   (try clear hi)
   refine hK.out _ _ ⟨(BD HB.out hw324_0), (BD HB.out hw324_1), (BD HB.out hw324_2), (BD HB.out hw324_3), (BD HB.out hw325_0), (BD HB.out hw325_1), (BD HB.out hw325_2), (BD HB.out hw325_3)⟩ (fun hHeld => ?_)
   clear hK K
   refine norm_ (a' := ?_) ?_ ?_
   rotate_left
   ·show Act.put _ (some 25) _ = _
    simp only [pA, pS, pZ, pK, i64_w, i32_w]
    rfl
   refine pu (i := 9) (N := some 26) (v := ?_) (a' := ?_) (bs 1023 10) rfl rfl HT_ ?_ ?_ ?_
   rotate_left
   ·intro w'
    go_simp
    with_reducible rfl
   rotate_left
   ·simp only [pA, pS, pZ, pK, i64_w, i32_w]
    rfl
   refine done_ (done_of HT_.out (by kernel_rfl)) ?_
   try go_wp2
   go_roundg k1
   case measure => have := HK1.out; omega
   case rel => exact ⟨(wrap64 (x5_1 + 1)), (by first | rfl | (simp; done) | (simp [*]; done)), H', ⟨by have := HK1.out; omega⟩, ⟨BT HB.out⟩⟩

/-! ### laws_FnExactFormatHistory: function 4 -/
def laws_FnExactFormatHistory.f (k : Nat) (l0 : List (S47)) : Option (Bool) := (laws_szEntryS.f k l0 1048576).bind fun t327 => (if t327 < 0 then (some true) else ((laws_toEntryS.f k l0).bind fun t328 => ((spec_FormatHistory.f k t328).bind fun t331 => ((laws_toEntryS.f k l0).bind fun t332 => ((impl_FormatHistory.f k t332).bind fun t335 => (if t335.toList = t331.toList then ((laws_toEntryS.f k l0).bind fun t336 => ((laws_eqEntryS.f k t332 t336).bind fun t339 => (if t339 = true then (some true) else (some false)))) else (some false)))))))
theorem laws_FnExactFormatHistory.mono : ∀ a0 k, LeO (laws_FnExactFormatHistory.f k a0) (laws_FnExactFormatHistory.f (k + 1) a0) := by
 intro a0 k
 unfold laws_FnExactFormatHistory.f
 repeat' first
   | (with_reducible exact impl_FormatHistory.mono _ _)
   | (with_reducible exact laws_eqEntryS.mono _ _ _)
   | (with_reducible exact laws_szEntryS.mono _ _ _)
   | (with_reducible exact laws_toEntryS.mono _ _)
   | (with_reducible exact spec_FormatHistory.mono _ _)
   | (with_reducible exact LeO.refl _)
   | (with_reducible exact LeO.none _)
   | (with_reducible refine LeO.ite ?_ ?_)
   | (with_reducible refine LeO.bind ?_ (fun _ => ?_))
   | exact impl_FormatHistory.mono _ _
   | exact laws_eqEntryS.mono _ _ _
   | exact laws_szEntryS.mono _ _ _
   | exact laws_toEntryS.mono _ _
   | exact spec_FormatHistory.mono _ _
   | exact LeO.none _
   | refine LeO.ite ?_ ?_
   | refine LeO.bind ?_ (fun _ => ?_)
set_option maxHeartbeats 8000000 in
set_option maxRecDepth 100000 in
theorem laws_FnExactFormatHistory.calls (k : Nat) (A0 : Option Addr) (c0 : Nat) (l0 : List (S47)) (r : Bool) (w : World) (hr0 : Kd.C k47 w A0 l0.length l0) (hc0 : l0.length ≤ c0) (hTB : Tryd.TB1 w) (h : laws_FnExactFormatHistory.f k l0 = some r) :
  Calls Tryd.prog 4 #[.slice A0 l0.length c0] w fun e w' => e = .returned (.bool r) ∧ Below w.heap.size w w' := by
 have HR0 := AM_ hr0
 have HC0 := AM_ hc0
 clear hr0 hc0
 have HB := AM_ (Below.refl w.heap.size w)
 have H : ((laws_szEntryS.f k l0 1048576).bind fun t327 => (if t327 < 0 then (some true) else ((laws_toEntryS.f k l0).bind fun t328 => ((spec_FormatHistory.f k t328).bind fun t331 => ((laws_toEntryS.f k l0).bind fun t332 => ((impl_FormatHistory.f k t332).bind fun t335 => (if t335.toList = t331.toList then ((laws_toEntryS.f k l0).bind fun t336 => ((laws_eqEntryS.f k t332 t336).bind fun t339 => (if t339 = true then (some true) else (some false)))) else (some false)))))))) = some r := h
 clear h
 replace H := Option.bind_eq_some_iff.mp H
 obtain ⟨t327, A20, H⟩ := H
 replace H : (if t327 < 0 then (some true) else ((laws_toEntryS.f k l0).bind fun t328 => ((spec_FormatHistory.f k t328).bind fun t331 => ((laws_toEntryS.f k l0).bind fun t332 => ((impl_FormatHistory.f k t332).bind fun t335 => (if t335.toList = t331.toList then ((laws_toEntryS.f k l0).bind fun t336 => ((laws_eqEntryS.f k t332 t336).bind fun t339 => (if t339 = true then (some true) else (some false)))) else (some false))))))) = some r := H
 have A2 := AM_ A20
 clear A20
 by_cases c3 : t327 < 0
 ·rw [if_pos c3] at H
  have c3b0 : decide (t327 < 0) = true := decide_eq_true c3
  clear c3
  obtain rfl := Option.some.inj H
  go_enter Tryd.func4, Tryd.ntmps4
  go_wp2_with (first | ((with_reducible refine gate_callee (f := 11) rfl ?_); refine goesL_ (some 9) rfl rfl Tryd.func11 (by kernel_rfl) rfl #[.slice A0 l0.length c0, .int .i64 1048576] rfl (by (try simp only [List.map_toArray, List.map_cons, List.map_nil]); first | done | rfl | (simp only [List.length_drop, List.length_take]; rfl)) ?_; (with_reducible refine (laws_szEntryS.calls k _ _ l0 1048576 t327 _ ?side1 ?side2 A2.out).mono ?_); (case side1 => repeat (first | exact HR0.out | (with_reducible refine Kd.C_alloc ?_ _) | (with_reducible refine Kd.C_drewN ?_ _) | (with_reducible refine Kd.C_drew ?_))); (case side2 => exact HC0.out); rintro e w4 ⟨rfl, hb⟩; refine ⟨_, rfl, ?_⟩; replace HB := AM_ (below_step (BT HB.out) hb); (try clear hb); (try clear hb2); (try clear hk); (try clear hi)))
  go_ret
  exact QT (BT HB.out)
 rw [if_neg c3] at H
 have c3b0 : decide (t327 < 0) = false := decide_eq_false c3
 clear c3
 replace H := Option.bind_eq_some_iff.mp H
 obtain ⟨t328, A50, H⟩ := H
 replace H : ((spec_FormatHistory.f k t328).bind fun t331 => ((laws_toEntryS.f k l0).bind fun t332 => ((impl_FormatHistory.f k t332).bind fun t335 => (if t335.toList = t331.toList then ((laws_toEntryS.f k l0).bind fun t336 => ((laws_eqEntryS.f k t332 t336).bind fun t339 => (if t339 = true then (some true) else (some false)))) else (some false))))) = some r := H
 have A5 := AM_ A50
 clear A50
 replace H := Option.bind_eq_some_iff.mp H
 obtain ⟨t331, A60, H⟩ := H
 replace H : ((laws_toEntryS.f k l0).bind fun t332 => ((impl_FormatHistory.f k t332).bind fun t335 => (if t335.toList = t331.toList then ((laws_toEntryS.f k l0).bind fun t336 => ((laws_eqEntryS.f k t332 t336).bind fun t339 => (if t339 = true then (some true) else (some false)))) else (some false)))) = some r := H
 have A6 := AM_ A60
 clear A60
 replace H := Option.bind_eq_some_iff.mp H
 obtain ⟨t332, A70, H⟩ := H
 replace H : ((impl_FormatHistory.f k t332).bind fun t335 => (if t335.toList = t331.toList then ((laws_toEntryS.f k l0).bind fun t336 => ((laws_eqEntryS.f k t332 t336).bind fun t339 => (if t339 = true then (some true) else (some false)))) else (some false))) = some r := H
 have A7 := AM_ A70
 clear A70
 replace H := Option.bind_eq_some_iff.mp H
 obtain ⟨t335, A80, H⟩ := H
 replace H : (if t335.toList = t331.toList then ((laws_toEntryS.f k l0).bind fun t336 => ((laws_eqEntryS.f k t332 t336).bind fun t339 => (if t339 = true then (some true) else (some false)))) else (some false)) = some r := H
 have A8 := AM_ A80
 clear A80
 by_cases c9 : t335.toList = t331.toList
 rotate_left
 ·rw [if_neg c9] at H
  have c9b0 : (t335.toList == t331.toList) = false := beq_eq_false_iff_ne.mpr c9
  have c9b1 : (t335.toList != t331.toList) = true := bne_iff_ne.mpr c9
  obtain rfl := Option.some.inj H
  go_enter Tryd.func4, Tryd.ntmps4
  go_wp2_with (first | ((with_reducible refine gate_callee (f := 11) rfl ?_); refine goesL_ (some 9) rfl rfl Tryd.func11 (by kernel_rfl) rfl #[.slice A0 l0.length c0, .int .i64 1048576] rfl (by (try simp only [List.map_toArray, List.map_cons, List.map_nil]); first | done | rfl | (simp only [List.length_drop, List.length_take]; rfl)) ?_; (with_reducible refine (laws_szEntryS.calls k _ _ l0 1048576 t327 _ ?side1 ?side2 A2.out).mono ?_); (case side1 => repeat (first | exact HR0.out | (with_reducible refine Kd.C_alloc ?_ _) | (with_reducible refine Kd.C_drewN ?_ _) | (with_reducible refine Kd.C_drew ?_))); (case side2 => exact HC0.out); rintro e w33 ⟨rfl, hb⟩; refine ⟨_, rfl, ?_⟩; replace HB := AM_ (below_step (BT HB.out) hb); (try clear hb); (try clear hb2); (try clear hk); (try clear hi)) | ((with_reducible refine gate_callee (f := 13) rfl ?_); refine goesL_ (some 13) rfl rfl Tryd.func13 (by kernel_rfl) rfl #[.slice A0 l0.length c0] rfl (by (try simp only [List.map_toArray, List.map_cons, List.map_nil]); first | done | rfl | (simp only [List.length_drop, List.length_take]; rfl)) ?_; (with_reducible refine (laws_toEntryS.calls k _ _ l0 t328 _ ?side1 ?side2 A5.out).mono ?_); (case side1 => exact CB HR0.out HB.out); (case side2 => exact HC0.out); rintro e w34 ⟨v329, rfl, ho0, hb⟩; refine ⟨_, rfl, ?_⟩; have HO330 := AM_ (Kd.S_lower ho0 (below_size (BT HB.out))); replace HB := AM_ (below_step (BT HB.out) hb); (try clear hb); (try clear hb2); (try clear hk); (try clear hi); (try clear ho0); obtain ⟨Ao35, co35, eo35⟩ := Kd.S_slice HO330.out; subst eo35) | ((with_reducible refine gate_callee (f := 12) rfl ?_); refine goesL_ (some 14) rfl rfl Tryd.func12 (by kernel_rfl) rfl #[.slice Ao35 t328.length co35] rfl (by (try simp only [List.map_toArray, List.map_cons, List.map_nil]); first | done | rfl | (simp only [List.length_drop, List.length_take]; rfl)) ?_; (with_reducible refine (spec_FormatHistory.calls k _ _ t328 t331 _ ?side1 ?side2 A6.out).mono ?_); (case side1 => exact Kd.C_below (Kd.S_reads' HO330.out).2.2 (BL (Below.refl _ _) rfl rfl rfl rfl)); (case side2 => exact (Kd.S_reads' HO330.out).2.1); rintro e w36 ⟨rfl, hb⟩; refine ⟨_, rfl, ?_⟩; replace HO330 := AM_ (Kd.S_below (ST HO330.out) hb); replace HB := AM_ (below_step (BT HB.out) hb); (try clear hb); (try clear hb2); (try clear hk); (try clear hi)) | ((with_reducible refine gate_callee (f := 13) rfl ?_); refine goesL_ (some 16) rfl rfl Tryd.func13 (by kernel_rfl) rfl #[.slice A0 l0.length c0] rfl (by (try simp only [List.map_toArray, List.map_cons, List.map_nil]); first | done | rfl | (simp only [List.length_drop, List.length_take]; rfl)) ?_; (with_reducible refine (laws_toEntryS.calls k _ _ l0 t332 _ ?side1 ?side2 A7.out).mono ?_); (case side1 => exact CB HR0.out HB.out); (case side2 => exact HC0.out); rintro e w37 ⟨v333, rfl, ho0, hb⟩; refine ⟨_, rfl, ?_⟩; have HO334 := AM_ (Kd.S_lower (Kd.S_new' ho0 (Kd.S_lt (ST HO330.out))) (below_size (BT HB.out))); replace HO330 := AM_ (Kd.S_elder' (ST HO330.out) (Kd.S_base ho0) hb); replace HB := AM_ (below_step (BT HB.out) hb); (try clear hb); (try clear hb2); (try clear hk); (try clear hi); (try clear ho0); obtain ⟨Ao38, co38, eo38⟩ := Kd.S_slice HO334.out; subst eo38) | ((with_reducible refine gate_callee (f := 14) rfl ?_); refine goesL_ (some 18) rfl rfl Tryd.func14 (by kernel_rfl) rfl #[.slice Ao38 t332.length co38] rfl (by (try simp only [List.map_toArray, List.map_cons, List.map_nil]); first | done | rfl | (simp only [List.length_drop, List.length_take]; rfl)) ?_; (with_reducible refine (impl_FormatHistory.calls k _ _ t332 t335 _ ?side1 ?side2 ?side3 A8.out).mono ?_); (case side1 => exact Kd.C_below (Kd.S_reads' HO334.out).2.2 (BL (Below.refl _ _) rfl rfl rfl rfl)); (case side2 => exact (Kd.S_reads' HO334.out).2.1); (case side3 => first | exact hTB | exact Tryd.TB1_below hTB (BT HB.out)); rintro e w39 ⟨rfl, hb⟩; refine ⟨_, rfl, ?_⟩; replace HO330 := AM_ (Kd.S_below (ST HO330.out) hb); replace HO334 := AM_ (Kd.S_below (ST HO334.out) hb); replace HB := AM_ (below_step (BT HB.out) hb); (try clear hb); (try clear hb2); (try clear hk); (try clear hi)))
  go_ret
  exact QT (BT HB.out)
 rw [if_pos c9] at H
 have c9b0 : (t335.toList == t331.toList) = true := beq_iff_eq.mpr c9
 have c9b1 : (t335.toList != t331.toList) = false := bne_eq_false_iff_eq.mpr c9
 clear c9
 replace H := Option.bind_eq_some_iff.mp H
 obtain ⟨t336, A100, H⟩ := H
 replace H : ((laws_eqEntryS.f k t332 t336).bind fun t339 => (if t339 = true then (some true) else (some false))) = some r := H
 have A10 := AM_ A100
 clear A100
 replace H := Option.bind_eq_some_iff.mp H
 obtain ⟨t339, A110, H⟩ := H
 replace H : (if t339 = true then (some true) else (some false)) = some r := H
 have A11 := AM_ A110
 clear A110
 by_cases c12 : t339 = true
 ·subst c12
  have H1 : (some true) = some r := by rw [if_pos rfl] at H; exact H
  clear H
  have H := H1
  clear H1
  obtain rfl := Option.some.inj H
  go_enter Tryd.func4, Tryd.ntmps4
  go_wp2_with (first | ((with_reducible refine gate_callee (f := 11) rfl ?_); refine goesL_ (some 9) rfl rfl Tryd.func11 (by kernel_rfl) rfl #[.slice A0 l0.length c0, .int .i64 1048576] rfl (by (try simp only [List.map_toArray, List.map_cons, List.map_nil]); first | done | rfl | (simp only [List.length_drop, List.length_take]; rfl)) ?_; (with_reducible refine (laws_szEntryS.calls k _ _ l0 1048576 t327 _ ?side1 ?side2 A2.out).mono ?_); (case side1 => repeat (first | exact HR0.out | (with_reducible refine Kd.C_alloc ?_ _) | (with_reducible refine Kd.C_drewN ?_ _) | (with_reducible refine Kd.C_drew ?_))); (case side2 => exact HC0.out); rintro e w13 ⟨rfl, hb⟩; refine ⟨_, rfl, ?_⟩; replace HB := AM_ (below_step (BT HB.out) hb); (try clear hb); (try clear hb2); (try clear hk); (try clear hi)) | ((with_reducible refine gate_callee (f := 13) rfl ?_); refine goesL_ (some 13) rfl rfl Tryd.func13 (by kernel_rfl) rfl #[.slice A0 l0.length c0] rfl (by (try simp only [List.map_toArray, List.map_cons, List.map_nil]); first | done | rfl | (simp only [List.length_drop, List.length_take]; rfl)) ?_; (with_reducible refine (laws_toEntryS.calls k _ _ l0 t328 _ ?side1 ?side2 A5.out).mono ?_); (case side1 => exact CB HR0.out HB.out); (case side2 => exact HC0.out); rintro e w14 ⟨v329, rfl, ho0, hb⟩; refine ⟨_, rfl, ?_⟩; have HO330 := AM_ (Kd.S_lower ho0 (below_size (BT HB.out))); replace HB := AM_ (below_step (BT HB.out) hb); (try clear hb); (try clear hb2); (try clear hk); (try clear hi); (try clear ho0); obtain ⟨Ao15, co15, eo15⟩ := Kd.S_slice HO330.out; subst eo15) | ((with_reducible refine gate_callee (f := 12) rfl ?_); refine goesL_ (some 14) rfl rfl Tryd.func12 (by kernel_rfl) rfl #[.slice Ao15 t328.length co15] rfl (by (try simp only [List.map_toArray, List.map_cons, List.map_nil]); first | done | rfl | (simp only [List.length_drop, List.length_take]; rfl)) ?_; (with_reducible refine (spec_FormatHistory.calls k _ _ t328 t331 _ ?side1 ?side2 A6.out).mono ?_); (case side1 => exact Kd.C_below (Kd.S_reads' HO330.out).2.2 (BL (Below.refl _ _) rfl rfl rfl rfl)); (case side2 => exact (Kd.S_reads' HO330.out).2.1); rintro e w16 ⟨rfl, hb⟩; refine ⟨_, rfl, ?_⟩; replace HO330 := AM_ (Kd.S_below (ST HO330.out) hb); replace HB := AM_ (below_step (BT HB.out) hb); (try clear hb); (try clear hb2); (try clear hk); (try clear hi)) | ((with_reducible refine gate_callee (f := 13) rfl ?_); refine goesL_ (some 16) rfl rfl Tryd.func13 (by kernel_rfl) rfl #[.slice A0 l0.length c0] rfl (by (try simp only [List.map_toArray, List.map_cons, List.map_nil]); first | done | rfl | (simp only [List.length_drop, List.length_take]; rfl)) ?_; (with_reducible refine (laws_toEntryS.calls k _ _ l0 t332 _ ?side1 ?side2 A7.out).mono ?_); (case side1 => exact CB HR0.out HB.out); (case side2 => exact HC0.out); rintro e w17 ⟨v333, rfl, ho0, hb⟩; refine ⟨_, rfl, ?_⟩; have HO334 := AM_ (Kd.S_lower (Kd.S_new' ho0 (Kd.S_lt (ST HO330.out))) (below_size (BT HB.out))); replace HO330 := AM_ (Kd.S_elder' (ST HO330.out) (Kd.S_base ho0) hb); replace HB := AM_ (below_step (BT HB.out) hb); (try clear hb); (try clear hb2); (try clear hk); (try clear hi); (try clear ho0); obtain ⟨Ao18, co18, eo18⟩ := Kd.S_slice HO334.out; subst eo18) | ((with_reducible refine gate_callee (f := 14) rfl ?_); refine goesL_ (some 18) rfl rfl Tryd.func14 (by kernel_rfl) rfl #[.slice Ao18 t332.length co18] rfl (by (try simp only [List.map_toArray, List.map_cons, List.map_nil]); first | done | rfl | (simp only [List.length_drop, List.length_take]; rfl)) ?_; (with_reducible refine (impl_FormatHistory.calls k _ _ t332 t335 _ ?side1 ?side2 ?side3 A8.out).mono ?_); (case side1 => exact Kd.C_below (Kd.S_reads' HO334.out).2.2 (BL (Below.refl _ _) rfl rfl rfl rfl)); (case side2 => exact (Kd.S_reads' HO334.out).2.1); (case side3 => first | exact hTB | exact Tryd.TB1_below hTB (BT HB.out)); rintro e w19 ⟨rfl, hb⟩; refine ⟨_, rfl, ?_⟩; replace HO330 := AM_ (Kd.S_below (ST HO330.out) hb); replace HO334 := AM_ (Kd.S_below (ST HO334.out) hb); replace HB := AM_ (below_step (BT HB.out) hb); (try clear hb); (try clear hb2); (try clear hk); (try clear hi)) | ((with_reducible refine gate_callee (f := 13) rfl ?_); refine goesL_ (some 24) rfl rfl Tryd.func13 (by kernel_rfl) rfl #[.slice A0 l0.length c0] rfl (by (try simp only [List.map_toArray, List.map_cons, List.map_nil]); first | done | rfl | (simp only [List.length_drop, List.length_take]; rfl)) ?_; (with_reducible refine (laws_toEntryS.calls k _ _ l0 t336 _ ?side1 ?side2 A10.out).mono ?_); (case side1 => exact CB HR0.out HB.out); (case side2 => exact HC0.out); rintro e w20 ⟨v337, rfl, ho0, hb⟩; refine ⟨_, rfl, ?_⟩; have HO338 := AM_ (Kd.S_lower (Kd.S_new' (Kd.S_new' ho0 (Kd.S_lt (ST HO330.out))) (Kd.S_lt (ST HO334.out))) (below_size (BT HB.out))); replace HO330 := AM_ (Kd.S_elder' (ST HO330.out) (Kd.S_base ho0) hb); replace HO334 := AM_ (Kd.S_elder' (ST HO334.out) (Kd.S_base ho0) hb); replace HB := AM_ (below_step (BT HB.out) hb); (try clear hb); (try clear hb2); (try clear hk); (try clear hi); (try clear ho0); obtain ⟨Ao21, co21, eo21⟩ := Kd.S_slice HO338.out; subst eo21) | ((with_reducible refine gate_callee (f := 15) rfl ?_); refine goesL_ (some 25) rfl rfl Tryd.func15 (by kernel_rfl) rfl #[.slice Ao18 t332.length co18, .slice Ao21 t336.length co21] rfl (by (try simp only [List.map_toArray, List.map_cons, List.map_nil]); first | done | rfl | (simp only [List.length_drop, List.length_take]; rfl)) ?_; (with_reducible refine (laws_eqEntryS.calls k _ _ t332 _ _ t336 true _ ?side1 ?side2 ?side3 ?side4 A11.out).mono ?_); (case side1 => exact Kd.C_below (Kd.S_reads' HO334.out).2.2 (BL (Below.refl _ _) rfl rfl rfl rfl)); (case side2 => exact (Kd.S_reads' HO334.out).2.1); (case side3 => exact Kd.C_below (Kd.S_reads' HO338.out).2.2 (BL (Below.refl _ _) rfl rfl rfl rfl)); (case side4 => exact (Kd.S_reads' HO338.out).2.1); rintro e w22 ⟨rfl, hb⟩; refine ⟨_, rfl, ?_⟩; replace HO330 := AM_ (Kd.S_below (ST HO330.out) hb); replace HO334 := AM_ (Kd.S_below (ST HO334.out) hb); replace HO338 := AM_ (Kd.S_below (ST HO338.out) hb); replace HB := AM_ (below_step (BT HB.out) hb); (try clear hb); (try clear hb2); (try clear hk); (try clear hi)))
  go_ret
  exact QT (BT HB.out)
 replace c12 := Bool.eq_false_iff.mpr c12
 subst c12
 have H1 : (some false) = some r := by rw [if_neg (show ¬ (false = true) by decide)] at H; exact H
 clear H
 have H := H1
 clear H1
 obtain rfl := Option.some.inj H
 go_enter Tryd.func4, Tryd.ntmps4
 go_wp2_with (first | ((with_reducible refine gate_callee (f := 11) rfl ?_); refine goesL_ (some 9) rfl rfl Tryd.func11 (by kernel_rfl) rfl #[.slice A0 l0.length c0, .int .i64 1048576] rfl (by (try simp only [List.map_toArray, List.map_cons, List.map_nil]); first | done | rfl | (simp only [List.length_drop, List.length_take]; rfl)) ?_; (with_reducible refine (laws_szEntryS.calls k _ _ l0 1048576 t327 _ ?side1 ?side2 A2.out).mono ?_); (case side1 => repeat (first | exact HR0.out | (with_reducible refine Kd.C_alloc ?_ _) | (with_reducible refine Kd.C_drewN ?_ _) | (with_reducible refine Kd.C_drew ?_))); (case side2 => exact HC0.out); rintro e w23 ⟨rfl, hb⟩; refine ⟨_, rfl, ?_⟩; replace HB := AM_ (below_step (BT HB.out) hb); (try clear hb); (try clear hb2); (try clear hk); (try clear hi)) | ((with_reducible refine gate_callee (f := 13) rfl ?_); refine goesL_ (some 13) rfl rfl Tryd.func13 (by kernel_rfl) rfl #[.slice A0 l0.length c0] rfl (by (try simp only [List.map_toArray, List.map_cons, List.map_nil]); first | done | rfl | (simp only [List.length_drop, List.length_take]; rfl)) ?_; (with_reducible refine (laws_toEntryS.calls k _ _ l0 t328 _ ?side1 ?side2 A5.out).mono ?_); (case side1 => exact CB HR0.out HB.out); (case side2 => exact HC0.out); rintro e w24 ⟨v329, rfl, ho0, hb⟩; refine ⟨_, rfl, ?_⟩; have HO330 := AM_ (Kd.S_lower ho0 (below_size (BT HB.out))); replace HB := AM_ (below_step (BT HB.out) hb); (try clear hb); (try clear hb2); (try clear hk); (try clear hi); (try clear ho0); obtain ⟨Ao25, co25, eo25⟩ := Kd.S_slice HO330.out; subst eo25) | ((with_reducible refine gate_callee (f := 12) rfl ?_); refine goesL_ (some 14) rfl rfl Tryd.func12 (by kernel_rfl) rfl #[.slice Ao25 t328.length co25] rfl (by (try simp only [List.map_toArray, List.map_cons, List.map_nil]); first | done | rfl | (simp only [List.length_drop, List.length_take]; rfl)) ?_; (with_reducible refine (spec_FormatHistory.calls k _ _ t328 t331 _ ?side1 ?side2 A6.out).mono ?_); (case side1 => exact Kd.C_below (Kd.S_reads' HO330.out).2.2 (BL (Below.refl _ _) rfl rfl rfl rfl)); (case side2 => exact (Kd.S_reads' HO330.out).2.1); rintro e w26 ⟨rfl, hb⟩; refine ⟨_, rfl, ?_⟩; replace HO330 := AM_ (Kd.S_below (ST HO330.out) hb); replace HB := AM_ (below_step (BT HB.out) hb); (try clear hb); (try clear hb2); (try clear hk); (try clear hi)) | ((with_reducible refine gate_callee (f := 13) rfl ?_); refine goesL_ (some 16) rfl rfl Tryd.func13 (by kernel_rfl) rfl #[.slice A0 l0.length c0] rfl (by (try simp only [List.map_toArray, List.map_cons, List.map_nil]); first | done | rfl | (simp only [List.length_drop, List.length_take]; rfl)) ?_; (with_reducible refine (laws_toEntryS.calls k _ _ l0 t332 _ ?side1 ?side2 A7.out).mono ?_); (case side1 => exact CB HR0.out HB.out); (case side2 => exact HC0.out); rintro e w27 ⟨v333, rfl, ho0, hb⟩; refine ⟨_, rfl, ?_⟩; have HO334 := AM_ (Kd.S_lower (Kd.S_new' ho0 (Kd.S_lt (ST HO330.out))) (below_size (BT HB.out))); replace HO330 := AM_ (Kd.S_elder' (ST HO330.out) (Kd.S_base ho0) hb); replace HB := AM_ (below_step (BT HB.out) hb); (try clear hb); (try clear hb2); (try clear hk); (try clear hi); (try clear ho0); obtain ⟨Ao28, co28, eo28⟩ := Kd.S_slice HO334.out; subst eo28) | ((with_reducible refine gate_callee (f := 14) rfl ?_); refine goesL_ (some 18) rfl rfl Tryd.func14 (by kernel_rfl) rfl #[.slice Ao28 t332.length co28] rfl (by (try simp only [List.map_toArray, List.map_cons, List.map_nil]); first | done | rfl | (simp only [List.length_drop, List.length_take]; rfl)) ?_; (with_reducible refine (impl_FormatHistory.calls k _ _ t332 t335 _ ?side1 ?side2 ?side3 A8.out).mono ?_); (case side1 => exact Kd.C_below (Kd.S_reads' HO334.out).2.2 (BL (Below.refl _ _) rfl rfl rfl rfl)); (case side2 => exact (Kd.S_reads' HO334.out).2.1); (case side3 => first | exact hTB | exact Tryd.TB1_below hTB (BT HB.out)); rintro e w29 ⟨rfl, hb⟩; refine ⟨_, rfl, ?_⟩; replace HO330 := AM_ (Kd.S_below (ST HO330.out) hb); replace HO334 := AM_ (Kd.S_below (ST HO334.out) hb); replace HB := AM_ (below_step (BT HB.out) hb); (try clear hb); (try clear hb2); (try clear hk); (try clear hi)) | ((with_reducible refine gate_callee (f := 13) rfl ?_); refine goesL_ (some 24) rfl rfl Tryd.func13 (by kernel_rfl) rfl #[.slice A0 l0.length c0] rfl (by (try simp only [List.map_toArray, List.map_cons, List.map_nil]); first | done | rfl | (simp only [List.length_drop, List.length_take]; rfl)) ?_; (with_reducible refine (laws_toEntryS.calls k _ _ l0 t336 _ ?side1 ?side2 A10.out).mono ?_); (case side1 => exact CB HR0.out HB.out); (case side2 => exact HC0.out); rintro e w30 ⟨v337, rfl, ho0, hb⟩; refine ⟨_, rfl, ?_⟩; have HO338 := AM_ (Kd.S_lower (Kd.S_new' (Kd.S_new' ho0 (Kd.S_lt (ST HO330.out))) (Kd.S_lt (ST HO334.out))) (below_size (BT HB.out))); replace HO330 := AM_ (Kd.S_elder' (ST HO330.out) (Kd.S_base ho0) hb); replace HO334 := AM_ (Kd.S_elder' (ST HO334.out) (Kd.S_base ho0) hb); replace HB := AM_ (below_step (BT HB.out) hb); (try clear hb); (try clear hb2); (try clear hk); (try clear hi); (try clear ho0); obtain ⟨Ao31, co31, eo31⟩ := Kd.S_slice HO338.out; subst eo31) | ((with_reducible refine gate_callee (f := 15) rfl ?_); refine goesL_ (some 25) rfl rfl Tryd.func15 (by kernel_rfl) rfl #[.slice Ao28 t332.length co28, .slice Ao31 t336.length co31] rfl (by (try simp only [List.map_toArray, List.map_cons, List.map_nil]); first | done | rfl | (simp only [List.length_drop, List.length_take]; rfl)) ?_; (with_reducible refine (laws_eqEntryS.calls k _ _ t332 _ _ t336 false _ ?side1 ?side2 ?side3 ?side4 A11.out).mono ?_); (case side1 => exact Kd.C_below (Kd.S_reads' HO334.out).2.2 (BL (Below.refl _ _) rfl rfl rfl rfl)); (case side2 => exact (Kd.S_reads' HO334.out).2.1); (case side3 => exact Kd.C_below (Kd.S_reads' HO338.out).2.2 (BL (Below.refl _ _) rfl rfl rfl rfl)); (case side4 => exact (Kd.S_reads' HO338.out).2.1); rintro e w32 ⟨rfl, hb⟩; refine ⟨_, rfl, ?_⟩; replace HO330 := AM_ (Kd.S_below (ST HO330.out) hb); replace HO334 := AM_ (Kd.S_below (ST HO334.out) hb); replace HO338 := AM_ (Kd.S_below (ST HO338.out) hb); replace HB := AM_ (below_step (BT HB.out) hb); (try clear hb); (try clear hb2); (try clear hk); (try clear hi)))
 go_ret
 exact QT (BT HB.out)

end Go.Proofs.YtgpmfkmdchcagaaDoor.PFnExactFormatHistory
