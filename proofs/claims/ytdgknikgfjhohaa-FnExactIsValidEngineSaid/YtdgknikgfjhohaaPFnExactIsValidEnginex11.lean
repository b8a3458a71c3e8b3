-- Printed by wip/myprint.py.
import Derived.Test.YtdgknikgfjhohaaPFnExactIsValidEnginex10
namespace Go.Proofs.Ytdgknikgfjhohaa.PFnExactIsValidEngine
open Go.RowKit Go.Proofs.YtdgknikgfjhohaaW.PrintWords Go.Proofs.YtdgknikgfjhohaaW.PrintLast Go.Proofs.YtdgknikgfjhohaaW.PrintMore
set_option maxHeartbeats 8000000
set_option maxRecDepth 100000
set_option linter.unusedVariables false
set_option linter.unusedSimpArgs false

/-! ### impl_IsValidChain: function 76 -/
def impl_IsValidChain.l0 : Nat → List (S52) → List (S52) → Int → Int → Option (Bool)
 | 0, _, _, _, _ => none
 | k + 1, x0, x5, x6, x7 => if x7 < x6 then (if 0 ≤ x7 then (if x7 < (x5.length : Int) then ((impl_IsValidVersion.f k ((rd_T52 x5 x7).f0) ((rd_T52 x5 x7).f1) ((rd_T52 x5 x7).f2) ((rd_T52 x5 x7).f3) ((rd_T52 x5 x7).f4)).bind fun t329 => (if t329 = true then (if x7 > 0 then (if 0 ≤ (wrap64 (x7 - 1)) then (if (wrap64 (x7 - 1)) < (x0.length : Int) then (if ((rd_T52 x0 (wrap64 (x7 - 1))).f2) ≥ ((rd_T52 x5 x7).f2) then (some false) else (if ((rd_T52 x0 (wrap64 (x7 - 1))).f4) > ((rd_T52 x5 x7).f2) then (some false) else (impl_IsValidChain.l0 k x0 x5 x6 (wrap64 (x7 + 1))))) else (none)) else (none)) else (impl_IsValidChain.l0 k x0 x5 x6 (wrap64 (x7 + 1)))) else (some false))) else (none)) else (none)) else (if (x0.length : Int) > 0 then (if 0 ≤ (wrap64 ((x0.length : Int) - 1)) then (if (wrap64 ((x0.length : Int) - 1)) < (x0.length : Int) then (some (((rd_T52 x0 (wrap64 ((x0.length : Int) - 1))).f4) == 1000)) else (none)) else (none)) else (some false))
def impl_IsValidChain.f (k : Nat) (l0 : List (S52)) : Option (Bool) := impl_IsValidChain.l0 k l0 l0 (l0.length : Int) 0
theorem impl_IsValidChain.mono_l : ∀ k, (∀ y0 y1 y2 y3, LeO (impl_IsValidChain.l0 k y0 y1 y2 y3) (impl_IsValidChain.l0 (k + 1) y0 y1 y2 y3))
 | 0 => fun _ _ _ _ r h => by simp [impl_IsValidChain.l0] at h
 | k + 1 => by
  have ih0 := impl_IsValidChain.mono_l k
  all_goals intros; unfold impl_IsValidChain.l0
  all_goals repeat' (with_reducible first | exact ih0 .. | exact impl_IsValidVersion.mono .. | exact LeO.refl _ | exact LeO.none _ | refine LeO.ite ?_ ?_ | refine LeO.bind ?_ (fun _ => ?_))
theorem impl_IsValidChain.mono : ∀ a0 k, LeO (impl_IsValidChain.f k a0) (impl_IsValidChain.f (k + 1) a0) := by
 intro a0 k
 have ih0 := impl_IsValidChain.mono_l k
 unfold impl_IsValidChain.f
 repeat' (with_reducible first | exact ih0 .. | exact impl_IsValidVersion.mono .. | exact LeO.refl _ | exact LeO.none _ | refine LeO.ite ?_ ?_ | refine LeO.bind ?_ (fun _ => ?_))
def impl_IsValidChain.T4 : Bool × List (List Nat × List Nat) := (true, [([], []), ([0], [0]), ([1], [1]), ([2, 1], [2]), ([3], [3]), ([4, 3], [3, 4]), ([5, 3, 3], [3, 5]), ([6], [6]), ([6], [6]), ([8, 6], [6, 8]), ([7, 9, 6], [6, 7, 9]), ([10, 6], [6, 10]), ([11, 6], [6, 11]), ([6], [6]), ([13, 6], [6, 13]), ([12, 14, 6], [6, 12, 14]), ([15, 6, 6], [6, 15]), ([16], [16]), ([16], [16]), ([18, 16], [16, 18]), ([17, 19, 16], [16, 17, 19]), ([20, 16], [16, 20]), ([21, 16], [16, 21]), ([16], [16]), ([23, 16], [16, 23]), ([22, 24, 16], [16, 22, 24]), ([16, 25, 6], [6, 16, 25]), ([6, 26, 3], [3, 6, 26]), ([3, 27], [3, 27])])
def impl_IsValidChain.B4 : List Nat := [0, 1, 3, 7, 15, 31, 63, 127, 127, 383, 1023, 2047, 4095, 127, 8319, 32767, 65535, 131071, 131071, 393215, 1048575, 2097151, 4194303, 131071, 8519679, 33554431, 67108863, 134217727, 268435455]
theorem impl_IsValidChain.tab4 : rtab .any (opsOf Try.f76 4) = impl_IsValidChain.T4 := by kernel_rfl
theorem impl_IsValidChain.bits4 : waitsOk impl_IsValidChain.T4.2 impl_IsValidChain.B4 = true := by kernel_rfl
theorem impl_IsValidChain.calls (k : Nat) (A0 : Option Addr) (c0 : Nat) (l0 : List (S52)) (r : Bool) (w : World) (hr0 : Kd.C k52 w A0 l0.length l0) (hc0 : l0.length ≤ c0) (h : impl_IsValidChain.f k l0 = some r) :
  Calls Try.prog 76 #[.slice A0 l0.length c0] w fun e w' => e = .returned (.bool r) ∧ Below w.heap.size w w' := by
 have hu52 := Try.underlying52
 have HR0 := AM_ hr0
 have HC0 := AM_ hc0
 clear hr0 hc0
 have HB := AM_ (Below.refl w.heap.size w)
 unfold impl_IsValidChain.f at h
 have H := h
 clear h
 have H' := AM_ H
 clear H
 go_enter Try.func76, Try.ntmps76
 go_wp2
 go_loopg [7] k (fun kq v7 w' => ∃ (x7_1 : Int), v7 = .int .i64 x7_1 ∧ Aside0 (impl_IsValidChain.l0 kq l0 l0 (l0.length : Int) x7_1 = some r) ∧ Aside0 (kq ≤ k) ∧ Aside0 (Below w.heap.size w w'))
 case atStart => exact ⟨(0), (by first | rfl | (simp; done) | (simp [*]; done)), H', ⟨Nat.le_refl _⟩, ⟨BT HB.out⟩⟩
 case round =>
  clear H'
  obtain ⟨x7_1, rfl, HA, HK1, HB⟩ := hrel
  cases gk with
  | zero => exact absurd HA.out (by simp [impl_IsValidChain.l0])
  | succ k1 =>
   have H := HA.out
   clear HA
   simp only [impl_IsValidChain.l0] at H
   by_cases c2 : x7_1 < (l0.length : Int)
   rotate_left
   ·rw [if_neg c2] at H
    have c2b0 := decide_eq_false c2
    clear c2
    by_cases c38 : (l0.length : Int) > 0
    rotate_left
    ·rw [if_neg c38] at H
     have c38b0 : decide (0 < (l0.length : Int)) = false := decide_eq_false c38
     have c38b1 : decide (0 < l0.length) = false := decide_eq_false (by omega)
     clear c38
     obtain rfl := Option.some.inj H
     go_wp2
     go_ret
     exact QT (BT HB.out)
    rw [if_pos c38] at H
    have c38b0 : decide (0 < (l0.length : Int)) = true := decide_eq_true c38
    have c38b1 : decide (0 < l0.length) = true := decide_eq_true (by omega)
    clear c38
    obtain ⟨ji39, hji39⟩ : ∃ j_ : Int, (wrap64 ((l0.length : Int) - 1)) = j_ := ⟨_, rfl⟩
    replace H : (if 0 ≤ (ji39) then (if (ji39) < (l0.length : Int) then (some (((rd_T52 l0 (ji39)).f4) == 1000)) else (none)) else (none)) = some r := by first | (rw [hji39] at H; exact H) | (simp only [hji39] at H ⊢; exact H)
    have hji39w : (IntKind.i64.wrap ((l0.length : Int) - 1)) = ji39 := (i64_w _).trans hji39
    replace H := HI H
    obtain ⟨c40, H⟩ := H
    have c40b0 := decide_eq_true c40
    clear c40
    replace H := HI H
    obtain ⟨c41, H⟩ := H
    have c41b0 := decide_eq_true c41
    clear c41
    obtain rfl := Option.some.inj H
    have p332 : 0 ≤ ((ji39) : Int) := DT
    have q332 : (ji39) < (l0.length : Int) := DT
    obtain ⟨ad332, e332, hx332_0, hx332_1, hx332_2, hx332_3, hx332_4⟩ := at_T52 HR0.out (ji39) p332 q332
    cases e332
    replace hx332_0 := BC HB.out hx332_0
    replace hx332_1 := BC HB.out hx332_1
    replace hx332_2 := BC HB.out hx332_2
    replace hx332_3 := BC HB.out hx332_3
    replace hx332_4 := BC HB.out hx332_4
    replace p332 := eq_true p332
    replace q332 := eq_true q332
    go_wp2
    go_ret
    exact ⟨by first | rfl | (simp [errW_none, errW_some] <;> rfl) | (simp only [← hji39]; first | rfl | (simp [errW_none, errW_some] <;> rfl)) | (simp [*, errW_none, errW_some] <;> rfl), BT HB.out⟩
   rw [if_pos c2] at H
   have c2b0 := decide_eq_true c2
   clear c2
   replace H := HI H
   obtain ⟨c3, H⟩ := H
   have c3b0 := decide_eq_true c3
   clear c3
   replace H := HI H
   obtain ⟨c4, H⟩ := H
   have c4b0 := decide_eq_true c4
   clear c4
   obtain ⟨t329, A5, H⟩ := OB H
   by_cases c6 : t329 = true
   rotate_left
   ·replace c6 := Bool.eq_false_iff.mpr c6
    subst c6
    replace H := HF H
    obtain rfl := Option.some.inj H
    have p327 : 0 ≤ (x7_1 : Int) := DT
    have q327 : x7_1 < (l0.length : Int) := DT
    obtain ⟨ad327, e327, hx327_0, hx327_1, hx327_2, hx327_3, hx327_4⟩ := at_T52 HR0.out x7_1 p327 q327
    cases e327
    replace hx327_0 := BC HB.out hx327_0
    replace hx327_1 := BC HB.out hx327_1
    replace hx327_2 := BC HB.out hx327_2
    replace hx327_3 := BC HB.out hx327_3
    replace hx327_4 := BC HB.out hx327_4
    replace p327 := eq_true p327
    replace q327 := eq_true q327
    try go_wp2_with (first | ((with_reducible refine G2 4 rfl ?_); (try (refine gate_guard (by rfl) ?_; dsimp only)); refine BY 4 #[.int .i64 0, .int .i64 0, .int .i64 0, .int .i64 0, .int .i64 0] 52 HB ?_; clear HB; intro gb328 w33 BK328 GW328 HB; obtain ⟨hcz34_0, hcz34_1, hcz34_2, hcz34_3, hcz34_4, hfz34_0, hfz34_1, hfz34_2, hfz34_3, hfz34_4⟩ := bk5 BK328.out))
    generalize hW_ : ((((w33.setCell ⟨gb328, 0, none⟩ (.int .i64 ((rd_T52 l0 x7_1).f0))).setCell ⟨gb328, 1, none⟩ (.int .i64 ((rd_T52 l0 x7_1).f1))).setCell ⟨gb328, 2, none⟩ (.int .i64 ((rd_T52 l0 x7_1).f2))).setCell ⟨gb328, 3, none⟩ (.int .i64 ((rd_T52 l0 x7_1).f3))).setCell ⟨gb328, 4, none⟩ (.int .i64 ((rd_T52 l0 x7_1).f4)) = w35
    have n0_ : Aside0 (w35.heap[gb328]? = some (.cells #[.int .i64 ((rd_T52 l0 x7_1).f0), .int .i64 ((rd_T52 l0 x7_1).f1), .int .i64 ((rd_T52 l0 x7_1).f2), .int .i64 ((rd_T52 l0 x7_1).f3), .int .i64 ((rd_T52 l0 x7_1).f4)] 52 (0, 0))) := by subst hW_; exact ⟨BQ BK328.out⟩
    have n1_ : Aside0 (Below w.heap.size w w35) := by subst hW_; exact ⟨BT HB.out⟩
    (try clear BK328)
    (try clear HB)
    clear hW_
    have BK328 := n0_
    have HB := n1_
    clear n0_ n1_
    replace BK328 := BD1 BK328
    replace HB := BD2 HB
    refine start_ (n := 29) (S := fun w' => w'.cell? ⟨gb328, 0, none⟩ = some (.int .i64 ((rd_T52 l0 x7_1).f0)) ∧ w'.cell? ⟨gb328, 1, none⟩ = some (.int .i64 ((rd_T52 l0 x7_1).f1)) ∧ w'.cell? ⟨gb328, 2, none⟩ = some (.int .i64 ((rd_T52 l0 x7_1).f2)) ∧ w'.cell? ⟨gb328, 3, none⟩ = some (.int .i64 ((rd_T52 l0 x7_1).f3)) ∧ w'.cell? ⟨gb328, 4, none⟩ = some (.int .i64 ((rd_T52 l0 x7_1).f4))) (ds := []) (lo 0 29) (by kernel_rfl) rfl rfl ⟨bc BK328.out 0, bc BK328.out 1, bc BK328.out 2, bc BK328.out 3, bc BK328.out 4⟩ (fun hHeld => ?_); refine with_tabW impl_IsValidChain.tab4 impl_IsValidChain.bits4 (fun HT_ HW_ => ?_)
    generalize w35.drew = w36 at BK328 HB hHeld ⊢
    refine TS HT_ HW_ hHeld ?_
    refine OS HT_ (fun K hK => ?_)
    refine GO Try.func108 #[.agg #[.int .i64 ((rd_T52 l0 x7_1).f0), .int .i64 ((rd_T52 l0 x7_1).f1), .int .i64 ((rd_T52 l0 x7_1).f2), .int .i64 ((rd_T52 l0 x7_1).f3), .int .i64 ((rd_T52 l0 x7_1).f4)]] ?_
    with_reducible refine MB (impl_IsValidVersion.calls k1 ((rd_T52 l0 x7_1).f0) ((rd_T52 l0 x7_1).f1) ((rd_T52 l0 x7_1).f2) ((rd_T52 l0 x7_1).f3) ((rd_T52 l0 x7_1).f4) false _ A5.out) ?_
    intro w37 hb
    replace BK328 := BV BK328 hb
    replace HB := BW HB hb
    (try clear hb)
    refine hK.out _ _ ⟨bc BK328.out 0, bc BK328.out 1, bc BK328.out 2, bc BK328.out 3, bc BK328.out 4⟩ (fun hHeld => ?_)
    clear hK K
    refine NM 13 ?_
    iterate 27 first | refine PS HT_ ?_ | refine PT HT_ ?_
    refine done_ (done_of HT_.out (by kernel_rfl)) ?_
    try go_wp2
    go_ret
    exact QT (BT HB.out)
   subst c6
   replace H := HT H
   by_cases c7 : x7_1 > 0
   rotate_left
   ·rw [if_neg c7] at H
    have c7b0 : decide (0 < x7_1) = false := decide_eq_false c7
    clear c7
    have H' := AM_ H
    clear H
    have p327 : 0 ≤ (x7_1 : Int) := DT
    have q327 : x7_1 < (l0.length : Int) := DT
    obtain ⟨ad327, e327, hx327_0, hx327_1, hx327_2, hx327_3, hx327_4⟩ := at_T52 HR0.out x7_1 p327 q327
    cases e327
    replace hx327_0 := BC HB.out hx327_0
    replace hx327_1 := BC HB.out hx327_1
    replace hx327_2 := BC HB.out hx327_2
    replace hx327_3 := BC HB.out hx327_3
    replace hx327_4 := BC HB.out hx327_4
    replace p327 := eq_true p327
    replace q327 := eq_true q327
    try go_wp2_with (first | ((with_reducible refine G2 4 rfl ?_); (try (refine gate_guard (by rfl) ?_; dsimp only)); refine BY 4 #[.int .i64 0, .int .i64 0, .int .i64 0, .int .i64 0, .int .i64 0] 52 HB ?_; clear HB; intro gb328 w28 BK328 GW328 HB; obtain ⟨hcz29_0, hcz29_1, hcz29_2, hcz29_3, hcz29_4, hfz29_0, hfz29_1, hfz29_2, hfz29_3, hfz29_4⟩ := bk5 BK328.out))
    generalize hW_ : ((((w28.setCell ⟨gb328, 0, none⟩ (.int .i64 ((rd_T52 l0 x7_1).f0))).setCell ⟨gb328, 1, none⟩ (.int .i64 ((rd_T52 l0 x7_1).f1))).setCell ⟨gb328, 2, none⟩ (.int .i64 ((rd_T52 l0 x7_1).f2))).setCell ⟨gb328, 3, none⟩ (.int .i64 ((rd_T52 l0 x7_1).f3))).setCell ⟨gb328, 4, none⟩ (.int .i64 ((rd_T52 l0 x7_1).f4)) = w30
    have n0_ : Aside0 (w30.heap[gb328]? = some (.cells #[.int .i64 ((rd_T52 l0 x7_1).f0), .int .i64 ((rd_T52 l0 x7_1).f1), .int .i64 ((rd_T52 l0 x7_1).f2), .int .i64 ((rd_T52 l0 x7_1).f3), .int .i64 ((rd_T52 l0 x7_1).f4)] 52 (0, 0))) := by subst hW_; exact ⟨BQ BK328.out⟩
    have n1_ : Aside0 (Below w.heap.size w w30) := by subst hW_; exact ⟨BT HB.out⟩
    (try clear BK328)
    (try clear HB)
    clear hW_
    have BK328 := n0_
    have HB := n1_
    clear n0_ n1_
    replace BK328 := BD1 BK328
    replace HB := BD2 HB
    refine start_ (n := 29) (S := fun w' => w'.cell? ⟨gb328, 0, none⟩ = some (.int .i64 ((rd_T52 l0 x7_1).f0)) ∧ w'.cell? ⟨gb328, 1, none⟩ = some (.int .i64 ((rd_T52 l0 x7_1).f1)) ∧ w'.cell? ⟨gb328, 2, none⟩ = some (.int .i64 ((rd_T52 l0 x7_1).f2)) ∧ w'.cell? ⟨gb328, 3, none⟩ = some (.int .i64 ((rd_T52 l0 x7_1).f3)) ∧ w'.cell? ⟨gb328, 4, none⟩ = some (.int .i64 ((rd_T52 l0 x7_1).f4))) (ds := []) (lo 0 29) (by kernel_rfl) rfl rfl ⟨bc BK328.out 0, bc BK328.out 1, bc BK328.out 2, bc BK328.out 3, bc BK328.out 4⟩ (fun hHeld => ?_); refine with_tabW impl_IsValidChain.tab4 impl_IsValidChain.bits4 (fun HT_ HW_ => ?_)
    generalize w30.drew = w31 at BK328 HB hHeld ⊢
    refine TS HT_ HW_ hHeld ?_
    refine OS HT_ (fun K hK => ?_)
    refine GO Try.func108 #[.agg #[.int .i64 ((rd_T52 l0 x7_1).f0), .int .i64 ((rd_T52 l0 x7_1).f1), .int .i64 ((rd_T52 l0 x7_1).f2), .int .i64 ((rd_T52 l0 x7_1).f3), .int .i64 ((rd_T52 l0 x7_1).f4)]] ?_
    with_reducible refine MB (impl_IsValidVersion.calls k1 ((rd_T52 l0 x7_1).f0) ((rd_T52 l0 x7_1).f1) ((rd_T52 l0 x7_1).f2) ((rd_T52 l0 x7_1).f3) ((rd_T52 l0 x7_1).f4) true _ A5.out) ?_
    intro w32 hb
    replace BK328 := BV BK328 hb
    replace HB := BW HB hb
    (try clear hb)
    refine hK.out _ _ ⟨bc BK328.out 0, bc BK328.out 1, bc BK328.out 2, bc BK328.out 3, bc BK328.out 4⟩ (fun hHeld => ?_)
    clear hK K
    refine NM 13 ?_
    iterate 27 first | refine PS HT_ ?_ | refine PT HT_ ?_
    refine done_ (done_of HT_.out (by kernel_rfl)) ?_
    try go_wp2
    go_roundg k1
    case measure => have := HK1.out; omega
    case rel => exact ⟨(wrap64 (x7_1 + 1)), (by first | rfl | (simp; done) | (simp [*]; done)), H', ⟨by have := HK1.out; omega⟩, ⟨BT HB.out⟩⟩
   rw [if_pos c7] at H
   have c7b0 : decide (0 < x7_1) = true := decide_eq_true c7
   clear c7
   obtain ⟨ji8, hji8⟩ : ∃ j_ : Int, (wrap64 (x7_1 - 1)) = j_ := ⟨_, rfl⟩
   replace H : (if 0 ≤ (ji8) then (if (ji8) < (l0.length : Int) then (if ((rd_T52 l0 (ji8)).f2) ≥ ((rd_T52 l0 x7_1).f2) then (some false) else (if ((rd_T52 l0 (ji8)).f4) > ((rd_T52 l0 x7_1).f2) then (some false) else (impl_IsValidChain.l0 k1 l0 l0 (l0.length : Int) (wrap64 (x7_1 + 1))))) else (none)) else (none)) = some r := by first | (rw [hji8] at H; exact H) | (simp only [hji8] at H ⊢; exact H)
   (try rw [hji8] at A5)
   have hji8w : (IntKind.i64.wrap (x7_1 - 1)) = ji8 := (i64_w _).trans hji8
   replace H := HI H
   obtain ⟨c9, H⟩ := H
   have c9b0 := decide_eq_true c9
   clear c9
   replace H := HI H
   obtain ⟨c10, H⟩ := H
   have c10b0 := decide_eq_true c10
   clear c10
   by_cases c11 : ((rd_T52 l0 (ji8)).f2) ≥ ((rd_T52 l0 x7_1).f2)
   ·rw [if_pos c11] at H
    have c11b0 : decide (((rd_T52 l0 x7_1).f2) ≤ ((rd_T52 l0 (ji8)).f2)) = true := decide_eq_true c11
    clear c11
    obtain rfl := Option.some.inj H
    have p327 : 0 ≤ (x7_1 : Int) := DT
    have q327 : x7_1 < (l0.length : Int) := DT
    obtain ⟨ad327, e327, hx327_0, hx327_1, hx327_2, hx327_3, hx327_4⟩ := at_T52 HR0.out x7_1 p327 q327
    cases e327
    replace hx327_0 := BC HB.out hx327_0
    replace hx327_1 := BC HB.out hx327_1
    replace hx327_2 := BC HB.out hx327_2
    replace hx327_3 := BC HB.out hx327_3
    replace hx327_4 := BC HB.out hx327_4
    replace p327 := eq_true p327
    replace q327 := eq_true q327
    try go_wp2_with (first | ((with_reducible refine G2 4 rfl ?_); (try (refine gate_guard (by rfl) ?_; dsimp only)); refine BY 4 #[.int .i64 0, .int .i64 0, .int .i64 0, .int .i64 0, .int .i64 0] 52 HB ?_; clear HB; intro gb328 w12 BK328 GW328 HB; obtain ⟨hcz13_0, hcz13_1, hcz13_2, hcz13_3, hcz13_4, hfz13_0, hfz13_1, hfz13_2, hfz13_3, hfz13_4⟩ := bk5 BK328.out))
    generalize hW_ : ((((w12.setCell ⟨gb328, 0, none⟩ (.int .i64 ((rd_T52 l0 x7_1).f0))).setCell ⟨gb328, 1, none⟩ (.int .i64 ((rd_T52 l0 x7_1).f1))).setCell ⟨gb328, 2, none⟩ (.int .i64 ((rd_T52 l0 x7_1).f2))).setCell ⟨gb328, 3, none⟩ (.int .i64 ((rd_T52 l0 x7_1).f3))).setCell ⟨gb328, 4, none⟩ (.int .i64 ((rd_T52 l0 x7_1).f4)) = w14
    have n0_ : Aside0 (w14.heap[gb328]? = some (.cells #[.int .i64 ((rd_T52 l0 x7_1).f0), .int .i64 ((rd_T52 l0 x7_1).f1), .int .i64 ((rd_T52 l0 x7_1).f2), .int .i64 ((rd_T52 l0 x7_1).f3), .int .i64 ((rd_T52 l0 x7_1).f4)] 52 (0, 0))) := by subst hW_; exact ⟨BQ BK328.out⟩
    have n1_ : Aside0 (Below w.heap.size w w14) := by subst hW_; exact ⟨BT HB.out⟩
    (try clear BK328)
    (try clear HB)
    clear hW_
    have BK328 := n0_
    have HB := n1_
    clear n0_ n1_
    replace BK328 := BD1 BK328
    replace HB := BD2 HB
    have p330 : 0 ≤ ((ji8) : Int) := DT
    have q330 : (ji8) < (l0.length : Int) := DT
    obtain ⟨ad330, e330, hx330_0, hx330_1, hx330_2, hx330_3, hx330_4⟩ := at_T52 HR0.out (ji8) p330 q330
    have hw330_4 := hx330_4
    have hw330_3 := hx330_3
    have hw330_2 := hx330_2
    have hw330_1 := hx330_1
    have hw330_0 := hx330_0
    obtain rfl : ad327 = ad330 := (by injection e330)
    replace hx330_0 := BC HB.out hx330_0
    replace hx330_1 := BC HB.out hx330_1
    replace hx330_2 := BC HB.out hx330_2
    replace hx330_3 := BC HB.out hx330_3
    replace hx330_4 := BC HB.out hx330_4
    replace p330 := eq_true p330
    replace q330 := eq_true q330
    refine start_ (n := 29) (S := fun w' => w'.cell? ⟨gb328, 0, none⟩ = some (.int .i64 ((rd_T52 l0 x7_1).f0)) ∧ w'.cell? ⟨gb328, 1, none⟩ = some (.int .i64 ((rd_T52 l0 x7_1).f1)) ∧ w'.cell? ⟨gb328, 2, none⟩ = some (.int .i64 ((rd_T52 l0 x7_1).f2)) ∧ w'.cell? ⟨gb328, 3, none⟩ = some (.int .i64 ((rd_T52 l0 x7_1).f3)) ∧ w'.cell? ⟨gb328, 4, none⟩ = some (.int .i64 ((rd_T52 l0 x7_1).f4)) ∧ w'.cell? (ad327.add (((ji8)).toNat * 5)) = some (.int .i64 ((rd_T52 l0 (ji8)).f0)) ∧ w'.cell? ⟨(ad327.add (((ji8)).toNat * 5)).block, (ad327.add (((ji8)).toNat * 5)).off + 1, none⟩ = some (.int .i64 ((rd_T52 l0 (ji8)).f1)) ∧ w'.cell? ⟨(ad327.add (((ji8)).toNat * 5)).block, (ad327.add (((ji8)).toNat * 5)).off + 2, none⟩ = some (.int .i64 ((rd_T52 l0 (ji8)).f2)) ∧ w'.cell? ⟨(ad327.add (((ji8)).toNat * 5)).block, (ad327.add (((ji8)).toNat * 5)).off + 3, none⟩ = some (.int .i64 ((rd_T52 l0 (ji8)).f3)) ∧ w'.cell? ⟨(ad327.add (((ji8)).toNat * 5)).block, (ad327.add (((ji8)).toNat * 5)).off + 4, none⟩ = some (.int .i64 ((rd_T52 l0 (ji8)).f4))) (ds := []) (lo 0 29) (by kernel_rfl) rfl rfl ⟨bc BK328.out 0, bc BK328.out 1, bc BK328.out 2, bc BK328.out 3, bc BK328.out 4, (BD HB.out hw330_0), (BD HB.out hw330_1), (BD HB.out hw330_2), (BD HB.out hw330_3), (BD HB.out hw330_4)⟩ (fun hHeld => ?_); refine with_tabW impl_IsValidChain.tab4 impl_IsValidChain.bits4 (fun HT_ HW_ => ?_)
    generalize w14.drew = w15 at BK328 HB hx330_0 hx330_1 hx330_2 hx330_3 hx330_4 hHeld ⊢
    refine TS HT_ HW_ hHeld ?_
    refine OS HT_ (fun K hK => ?_)
    refine GO Try.func108 #[.agg #[.int .i64 ((rd_T52 l0 x7_1).f0), .int .i64 ((rd_T52 l0 x7_1).f1), .int .i64 ((rd_T52 l0 x7_1).f2), .int .i64 ((rd_T52 l0 x7_1).f3), .int .i64 ((rd_T52 l0 x7_1).f4)]] ?_
    with_reducible refine MB (impl_IsValidVersion.calls k1 ((rd_T52 l0 x7_1).f0) ((rd_T52 l0 x7_1).f1) ((rd_T52 l0 x7_1).f2) ((rd_T52 l0 x7_1).f3) ((rd_T52 l0 x7_1).f4) true _ A5.out) ?_
    intro w16 hb
    replace BK328 := BV BK328 hb
    replace HB := BW HB hb
    (try clear hb)
    refine hK.out _ _ ⟨bc BK328.out 0, bc BK328.out 1, bc BK328.out 2, bc BK328.out 3, bc BK328.out 4, (BD HB.out hw330_0), (BD HB.out hw330_1), (BD HB.out hw330_2), (BD HB.out hw330_3), (BD HB.out hw330_4)⟩ (fun hHeld => ?_)
    clear hK K
    refine NM 13 ?_
    iterate 10 refine PS HT_ ?_
    refine PV 13 (some 25) (bs 12287 29) HT_ ?_
    refine TX 12 (some 24) (lo 14 29) HT_ HW_ hHeld ?_
    iterate 15 first | refine PS HT_ ?_ | refine PT HT_ ?_ | refine TS HT_ HW_ hHeld ?_
    refine done_ (done_of HT_.out (by kernel_rfl)) ?_
    try go_wp2
    go_ret
    exact ⟨by first | rfl | (simp [errW_none, errW_some] <;> rfl) | (simp only [← hji8]; first | rfl | (simp [errW_none, errW_some] <;> rfl)) | (simp [*, errW_none, errW_some] <;> rfl), BT HB.out⟩
   rw [if_neg c11] at H
   have c11b0 : decide (((rd_T52 l0 x7_1).f2) ≤ ((rd_T52 l0 (ji8)).f2)) = false := decide_eq_false c11
   clear c11
   by_cases c17 : ((rd_T52 l0 (ji8)).f4) > ((rd_T52 l0 x7_1).f2)
   rotate_left
   ·rw [if_neg c17] at H
    have c17b0 : decide (((rd_T52 l0 x7_1).f2) < ((rd_T52 l0 (ji8)).f4)) = false := decide_eq_false c17
    clear c17
    have H' := AM_ H
    clear H
    have p327 : 0 ≤ (x7_1 : Int) := DT
    have q327 : x7_1 < (l0.length : Int) := DT
    obtain ⟨ad327, e327, hx327_0, hx327_1, hx327_2, hx327_3, hx327_4⟩ := at_T52 HR0.out x7_1 p327 q327
    cases e327
    replace hx327_0 := BC HB.out hx327_0
    replace hx327_1 := BC HB.out hx327_1
    replace hx327_2 := BC HB.out hx327_2
    replace hx327_3 := BC HB.out hx327_3
    replace hx327_4 := BC HB.out hx327_4
    replace p327 := eq_true p327
    replace q327 := eq_true q327
    try go_wp2_with (first | ((with_reducible refine G2 4 rfl ?_); (try (refine gate_guard (by rfl) ?_; dsimp only)); refine BY 4 #[.int .i64 0, .int .i64 0, .int .i64 0, .int .i64 0, .int .i64 0] 52 HB ?_; clear HB; intro gb328 w23 BK328 GW328 HB; obtain ⟨hcz24_0, hcz24_1, hcz24_2, hcz24_3, hcz24_4, hfz24_0, hfz24_1, hfz24_2, hfz24_3, hfz24_4⟩ := bk5 BK328.out))
    generalize hW_ : ((((w23.setCell ⟨gb328, 0, none⟩ (.int .i64 ((rd_T52 l0 x7_1).f0))).setCell ⟨gb328, 1, none⟩ (.int .i64 ((rd_T52 l0 x7_1).f1))).setCell ⟨gb328, 2, none⟩ (.int .i64 ((rd_T52 l0 x7_1).f2))).setCell ⟨gb328, 3, none⟩ (.int .i64 ((rd_T52 l0 x7_1).f3))).setCell ⟨gb328, 4, none⟩ (.int .i64 ((rd_T52 l0 x7_1).f4)) = w25
    have n0_ : Aside0 (w25.heap[gb328]? = some (.cells #[.int .i64 ((rd_T52 l0 x7_1).f0), .int .i64 ((rd_T52 l0 x7_1).f1), .int .i64 ((rd_T52 l0 x7_1).f2), .int .i64 ((rd_T52 l0 x7_1).f3), .int .i64 ((rd_T52 l0 x7_1).f4)] 52 (0, 0))) := by subst hW_; exact ⟨BQ BK328.out⟩
    have n1_ : Aside0 (Below w.heap.size w w25) := by subst hW_; exact ⟨BT HB.out⟩
    (try clear BK328)
    (try clear HB)
    clear hW_
    have BK328 := n0_
    have HB := n1_
    clear n0_ n1_
    replace BK328 := BD1 BK328
    replace HB := BD2 HB
    have p330 : 0 ≤ ((ji8) : Int) := DT
    have q330 : (ji8) < (l0.length : Int) := DT
    obtain ⟨ad330, e330, hx330_0, hx330_1, hx330_2, hx330_3, hx330_4⟩ := at_T52 HR0.out (ji8) p330 q330
    have hw330_4 := hx330_4
    have hw330_3 := hx330_3
    have hw330_2 := hx330_2
    have hw330_1 := hx330_1
    have hw330_0 := hx330_0
    obtain rfl : ad327 = ad330 := (by injection e330)
    replace hx330_0 := BC HB.out hx330_0
    replace hx330_1 := BC HB.out hx330_1
    replace hx330_2 := BC HB.out hx330_2
    replace hx330_3 := BC HB.out hx330_3
    replace hx330_4 := BC HB.out hx330_4
    replace p330 := eq_true p330
    replace q330 := eq_true q330
    have p331 : 0 ≤ ((ji8) : Int) := DT
    have q331 : (ji8) < (l0.length : Int) := DT
    obtain ⟨ad331, e331, hx331_0, hx331_1, hx331_2, hx331_3, hx331_4⟩ := at_T52 HR0.out (ji8) p331 q331
    have hw331_4 := hx331_4
    have hw331_3 := hx331_3
    have hw331_2 := hx331_2
    have hw331_1 := hx331_1
    have hw331_0 := hx331_0
    obtain rfl : ad327 = ad331 := (by injection e331)
    replace hx331_0 := BC HB.out hx331_0
    replace hx331_1 := BC HB.out hx331_1
    replace hx331_2 := BC HB.out hx331_2
    replace hx331_3 := BC HB.out hx331_3
    replace hx331_4 := BC HB.out hx331_4
    replace p331 := eq_true p331
    replace q331 := eq_true q331
    refine start_ (n := 29) (S := fun w' => w'.cell? ⟨gb328, 0, none⟩ = some (.int .i64 ((rd_T52 l0 x7_1).f0)) ∧ w'.cell? ⟨gb328, 1, none⟩ = some (.int .i64 ((rd_T52 l0 x7_1).f1)) ∧ w'.cell? ⟨gb328, 2, none⟩ = some (.int .i64 ((rd_T52 l0 x7_1).f2)) ∧ w'.cell? ⟨gb328, 3, none⟩ = some (.int .i64 ((rd_T52 l0 x7_1).f3)) ∧ w'.cell? ⟨gb328, 4, none⟩ = some (.int .i64 ((rd_T52 l0 x7_1).f4)) ∧ w'.cell? (ad327.add (((ji8)).toNat * 5)) = some (.int .i64 ((rd_T52 l0 (ji8)).f0)) ∧ w'.cell? ⟨(ad327.add (((ji8)).toNat * 5)).block, (ad327.add (((ji8)).toNat * 5)).off + 1, none⟩ = some (.int .i64 ((rd_T52 l0 (ji8)).f1)) ∧ w'.cell? ⟨(ad327.add (((ji8)).toNat * 5)).block, (ad327.add (((ji8)).toNat * 5)).off + 2, none⟩ = some (.int .i64 ((rd_T52 l0 (ji8)).f2)) ∧ w'.cell? ⟨(ad327.add (((ji8)).toNat * 5)).block, (ad327.add (((ji8)).toNat * 5)).off + 3, none⟩ = some (.int .i64 ((rd_T52 l0 (ji8)).f3)) ∧ w'.cell? ⟨(ad327.add (((ji8)).toNat * 5)).block, (ad327.add (((ji8)).toNat * 5)).off + 4, none⟩ = some (.int .i64 ((rd_T52 l0 (ji8)).f4)) ∧ w'.cell? (ad327.add (((ji8)).toNat * 5)) = some (.int .i64 ((rd_T52 l0 (ji8)).f0)) ∧ w'.cell? ⟨(ad327.add (((ji8)).toNat * 5)).block, (ad327.add (((ji8)).toNat * 5)).off + 1, none⟩ = some (.int .i64 ((rd_T52 l0 (ji8)).f1)) ∧ w'.cell? ⟨(ad327.add (((ji8)).toNat * 5)).block, (ad327.add (((ji8)).toNat * 5)).off + 2, none⟩ = some (.int .i64 ((rd_T52 l0 (ji8)).f2)) ∧ w'.cell? ⟨(ad327.add (((ji8)).toNat * 5)).block, (ad327.add (((ji8)).toNat * 5)).off + 3, none⟩ = some (.int .i64 ((rd_T52 l0 (ji8)).f3)) ∧ w'.cell? ⟨(ad327.add (((ji8)).toNat * 5)).block, (ad327.add (((ji8)).toNat * 5)).off + 4, none⟩ = some (.int .i64 ((rd_T52 l0 (ji8)).f4))) (ds := []) (lo 0 29) (by kernel_rfl) rfl rfl ⟨bc BK328.out 0, bc BK328.out 1, bc BK328.out 2, bc BK328.out 3, bc BK328.out 4, (BD HB.out hw330_0), (BD HB.out hw330_1), (BD HB.out hw330_2), (BD HB.out hw330_3), (BD HB.out hw330_4), (BD HB.out hw331_0), (BD HB.out hw331_1), (BD HB.out hw331_2), (BD HB.out hw331_3), (BD HB.out hw331_4)⟩ (fun hHeld => ?_); refine with_tabW impl_IsValidChain.tab4 impl_IsValidChain.bits4 (fun HT_ HW_ => ?_)
    generalize w25.drew = w26 at BK328 HB hx330_0 hx330_1 hx330_2 hx330_3 hx330_4 hx331_0 hx331_1 hx331_2 hx331_3 hx331_4 hHeld ⊢
    refine TS HT_ HW_ hHeld ?_
    refine OS HT_ (fun K hK => ?_)
    refine GO Try.func108 #[.agg #[.int .i64 ((rd_T52 l0 x7_1).f0), .int .i64 ((rd_T52 l0 x7_1).f1), .int .i64 ((rd_T52 l0 x7_1).f2), .int .i64 ((rd_T52 l0 x7_1).f3), .int .i64 ((rd_T52 l0 x7_1).f4)]] ?_
    with_reducible refine MB (impl_IsValidVersion.calls k1 ((rd_T52 l0 x7_1).f0) ((rd_T52 l0 x7_1).f1) ((rd_T52 l0 x7_1).f2) ((rd_T52 l0 x7_1).f3) ((rd_T52 l0 x7_1).f4) true _ A5.out) ?_
    intro w27 hb
    replace BK328 := BV BK328 hb
    replace HB := BW HB hb
    (try clear hb)
    refine hK.out _ _ ⟨bc BK328.out 0, bc BK328.out 1, bc BK328.out 2, bc BK328.out 3, bc BK328.out 4, (BD HB.out hw330_0), (BD HB.out hw330_1), (BD HB.out hw330_2), (BD HB.out hw330_3), (BD HB.out hw330_4), (BD HB.out hw331_0), (BD HB.out hw331_1), (BD HB.out hw331_2), (BD HB.out hw331_3), (BD HB.out hw331_4)⟩ (fun hHeld => ?_)
    clear hK K
    refine NM 13 ?_
    iterate 10 refine PS HT_ ?_
    refine PV 13 (some 25) (bs 12287 29) HT_ ?_
    refine TX 12 (some 24) (lo 14 29) HT_ HW_ hHeld ?_
    iterate 8 first | refine PS HT_ ?_ | refine TS HT_ HW_ hHeld ?_
    refine PV 23 (some 35) (bs 12582911 29) HT_ ?_
    refine TX 22 (some 34) (lo 24 29) HT_ HW_ hHeld ?_
    iterate 5 first | refine PS HT_ ?_ | refine TS HT_ HW_ hHeld ?_
    refine done_ (done_of HT_.out (by kernel_rfl)) ?_
    try go_wp2
    go_roundg k1
    case measure => have := HK1.out; omega
    case rel => exact ⟨(wrap64 (x7_1 + 1)), (by first | rfl | (simp; done) | (simp [*]; done)), H', ⟨by have := HK1.out; omega⟩, ⟨BT HB.out⟩⟩
   rw [if_pos c17] at H
   have c17b0 : decide (((rd_T52 l0 x7_1).f2) < ((rd_T52 l0 (ji8)).f4)) = true := decide_eq_true c17
   clear c17
   obtain rfl := Option.some.inj H
   have p327 : 0 ≤ (x7_1 : Int) := DT
   have q327 : x7_1 < (l0.length : Int) := DT
   obtain ⟨ad327, e327, hx327_0, hx327_1, hx327_2, hx327_3, hx327_4⟩ := at_T52 HR0.out x7_1 p327 q327
   cases e327
   replace hx327_0 := BC HB.out hx327_0
   replace hx327_1 := BC HB.out hx327_1
   replace hx327_2 := BC HB.out hx327_2
   replace hx327_3 := BC HB.out hx327_3
   replace hx327_4 := BC HB.out hx327_4
   replace p327 := eq_true p327
   replace q327 := eq_true q327
   try go_wp2_with (first | ((with_reducible refine G2 4 rfl ?_); (try (refine gate_guard (by rfl) ?_; dsimp only)); refine BY 4 #[.int .i64 0, .int .i64 0, .int .i64 0, .int .i64 0, .int .i64 0] 52 HB ?_; clear HB; intro gb328 w18 BK328 GW328 HB; obtain ⟨hcz19_0, hcz19_1, hcz19_2, hcz19_3, hcz19_4, hfz19_0, hfz19_1, hfz19_2, hfz19_3, hfz19_4⟩ := bk5 BK328.out))
   generalize hW_ : ((((w18.setCell ⟨gb328, 0, none⟩ (.int .i64 ((rd_T52 l0 x7_1).f0))).setCell ⟨gb328, 1, none⟩ (.int .i64 ((rd_T52 l0 x7_1).f1))).setCell ⟨gb328, 2, none⟩ (.int .i64 ((rd_T52 l0 x7_1).f2))).setCell ⟨gb328, 3, none⟩ (.int .i64 ((rd_T52 l0 x7_1).f3))).setCell ⟨gb328, 4, none⟩ (.int .i64 ((rd_T52 l0 x7_1).f4)) = w20
   have n0_ : Aside0 (w20.heap[gb328]? = some (.cells #[.int .i64 ((rd_T52 l0 x7_1).f0), .int .i64 ((rd_T52 l0 x7_1).f1), .int .i64 ((rd_T52 l0 x7_1).f2), .int .i64 ((rd_T52 l0 x7_1).f3), .int .i64 ((rd_T52 l0 x7_1).f4)] 52 (0, 0))) := by subst hW_; exact ⟨BQ BK328.out⟩
   have n1_ : Aside0 (Below w.heap.size w w20) := by subst hW_; exact ⟨BT HB.out⟩
   (try clear BK328)
   (try clear HB)
   clear hW_
   have BK328 := n0_
   have HB := n1_
   clear n0_ n1_
   replace BK328 := BD1 BK328
   replace HB := BD2 HB
   have p330 : 0 ≤ ((ji8) : Int) := DT
   have q330 : (ji8) < (l0.length : Int) := DT
   obtain ⟨ad330, e330, hx330_0, hx330_1, hx330_2, hx330_3, hx330_4⟩ := at_T52 HR0.out (ji8) p330 q330
   have hw330_4 := hx330_4
   have hw330_3 := hx330_3
   have hw330_2 := hx330_2
   have hw330_1 := hx330_1
   have hw330_0 := hx330_0
   obtain rfl : ad327 = ad330 := (by injection e330)
   replace hx330_0 := BC HB.out hx330_0
   replace hx330_1 := BC HB.out hx330_1
   replace hx330_2 := BC HB.out hx330_2
   replace hx330_3 := BC HB.out hx330_3
   replace hx330_4 := BC HB.out hx330_4
   replace p330 := eq_true p330
   replace q330 := eq_true q330
   have p331 : 0 ≤ ((ji8) : Int) := DT
   have q331 : (ji8) < (l0.length : Int) := DT
   obtain ⟨ad331, e331, hx331_0, hx331_1, hx331_2, hx331_3, hx331_4⟩ := at_T52 HR0.out (ji8) p331 q331
   have hw331_4 := hx331_4
   have hw331_3 := hx331_3
   have hw331_2 := hx331_2
   have hw331_1 := hx331_1
   have hw331_0 := hx331_0
   obtain rfl : ad327 = ad331 := (by injection e331)
   replace hx331_0 := BC HB.out hx331_0
   replace hx331_1 := BC HB.out hx331_1
   replace hx331_2 := BC HB.out hx331_2
   replace hx331_3 := BC HB.out hx331_3
   replace hx331_4 := BC HB.out hx331_4
   replace p331 := eq_true p331
   replace q331 := eq_true q331
   refine start_ (n := 29) (S := fun w' => w'.cell? ⟨gb328, 0, none⟩ = some (.int .i64 ((rd_T52 l0 x7_1).f0)) ∧ w'.cell? ⟨gb328, 1, none⟩ = some (.int .i64 ((rd_T52 l0 x7_1).f1)) ∧ w'.cell? ⟨gb328, 2, none⟩ = some (.int .i64 ((rd_T52 l0 x7_1).f2)) ∧ w'.cell? ⟨gb328, 3, none⟩ = some (.int .i64 ((rd_T52 l0 x7_1).f3)) ∧ w'.cell? ⟨gb328, 4, none⟩ = some (.int .i64 ((rd_T52 l0 x7_1).f4)) ∧ w'.cell? (ad327.add (((ji8)).toNat * 5)) = some (.int .i64 ((rd_T52 l0 (ji8)).f0)) ∧ w'.cell? ⟨(ad327.add (((ji8)).toNat * 5)).block, (ad327.add (((ji8)).toNat * 5)).off + 1, none⟩ = some (.int .i64 ((rd_T52 l0 (ji8)).f1)) ∧ w'.cell? ⟨(ad327.add (((ji8)).toNat * 5)).block, (ad327.add (((ji8)).toNat * 5)).off + 2, none⟩ = some (.int .i64 ((rd_T52 l0 (ji8)).f2)) ∧ w'.cell? ⟨(ad327.add (((ji8)).toNat * 5)).block, (ad327.add (((ji8)).toNat * 5)).off + 3, none⟩ = some (.int .i64 ((rd_T52 l0 (ji8)).f3)) ∧ w'.cell? ⟨(ad327.add (((ji8)).toNat * 5)).block, (ad327.add (((ji8)).toNat * 5)).off + 4, none⟩ = some (.int .i64 ((rd_T52 l0 (ji8)).f4)) ∧ w'.cell? (ad327.add (((ji8)).toNat * 5)) = some (.int .i64 ((rd_T52 l0 (ji8)).f0)) ∧ w'.cell? ⟨(ad327.add (((ji8)).toNat * 5)).block, (ad327.add (((ji8)).toNat * 5)).off + 1, none⟩ = some (.int .i64 ((rd_T52 l0 (ji8)).f1)) ∧ w'.cell? ⟨(ad327.add (((ji8)).toNat * 5)).block, (ad327.add (((ji8)).toNat * 5)).off + 2, none⟩ = some (.int .i64 ((rd_T52 l0 (ji8)).f2)) ∧ w'.cell? ⟨(ad327.add (((ji8)).toNat * 5)).block, (ad327.add (((ji8)).toNat * 5)).off + 3, none⟩ = some (.int .i64 ((rd_T52 l0 (ji8)).f3)) ∧ w'.cell? ⟨(ad327.add (((ji8)).toNat * 5)).block, (ad327.add (((ji8)).toNat * 5)).off + 4, none⟩ = some (.int .i64 ((rd_T52 l0 (ji8)).f4))) (ds := []) (lo 0 29) (by kernel_rfl) rfl rfl ⟨bc BK328.out 0, bc BK328.out 1, bc BK328.out 2, bc BK328.out 3, bc BK328.out 4, (BD HB.out hw330_0), (BD HB.out hw330_1), (BD HB.out hw330_2), (BD HB.out hw330_3), (BD HB.out hw330_4), (BD HB.out hw331_0), (BD HB.out hw331_1), (BD HB.out hw331_2), (BD HB.out hw331_3), (BD HB.out hw331_4)⟩ (fun hHeld => ?_); refine with_tabW impl_IsValidChain.tab4 impl_IsValidChain.bits4 (fun HT_ HW_ => ?_)
   generalize w20.drew = w21 at BK328 HB hx330_0 hx330_1 hx330_2 hx330_3 hx330_4 hx331_0 hx331_1 hx331_2 hx331_3 hx331_4 hHeld ⊢
   refine TS HT_ HW_ hHeld ?_
   refine OS HT_ (fun K hK => ?_)
   refine GO Try.func108 #[.agg #[.int .i64 ((rd_T52 l0 x7_1).f0), .int .i64 ((rd_T52 l0 x7_1).f1), .int .i64 ((rd_T52 l0 x7_1).f2), .int .i64 ((rd_T52 l0 x7_1).f3), .int .i64 ((rd_T52 l0 x7_1).f4)]] ?_
   with_reducible refine MB (impl_IsValidVersion.calls k1 ((rd_T52 l0 x7_1).f0) ((rd_T52 l0 x7_1).f1) ((rd_T52 l0 x7_1).f2) ((rd_T52 l0 x7_1).f3) ((rd_T52 l0 x7_1).f4) true _ A5.out) ?_
   intro w22 hb
   replace BK328 := BV BK328 hb
   replace HB := BW HB hb
   (try clear hb)
   refine hK.out _ _ ⟨bc BK328.out 0, bc BK328.out 1, bc BK328.out 2, bc BK328.out 3, bc BK328.out 4, (BD HB.out hw330_0), (BD HB.out hw330_1), (BD HB.out hw330_2), (BD HB.out hw330_3), (BD HB.out hw330_4), (BD HB.out hw331_0), (BD HB.out hw331_1), (BD HB.out hw331_2), (BD HB.out hw331_3), (BD HB.out hw331_4)⟩ (fun hHeld => ?_)
   clear hK K
   refine NM 13 ?_
   iterate 10 refine PS HT_ ?_
   refine PV 13 (some 25) (bs 12287 29) HT_ ?_
   refine TX 12 (some 24) (lo 14 29) HT_ HW_ hHeld ?_
   iterate 8 first | refine PS HT_ ?_ | refine TS HT_ HW_ hHeld ?_
   refine PV 23 (some 35) (bs 12582911 29) HT_ ?_
   refine TX 22 (some 34) (lo 24 29) HT_ HW_ hHeld ?_
   iterate 5 first | refine PS HT_ ?_ | refine TS HT_ HW_ hHeld ?_
   refine done_ (done_of HT_.out (by kernel_rfl)) ?_
   try go_wp2
   go_ret
   exact ⟨by first | rfl | (simp [errW_none, errW_some] <;> rfl) | (simp only [← hji8]; first | rfl | (simp [errW_none, errW_some] <;> rfl)) | (simp [*, errW_none, errW_some] <;> rfl), BT HB.out⟩

end Go.Proofs.Ytdgknikgfjhohaa.PFnExactIsValidEngine
