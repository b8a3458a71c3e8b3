-- Printed by wip/myprint.py.
import Derived.Test.YtdgknikgfjhohaaPFnExactIsValidEnginex12
namespace Go.Proofs.Ytdgknikgfjhohaa.PFnExactIsValidEngine
open Go.RowKit Go.Proofs.YtdgknikgfjhohaaW.PrintWords Go.Proofs.YtdgknikgfjhohaaW.PrintLast Go.Proofs.YtdgknikgfjhohaaW.PrintMore
set_option maxHeartbeats 8000000
set_option maxRecDepth 100000
set_option linter.unusedVariables false
set_option linter.unusedSimpArgs false

/-! ### impl_areWrites: function 112 -/
mutual
def impl_areWrites.l0 : Nat → List (S103) → List (S103) → Int → Int → Option (Bool)
 | 0, _, _, _, _ => none
 | k + 1, x0, x5, x6, x7 => if x7 < x6 then (if 0 ≤ x7 then (if x7 < (x5.length : Int) then ((impl_isKey.f ((rd_T103 x5 x7).f0)).bind fun t375 => (if t375 = true then ((impl_isValue.f ((rd_T103 x5 x7).f1)).bind fun t376 => (if t376 = true then (if x7 > 0 then (if 0 ≤ (wrap64 (x7 - 1)) then (if (wrap64 (x7 - 1)) < (x0.length : Int) then (impl_areWrites.j1 k x0 x7 x5 x6 (decide (((rd_T103 x0 (wrap64 (x7 - 1))).f0) ≥ ((rd_T103 x5 x7).f0)))) else (none)) else (none)) else (impl_areWrites.j1 k x0 x7 x5 x6 false)) else (impl_areWrites.j1 k x0 x7 x5 x6 true))) else (impl_areWrites.j1 k x0 x7 x5 x6 true))) else (none)) else (none)) else (some true)
def impl_areWrites.j1 : Nat → List (S103) → Int → List (S103) → Int → Bool → Option (Bool)
 | 0, _, _, _, _, _ => none
 | k + 1, x0, x3, x5, x6, x36 => if x36 = true then (some false) else (impl_areWrites.l0 k x0 x5 x6 (wrap64 (x3 + 1)))
end
def impl_areWrites.f (k : Nat) (l0 : List (S103)) : Option (Bool) := impl_areWrites.l0 k l0 l0 (l0.length : Int) 0
theorem impl_areWrites.mono_l : ∀ k, (∀ y0 y1 y2 y3, LeO (impl_areWrites.l0 k y0 y1 y2 y3) (impl_areWrites.l0 (k + 1) y0 y1 y2 y3)) ∧ (∀ y0 y1 y2 y3 y4, LeO (impl_areWrites.j1 k y0 y1 y2 y3 y4) (impl_areWrites.j1 (k + 1) y0 y1 y2 y3 y4))
 | 0 => ⟨fun _ _ _ _ r h => by simp [impl_areWrites.l0] at h, fun _ _ _ _ _ r h => by simp [impl_areWrites.j1] at h⟩
 | k + 1 => by
  obtain ⟨ih0, ih1⟩ := impl_areWrites.mono_l k
  refine ⟨?_, ?_⟩
  all_goals intros; first | unfold impl_areWrites.l0 | unfold impl_areWrites.j1
  all_goals repeat' (with_reducible first | exact ih0 .. | exact ih1 .. | exact LeO.refl _ | exact LeO.none _ | refine LeO.ite ?_ ?_ | refine LeO.bind ?_ (fun _ => ?_))
theorem impl_areWrites.mono : ∀ a0 k, LeO (impl_areWrites.f k a0) (impl_areWrites.f (k + 1) a0) := by
 intro a0 k
 obtain ⟨ih0, ih1⟩ := impl_areWrites.mono_l k
 unfold impl_areWrites.f
 repeat' (with_reducible first | exact ih0 .. | exact ih1 .. | exact LeO.refl _ | exact LeO.none _ | refine LeO.ite ?_ ?_ | refine LeO.bind ?_ (fun _ => ?_))
theorem impl_areWrites.calls (k : Nat) (A0 : Option Addr) (c0 : Nat) (l0 : List (S103)) (r : Bool) (w : World) (hr0 : Kd.C k103 w A0 l0.length l0) (hc0 : l0.length ≤ c0) (h : impl_areWrites.f k l0 = some r) :
  Calls Try.prog 112 #[.slice A0 l0.length c0] w fun e w' => e = .returned (.bool r) ∧ Below w.heap.size w w' := by
 have hu103 := Try.underlying103
 have HR0 := AM_ hr0
 have HC0 := AM_ hc0
 clear hr0 hc0
 have HB := AM_ (Below.refl w.heap.size w)
 unfold impl_areWrites.f at h
 have H := h
 clear h
 have H' := AM_ H
 clear H
 go_enter Try.func112, Try.ntmps112
 go_wp2
 repeat (go_quiet (fail); try go_wp2)
 go_loopg [7] k (fun kq v7 w' => ∃ (x7_1 : Int), v7 = .int .i64 x7_1 ∧ Aside0 (impl_areWrites.l0 kq l0 l0 (l0.length : Int) x7_1 = some r) ∧ Aside0 (kq ≤ k) ∧ Aside0 (Below w.heap.size w w'))
 case atStart => exact ⟨(0), (by first | rfl | (simp; done) | (simp [*]; done)), H', ⟨Nat.le_refl _⟩, ⟨BT HB.out⟩⟩
 case round =>
  clear H'
  obtain ⟨x7_1, rfl, HA, HK1, HB⟩ := hrel
  cases gk with
  | zero => exact absurd HA.out (by simp [impl_areWrites.l0])
  | succ k1 =>
   have H := HA.out
   clear HA
   simp only [impl_areWrites.l0] at H
   by_cases c2 : x7_1 < (l0.length : Int)
   rotate_left
   ·rw [if_neg c2] at H
    have c2b0 := decide_eq_false c2
    clear c2
    obtain rfl := Option.some.inj H
    go_wp2
    repeat (go_quiet (fail); try go_wp2)
    go_ret
    exact QT (BT HB.out)
   rw [if_pos c2] at H
   have c2b0 := decide_eq_true c2
   clear c2
   replace H := HI H
   obtain ⟨c3, H⟩ := H
   have c3b0 := decide_eq_true c3
   clear c3
   replace H := HI H
   obtain ⟨c4, H⟩ := H
   have c4b0 := decide_eq_true c4
   clear c4
   have HC5 := AM_ H
   clear H
   have p373 : 0 ≤ (x7_1 : Int) := DT
   have q373 : x7_1 < (l0.length : Int) := DT
   obtain ⟨ad373, e373, hx373_0, hx373_1⟩ := at_T103 HR0.out x7_1 p373 q373
   cases e373
   replace hx373_0 := BC HB.out hx373_0
   replace hx373_1 := BC HB.out hx373_1
   replace p373 := eq_true p373
   replace q373 := eq_true q373
   go_upto_region 4 with (first | ((with_reducible refine G2 4 rfl ?_); refine BY 4 #[.int .i64 0, .int .i64 0] 103 HB ?_; clear HB; intro gb374 w6 BK374 GW374 HB; obtain ⟨hcz7_0, hcz7_1, hfz7_0, hfz7_1⟩ := bk2 BK374.out))
   repeat (go_quiet (first | ((with_reducible refine G2 4 rfl ?_); refine BY 4 #[.int .i64 0, .int .i64 0] 103 HB ?_; clear HB; intro gb374 w6 BK374 GW374 HB; obtain ⟨hcz7_0, hcz7_1, hfz7_0, hfz7_1⟩ := bk2 BK374.out)); go_upto_region 4 with (first | ((with_reducible refine G2 4 rfl ?_); refine BY 4 #[.int .i64 0, .int .i64 0] 103 HB ?_; clear HB; intro gb374 w6 BK374 GW374 HB; obtain ⟨hcz7_0, hcz7_1, hfz7_0, hfz7_1⟩ := bk2 BK374.out)))
   (try simp only [pA, pS, pZ, pK])
   go_cut [36] (fun v36 wc => ∃ (kq : Nat) (x36_4 : Bool), v36 = .bool x36_4 ∧ Aside0 (impl_areWrites.j1 kq l0 x7_1 l0 (l0.length : Int) x36_4 = some r) ∧ Aside0 (kq ≤ k1) ∧ Aside0 (wc.heap[gb374]? = some (.cells #[.int .i64 ((rd_T103 l0 x7_1).f0), .int .i64 ((rd_T103 l0 x7_1).f1)] 103 (0, 0))) ∧ Aside0 (Below w.heap.size w wc))
   case first =>
    have H := HC5.out
    clear HC5
    obtain ⟨t375, A8, H⟩ := OB H
    by_cases c9 : t375 = true
    rotate_left
    ·replace c9 := Bool.eq_false_iff.mpr c9
     subst c9
     replace H := HF H
     have H' := AM_ H
     clear H
     obtain ⟨hcz19_0, hcz19_1, hfz19_0, hfz19_1⟩ := bk2 BK374.out
     go_wp2_with (first | (go_at_call 56; (with_reducible refine (impl_isKey.calls ((rd_T103 l0 x7_1).f0) false _ A8.out).mono ?_); rintro e w' ⟨rfl, ⟨nd, rfl⟩⟩; (try first | exact ⟨rfl, _, World.drewN_drewN _ _ _⟩ | exact ⟨rfl, _, Eq.trans (World.drewN_drewN _ _ _) (congrArg (World.drewN _) (Nat.add_assoc _ _ _))⟩)))
     repeat (go_quiet (first | (go_at_call 56; (with_reducible refine (impl_isKey.calls ((rd_T103 l0 x7_1).f0) false _ A8.out).mono ?_); rintro e w' ⟨rfl, ⟨nd, rfl⟩⟩; (try first | exact ⟨rfl, _, World.drewN_drewN _ _ _⟩ | exact ⟨rfl, _, Eq.trans (World.drewN_drewN _ _ _) (congrArg (World.drewN _) (Nat.add_assoc _ _ _))⟩))); try go_wp2_with (first | (go_at_call 56; (with_reducible refine (impl_isKey.calls ((rd_T103 l0 x7_1).f0) false _ A8.out).mono ?_); rintro e w' ⟨rfl, ⟨nd, rfl⟩⟩; (try first | exact ⟨rfl, _, World.drewN_drewN _ _ _⟩ | exact ⟨rfl, _, Eq.trans (World.drewN_drewN _ _ _) (congrArg (World.drewN _) (Nat.add_assoc _ _ _))⟩))))
     go_meet
     case rel => exact ⟨_, (true), (by first | rfl | (simp; done) | (simp [*]; done)), H', ⟨by have := HK1.out; first | omega | exact Nat.le_refl _⟩, ⟨BQ BK374.out⟩, ⟨BT HB.out⟩⟩
    subst c9
    replace H := HT H
    obtain ⟨t376, A10, H⟩ := OB H
    by_cases c11 : t376 = true
    rotate_left
    ·replace c11 := Bool.eq_false_iff.mpr c11
     subst c11
     replace H := HF H
     have H' := AM_ H
     clear H
     obtain ⟨hcz18_0, hcz18_1, hfz18_0, hfz18_1⟩ := bk2 BK374.out
     go_wp2_with (first | (go_at_call 56; (with_reducible refine (impl_isKey.calls ((rd_T103 l0 x7_1).f0) true _ A8.out).mono ?_); rintro e w' ⟨rfl, ⟨nd, rfl⟩⟩; (try first | exact ⟨rfl, _, World.drewN_drewN _ _ _⟩ | exact ⟨rfl, _, Eq.trans (World.drewN_drewN _ _ _) (congrArg (World.drewN _) (Nat.add_assoc _ _ _))⟩)) | (go_at_call 130; (with_reducible refine (impl_isValue.calls ((rd_T103 l0 x7_1).f1) false _ A10.out).mono ?_); rintro e w' ⟨rfl, ⟨nd, rfl⟩⟩; (try first | exact ⟨rfl, _, World.drewN_drewN _ _ _⟩ | exact ⟨rfl, _, Eq.trans (World.drewN_drewN _ _ _) (congrArg (World.drewN _) (Nat.add_assoc _ _ _))⟩)))
     repeat (go_quiet (first | (go_at_call 56; (with_reducible refine (impl_isKey.calls ((rd_T103 l0 x7_1).f0) true _ A8.out).mono ?_); rintro e w' ⟨rfl, ⟨nd, rfl⟩⟩; (try first | exact ⟨rfl, _, World.drewN_drewN _ _ _⟩ | exact ⟨rfl, _, Eq.trans (World.drewN_drewN _ _ _) (congrArg (World.drewN _) (Nat.add_assoc _ _ _))⟩)) | (go_at_call 130; (with_reducible refine (impl_isValue.calls ((rd_T103 l0 x7_1).f1) false _ A10.out).mono ?_); rintro e w' ⟨rfl, ⟨nd, rfl⟩⟩; (try first | exact ⟨rfl, _, World.drewN_drewN _ _ _⟩ | exact ⟨rfl, _, Eq.trans (World.drewN_drewN _ _ _) (congrArg (World.drewN _) (Nat.add_assoc _ _ _))⟩))); try go_wp2_with (first | (go_at_call 56; (with_reducible refine (impl_isKey.calls ((rd_T103 l0 x7_1).f0) true _ A8.out).mono ?_); rintro e w' ⟨rfl, ⟨nd, rfl⟩⟩; (try first | exact ⟨rfl, _, World.drewN_drewN _ _ _⟩ | exact ⟨rfl, _, Eq.trans (World.drewN_drewN _ _ _) (congrArg (World.drewN _) (Nat.add_assoc _ _ _))⟩)) | (go_at_call 130; (with_reducible refine (impl_isValue.calls ((rd_T103 l0 x7_1).f1) false _ A10.out).mono ?_); rintro e w' ⟨rfl, ⟨nd, rfl⟩⟩; (try first | exact ⟨rfl, _, World.drewN_drewN _ _ _⟩ | exact ⟨rfl, _, Eq.trans (World.drewN_drewN _ _ _) (congrArg (World.drewN _) (Nat.add_assoc _ _ _))⟩))))
     go_meet
     case rel => exact ⟨_, (true), (by first | rfl | (simp; done) | (simp [*]; done)), H', ⟨by have := HK1.out; first | omega | exact Nat.le_refl _⟩, ⟨BQ BK374.out⟩, ⟨BT HB.out⟩⟩
    subst c11
    replace H := HT H
    by_cases c12 : x7_1 > 0
    rotate_left
    ·rw [if_neg c12] at H
     have c12b0 : decide (0 < x7_1) = false := decide_eq_false c12
     clear c12
     (first | rw [c12b0] | (simp only [i64_w, i32_w]; rw [c12b0]) | skip)
     have H' := AM_ H
     clear H
     obtain ⟨hcz17_0, hcz17_1, hfz17_0, hfz17_1⟩ := bk2 BK374.out
     go_wp2_with (first | (go_at_call 56; (with_reducible refine (impl_isKey.calls ((rd_T103 l0 x7_1).f0) true _ A8.out).mono ?_); rintro e w' ⟨rfl, ⟨nd, rfl⟩⟩; (try first | exact ⟨rfl, _, World.drewN_drewN _ _ _⟩ | exact ⟨rfl, _, Eq.trans (World.drewN_drewN _ _ _) (congrArg (World.drewN _) (Nat.add_assoc _ _ _))⟩)) | (go_at_call 130; (with_reducible refine (impl_isValue.calls ((rd_T103 l0 x7_1).f1) true _ A10.out).mono ?_); rintro e w' ⟨rfl, ⟨nd, rfl⟩⟩; (try first | exact ⟨rfl, _, World.drewN_drewN _ _ _⟩ | exact ⟨rfl, _, Eq.trans (World.drewN_drewN _ _ _) (congrArg (World.drewN _) (Nat.add_assoc _ _ _))⟩)))
     repeat (go_quiet (first | (go_at_call 56; (with_reducible refine (impl_isKey.calls ((rd_T103 l0 x7_1).f0) true _ A8.out).mono ?_); rintro e w' ⟨rfl, ⟨nd, rfl⟩⟩; (try first | exact ⟨rfl, _, World.drewN_drewN _ _ _⟩ | exact ⟨rfl, _, Eq.trans (World.drewN_drewN _ _ _) (congrArg (World.drewN _) (Nat.add_assoc _ _ _))⟩)) | (go_at_call 130; (with_reducible refine (impl_isValue.calls ((rd_T103 l0 x7_1).f1) true _ A10.out).mono ?_); rintro e w' ⟨rfl, ⟨nd, rfl⟩⟩; (try first | exact ⟨rfl, _, World.drewN_drewN _ _ _⟩ | exact ⟨rfl, _, Eq.trans (World.drewN_drewN _ _ _) (congrArg (World.drewN _) (Nat.add_assoc _ _ _))⟩))); try go_wp2_with (first | (go_at_call 56; (with_reducible refine (impl_isKey.calls ((rd_T103 l0 x7_1).f0) true _ A8.out).mono ?_); rintro e w' ⟨rfl, ⟨nd, rfl⟩⟩; (try first | exact ⟨rfl, _, World.drewN_drewN _ _ _⟩ | exact ⟨rfl, _, Eq.trans (World.drewN_drewN _ _ _) (congrArg (World.drewN _) (Nat.add_assoc _ _ _))⟩)) | (go_at_call 130; (with_reducible refine (impl_isValue.calls ((rd_T103 l0 x7_1).f1) true _ A10.out).mono ?_); rintro e w' ⟨rfl, ⟨nd, rfl⟩⟩; (try first | exact ⟨rfl, _, World.drewN_drewN _ _ _⟩ | exact ⟨rfl, _, Eq.trans (World.drewN_drewN _ _ _) (congrArg (World.drewN _) (Nat.add_assoc _ _ _))⟩))))
     go_meet
     case rel => exact ⟨_, (false), (by first | rfl | (simp; done) | (simp [*]; done)), H', ⟨by have := HK1.out; first | omega | exact Nat.le_refl _⟩, ⟨BQ BK374.out⟩, ⟨BT HB.out⟩⟩
    rw [if_pos c12] at H
    have c12b0 : decide (0 < x7_1) = true := decide_eq_true c12
    clear c12
    (first | rw [c12b0] | (simp only [i64_w, i32_w]; rw [c12b0]) | skip)
    obtain ⟨ji13, hji13⟩ : ∃ j_ : Int, (wrap64 (x7_1 - 1)) = j_ := ⟨_, rfl⟩
    replace H : (if 0 ≤ (ji13) then (if (ji13) < (l0.length : Int) then (impl_areWrites.j1 k1 l0 x7_1 l0 (l0.length : Int) (decide (((rd_T103 l0 (ji13)).f0) ≥ ((rd_T103 l0 x7_1).f0)))) else (none)) else (none)) = some r := by first | (rw [hji13] at H; exact H) | (simp only [hji13] at H ⊢; exact H)
    (try rw [hji13] at A8)
    (try rw [hji13] at A10)
    have hji13w : (IntKind.i64.wrap (x7_1 - 1)) = ji13 := (i64_w _).trans hji13
    replace H := HI H
    obtain ⟨c14, H⟩ := H
    have c14b0 := decide_eq_true c14
    clear c14
    replace H := HI H
    obtain ⟨c15, H⟩ := H
    have c15b0 := decide_eq_true c15
    clear c15
    have H' := AM_ H
    clear H
    obtain ⟨hcz16_0, hcz16_1, hfz16_0, hfz16_1⟩ := bk2 BK374.out
    go_wp2_with (first | (go_at_call 56; (with_reducible refine (impl_isKey.calls ((rd_T103 l0 x7_1).f0) true _ A8.out).mono ?_); rintro e w' ⟨rfl, ⟨nd, rfl⟩⟩; (try first | exact ⟨rfl, _, World.drewN_drewN _ _ _⟩ | exact ⟨rfl, _, Eq.trans (World.drewN_drewN _ _ _) (congrArg (World.drewN _) (Nat.add_assoc _ _ _))⟩)) | (go_at_call 130; (with_reducible refine (impl_isValue.calls ((rd_T103 l0 x7_1).f1) true _ A10.out).mono ?_); rintro e w' ⟨rfl, ⟨nd, rfl⟩⟩; (try first | exact ⟨rfl, _, World.drewN_drewN _ _ _⟩ | exact ⟨rfl, _, Eq.trans (World.drewN_drewN _ _ _) (congrArg (World.drewN _) (Nat.add_assoc _ _ _))⟩); have p377 : 0 ≤ ((ji13) : Int) := DT; have q377 : (ji13) < (l0.length : Int) := DT; obtain ⟨ad377, e377, hx377_0, hx377_1⟩ := at_T103 HR0.out (ji13) p377 q377; obtain rfl : ad373 = ad377 := (by injection e377); have hn377_0 : ad373.block ≠ gb374 := Nat.ne_of_lt (Nat.lt_of_lt_of_le (by have := World.block_lt_of_cell? _ _ hx377_0; first | rwa [add_block] at this | exact this) GW374.out); have hn377_1 : ad373.block ≠ gb374 := Nat.ne_of_lt (Nat.lt_of_lt_of_le (by have := World.block_lt_of_cell? _ _ hx377_0; first | rwa [add_block] at this | exact this) GW374.out); replace hx377_0 := BD HB.out hx377_0; replace hx377_1 := BD HB.out hx377_1; replace hx377_0 := (cell_far (p := ⟨gb374, 0, none⟩) (by first | (rw [add_block]; exact hn377_0) | (show (Addr.add _ _).block ≠ _; rw [add_block]; exact hn377_0) | exact hn377_0) (.int .i64 ((rd_T103 l0 x7_1).f0))).trans hx377_0; replace hx377_1 := (cell_far (p := ⟨gb374, 0, none⟩) (by first | (rw [add_block]; exact hn377_0) | (show (Addr.add _ _).block ≠ _; rw [add_block]; exact hn377_0) | exact hn377_0) (.int .i64 ((rd_T103 l0 x7_1).f0))).trans hx377_1; replace hx377_0 := (cell_far (p := ⟨gb374, 1, none⟩) (by first | (rw [add_block]; exact hn377_1) | (show (Addr.add _ _).block ≠ _; rw [add_block]; exact hn377_1) | exact hn377_1) (.int .i64 ((rd_T103 l0 x7_1).f1))).trans hx377_0; replace hx377_1 := (cell_far (p := ⟨gb374, 1, none⟩) (by first | (rw [add_block]; exact hn377_1) | (show (Addr.add _ _).block ≠ _; rw [add_block]; exact hn377_1) | exact hn377_1) (.int .i64 ((rd_T103 l0 x7_1).f1))).trans hx377_1; (try have hy377_0 := fun (n_ : Nat) => (show ((((w6.drewN n_).setCell ⟨gb374, 0, none⟩ (.int .i64 ((rd_T103 l0 x7_1).f0))).setCell ⟨gb374, 1, none⟩ (.int .i64 ((rd_T103 l0 x7_1).f1)))).cell? _ = some _ from hx377_0)); (try have hy377_1 := fun (n_ : Nat) => (show ((((w6.drewN n_).setCell ⟨gb374, 0, none⟩ (.int .i64 ((rd_T103 l0 x7_1).f0))).setCell ⟨gb374, 1, none⟩ (.int .i64 ((rd_T103 l0 x7_1).f1)))).cell? _ = some _ from hx377_1)); clear hn377_0; clear hn377_1; replace p377 := eq_true p377; replace q377 := eq_true q377))
    repeat (go_quiet (first | (go_at_call 56; (with_reducible refine (impl_isKey.calls ((rd_T103 l0 x7_1).f0) true _ A8.out).mono ?_); rintro e w' ⟨rfl, ⟨nd, rfl⟩⟩; (try first | exact ⟨rfl, _, World.drewN_drewN _ _ _⟩ | exact ⟨rfl, _, Eq.trans (World.drewN_drewN _ _ _) (congrArg (World.drewN _) (Nat.add_assoc _ _ _))⟩)) | (go_at_call 130; (with_reducible refine (impl_isValue.calls ((rd_T103 l0 x7_1).f1) true _ A10.out).mono ?_); rintro e w' ⟨rfl, ⟨nd, rfl⟩⟩; (try first | exact ⟨rfl, _, World.drewN_drewN _ _ _⟩ | exact ⟨rfl, _, Eq.trans (World.drewN_drewN _ _ _) (congrArg (World.drewN _) (Nat.add_assoc _ _ _))⟩); have p377 : 0 ≤ ((ji13) : Int) := DT; have q377 : (ji13) < (l0.length : Int) := DT; obtain ⟨ad377, e377, hx377_0, hx377_1⟩ := at_T103 HR0.out (ji13) p377 q377; obtain rfl : ad373 = ad377 := (by injection e377); have hn377_0 : ad373.block ≠ gb374 := Nat.ne_of_lt (Nat.lt_of_lt_of_le (by have := World.block_lt_of_cell? _ _ hx377_0; first | rwa [add_block] at this | exact this) GW374.out); have hn377_1 : ad373.block ≠ gb374 := Nat.ne_of_lt (Nat.lt_of_lt_of_le (by have := World.block_lt_of_cell? _ _ hx377_0; first | rwa [add_block] at this | exact this) GW374.out); replace hx377_0 := BD HB.out hx377_0; replace hx377_1 := BD HB.out hx377_1; replace hx377_0 := (cell_far (p := ⟨gb374, 0, none⟩) (by first | (rw [add_block]; exact hn377_0) | (show (Addr.add _ _).block ≠ _; rw [add_block]; exact hn377_0) | exact hn377_0) (.int .i64 ((rd_T103 l0 x7_1).f0))).trans hx377_0; replace hx377_1 := (cell_far (p := ⟨gb374, 0, none⟩) (by first | (rw [add_block]; exact hn377_0) | (show (Addr.add _ _).block ≠ _; rw [add_block]; exact hn377_0) | exact hn377_0) (.int .i64 ((rd_T103 l0 x7_1).f0))).trans hx377_1; replace hx377_0 := (cell_far (p := ⟨gb374, 1, none⟩) (by first | (rw [add_block]; exact hn377_1) | (show (Addr.add _ _).block ≠ _; rw [add_block]; exact hn377_1) | exact hn377_1) (.int .i64 ((rd_T103 l0 x7_1).f1))).trans hx377_0; replace hx377_1 := (cell_far (p := ⟨gb374, 1, none⟩) (by first | (rw [add_block]; exact hn377_1) | (show (Addr.add _ _).block ≠ _; rw [add_block]; exact hn377_1) | exact hn377_1) (.int .i64 ((rd_T103 l0 x7_1).f1))).trans hx377_1; (try have hy377_0 := fun (n_ : Nat) => (show ((((w6.drewN n_).setCell ⟨gb374, 0, none⟩ (.int .i64 ((rd_T103 l0 x7_1).f0))).setCell ⟨gb374, 1, none⟩ (.int .i64 ((rd_T103 l0 x7_1).f1)))).cell? _ = some _ from hx377_0)); (try have hy377_1 := fun (n_ : Nat) => (show ((((w6.drewN n_).setCell ⟨gb374, 0, none⟩ (.int .i64 ((rd_T103 l0 x7_1).f0))).setCell ⟨gb374, 1, none⟩ (.int .i64 ((rd_T103 l0 x7_1).f1)))).cell? _ = some _ from hx377_1)); clear hn377_0; clear hn377_1; replace p377 := eq_true p377; replace q377 := eq_true q377)); try go_wp2_with (first | (go_at_call 56; (with_reducible refine (impl_isKey.calls ((rd_T103 l0 x7_1).f0) true _ A8.out).mono ?_); rintro e w' ⟨rfl, ⟨nd, rfl⟩⟩; (try first | exact ⟨rfl, _, World.drewN_drewN _ _ _⟩ | exact ⟨rfl, _, Eq.trans (World.drewN_drewN _ _ _) (congrArg (World.drewN _) (Nat.add_assoc _ _ _))⟩)) | (go_at_call 130; (with_reducible refine (impl_isValue.calls ((rd_T103 l0 x7_1).f1) true _ A10.out).mono ?_); rintro e w' ⟨rfl, ⟨nd, rfl⟩⟩; (try first | exact ⟨rfl, _, World.drewN_drewN _ _ _⟩ | exact ⟨rfl, _, Eq.trans (World.drewN_drewN _ _ _) (congrArg (World.drewN _) (Nat.add_assoc _ _ _))⟩); have p377 : 0 ≤ ((ji13) : Int) := DT; have q377 : (ji13) < (l0.length : Int) := DT; obtain ⟨ad377, e377, hx377_0, hx377_1⟩ := at_T103 HR0.out (ji13) p377 q377; obtain rfl : ad373 = ad377 := (by injection e377); have hn377_0 : ad373.block ≠ gb374 := Nat.ne_of_lt (Nat.lt_of_lt_of_le (by have := World.block_lt_of_cell? _ _ hx377_0; first | rwa [add_block] at this | exact this) GW374.out); have hn377_1 : ad373.block ≠ gb374 := Nat.ne_of_lt (Nat.lt_of_lt_of_le (by have := World.block_lt_of_cell? _ _ hx377_0; first | rwa [add_block] at this | exact this) GW374.out); replace hx377_0 := BD HB.out hx377_0; replace hx377_1 := BD HB.out hx377_1; replace hx377_0 := (cell_far (p := ⟨gb374, 0, none⟩) (by first | (rw [add_block]; exact hn377_0) | (show (Addr.add _ _).block ≠ _; rw [add_block]; exact hn377_0) | exact hn377_0) (.int .i64 ((rd_T103 l0 x7_1).f0))).trans hx377_0; replace hx377_1 := (cell_far (p := ⟨gb374, 0, none⟩) (by first | (rw [add_block]; exact hn377_0) | (show (Addr.add _ _).block ≠ _; rw [add_block]; exact hn377_0) | exact hn377_0) (.int .i64 ((rd_T103 l0 x7_1).f0))).trans hx377_1; replace hx377_0 := (cell_far (p := ⟨gb374, 1, none⟩) (by first | (rw [add_block]; exact hn377_1) | (show (Addr.add _ _).block ≠ _; rw [add_block]; exact hn377_1) | exact hn377_1) (.int .i64 ((rd_T103 l0 x7_1).f1))).trans hx377_0; replace hx377_1 := (cell_far (p := ⟨gb374, 1, none⟩) (by first | (rw [add_block]; exact hn377_1) | (show (Addr.add _ _).block ≠ _; rw [add_block]; exact hn377_1) | exact hn377_1) (.int .i64 ((rd_T103 l0 x7_1).f1))).trans hx377_1; (try have hy377_0 := fun (n_ : Nat) => (show ((((w6.drewN n_).setCell ⟨gb374, 0, none⟩ (.int .i64 ((rd_T103 l0 x7_1).f0))).setCell ⟨gb374, 1, none⟩ (.int .i64 ((rd_T103 l0 x7_1).f1)))).cell? _ = some _ from hx377_0)); (try have hy377_1 := fun (n_ : Nat) => (show ((((w6.drewN n_).setCell ⟨gb374, 0, none⟩ (.int .i64 ((rd_T103 l0 x7_1).f0))).setCell ⟨gb374, 1, none⟩ (.int .i64 ((rd_T103 l0 x7_1).f1)))).cell? _ = some _ from hx377_1)); clear hn377_0; clear hn377_1; replace p377 := eq_true p377; replace q377 := eq_true q377)))
    go_meet
    case rel => exact ⟨_, (decide (((rd_T103 l0 (ji13)).f0) ≥ ((rd_T103 l0 x7_1).f0))), (by first | rfl | (simp; done) | (simp only [← hji13] <;> (first | rfl | simp)) | (simp [*]; done)), H', ⟨by have := HK1.out; first | omega | exact Nat.le_refl _⟩, ⟨BQ BK374.out⟩, ⟨BT HB.out⟩⟩
   case rest =>
    clear HC5
    try clear c2
    try clear c2b0
    try clear c3
    try clear c3b0
    try clear c4
    try clear c4b0
    try clear c9
    try clear c11
    try clear c12
    try clear c12b0
    try clear c14
    try clear c14b0
    try clear c15
    try clear c15b0
    try clear hcz16_0
    try clear hcz16_1
    try clear hcz17_0
    try clear hcz17_1
    try clear hcz18_0
    try clear hcz18_1
    try clear hcz19_0
    try clear hcz19_1
    try clear hcz7_0
    try clear hcz7_1
    try clear hfz16_0
    try clear hfz16_1
    try clear hfz17_0
    try clear hfz17_1
    try clear hfz18_0
    try clear hfz18_1
    try clear hfz19_0
    try clear hfz19_1
    try clear hfz7_0
    try clear hfz7_1
    try clear hx373_0
    try clear hx373_1
    try clear hx377_0
    try clear hx377_1
    try clear p373
    try clear p377
    try clear q373
    try clear q377
    obtain ⟨kq, x36_4, rfl, HA, HJ4, BK374, HB⟩ := hcut
    cases kq with
    | zero => exact absurd HA.out (by simp [impl_areWrites.j1])
    | succ kj4 =>
     have H := HA.out
     clear HA
     simp only [impl_areWrites.j1] at H
     by_cases c20 : x36_4 = true
     ·subst c20
      replace H := HT H
      obtain rfl := Option.some.inj H
      go_wp2
      repeat (go_quiet (fail); try go_wp2)
      go_ret
      exact QT (BT HB.out)
     replace c20 := Bool.eq_false_iff.mpr c20
     subst c20
     replace H := HF H
     have H' := AM_ H
     clear H
     go_wp2
     repeat (go_quiet (fail); try go_wp2)
     go_roundg kj4
     case measure => have := HK1.out; have := HJ4.out; omega
     case rel => exact ⟨(wrap64 (x7_1 + 1)), (by first | rfl | (simp; done) | (simp [*]; done)), H', ⟨by have := HK1.out; have := HJ4.out; omega⟩, ⟨BT HB.out⟩⟩

end Go.Proofs.Ytdgknikgfjhohaa.PFnExactIsValidEngine
