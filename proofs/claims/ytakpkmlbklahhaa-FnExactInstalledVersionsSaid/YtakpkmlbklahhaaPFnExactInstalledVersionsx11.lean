-- Printed by a program of mine (wip/myprint.py), which runs the printer of the kit with contracts of mine beside it.
import Derived.Test.YtakpkmlbklahhaaPFnExactInstalledVersionsx0
import Derived.Test.YtakpkmlbklahhaaPFnExactInstalledVersionsx7
import Derived.Test.YtakpkmlbklahhaaPFnExactInstalledVersionsx9
namespace Go.Proofs.Ytakpkmlbklahhaa.PFnExactInstalledVersions
open Go.RowKit Go.Proofs.YtakpkmlbklahhaaW.PrintWords Go.Proofs.YtakpkmlbklahhaaW.PrintLast Go.Proofs.YtakpkmlbklahhaaW.PrintMore
attribute [local go_sem] max2_int min2_int max_two min_two max_three min_three max_four min_four   -- for this text's walks alone
set_option linter.unusedVariables false
set_option linter.unusedSimpArgs false

/-! ### impl_areWrites: function 206 -/
mutual
def impl_areWrites.l0 : Nat → List (S133) → List (S133) → Int → Int → Option (Bool)
 | 0, _, _, _, _ => none
 | k + 1, x0, x5, x6, x7 => if x7 < x6 then (if 0 ≤ x7 then (if x7 < (x5.length : Int) then ((impl_isKey.f ((rd_T133 x5 x7).f0)).bind fun t292 => (if t292 = true then ((impl_isValue.f ((rd_T133 x5 x7).f1)).bind fun t293 => (if t293 = true then (if x7 > 0 then (if 0 ≤ (wrap64 (x7 - 1)) then (if (wrap64 (x7 - 1)) < (x0.length : Int) then (impl_areWrites.j1 k x0 x7 x5 x6 (decide (((rd_T133 x0 (wrap64 (x7 - 1))).f0) ≥ ((rd_T133 x5 x7).f0)))) else (none)) else (none)) else (impl_areWrites.j1 k x0 x7 x5 x6 false)) else (impl_areWrites.j1 k x0 x7 x5 x6 true))) else (impl_areWrites.j1 k x0 x7 x5 x6 true))) else (none)) else (none)) else (some true)
def impl_areWrites.j1 : Nat → List (S133) → Int → List (S133) → Int → Bool → Option (Bool)
 | 0, _, _, _, _, _ => none
 | k + 1, x0, x3, x5, x6, x36 => if x36 = true then (some false) else (impl_areWrites.l0 k x0 x5 x6 (wrap64 (x3 + 1)))
end
def impl_areWrites.f (k : Nat) (l0 : List (S133)) : Option (Bool) := impl_areWrites.l0 k l0 l0 (l0.length : Int) 0
theorem impl_areWrites.mono_l : ∀ k, (∀ y0 y1 y2 y3, LeO (impl_areWrites.l0 k y0 y1 y2 y3) (impl_areWrites.l0 (k + 1) y0 y1 y2 y3)) ∧ (∀ y0 y1 y2 y3 y4, LeO (impl_areWrites.j1 k y0 y1 y2 y3 y4) (impl_areWrites.j1 (k + 1) y0 y1 y2 y3 y4))
 | 0 => ⟨fun _ _ _ _ r h => by simp [impl_areWrites.l0] at h, fun _ _ _ _ _ r h => by simp [impl_areWrites.j1] at h⟩
 | k + 1 => by
  obtain ⟨ih0, ih1⟩ := impl_areWrites.mono_l k
  refine ⟨?_, ?_⟩
  ·intro y0 y1 y2 y3
   unfold impl_areWrites.l0
   repeat' first
   | (with_reducible exact ih0 _ _ _ _)
   | (with_reducible exact ih1 _ _ _ _ _)
   | (with_reducible exact LeO.refl _)
   | (with_reducible exact LeO.none _)
   | (with_reducible refine LeO.ite ?_ ?_)
   | (with_reducible refine LeO.bind ?_ (fun _ => ?_))
   | exact ih0 _ _ _ _
   | exact ih1 _ _ _ _ _
   | exact LeO.none _
   | refine LeO.ite ?_ ?_
   | refine LeO.bind ?_ (fun _ => ?_)
  ·intro y0 y1 y2 y3 y4
   unfold impl_areWrites.j1
   repeat' first
   | (with_reducible exact ih0 _ _ _ _)
   | (with_reducible exact ih1 _ _ _ _ _)
   | (with_reducible exact LeO.refl _)
   | (with_reducible exact LeO.none _)
   | (with_reducible refine LeO.ite ?_ ?_)
   | (with_reducible refine LeO.bind ?_ (fun _ => ?_))
   | exact ih0 _ _ _ _
   | exact ih1 _ _ _ _ _
   | exact LeO.none _
   | refine LeO.ite ?_ ?_
   | refine LeO.bind ?_ (fun _ => ?_)
theorem impl_areWrites.mono : ∀ a0 k, LeO (impl_areWrites.f k a0) (impl_areWrites.f (k + 1) a0) := by
 intro a0 k
 obtain ⟨ih0, ih1⟩ := impl_areWrites.mono_l k
 unfold impl_areWrites.f
 repeat' first
   | (with_reducible exact ih0 _ _ _ _)
   | (with_reducible exact ih1 _ _ _ _ _)
   | (with_reducible exact LeO.refl _)
   | (with_reducible exact LeO.none _)
   | (with_reducible refine LeO.ite ?_ ?_)
   | (with_reducible refine LeO.bind ?_ (fun _ => ?_))
   | exact ih0 _ _ _ _
   | exact ih1 _ _ _ _ _
   | exact LeO.none _
   | refine LeO.ite ?_ ?_
   | refine LeO.bind ?_ (fun _ => ?_)
set_option maxHeartbeats 8000000 in
set_option maxRecDepth 100000 in
theorem impl_areWrites.calls (k : Nat) (A0 : Option Addr) (c0 : Nat) (l0 : List (S133)) (r : Bool) (w : World) (hr0 : Kd.C k133 w A0 l0.length l0) (hc0 : l0.length ≤ c0) (h : impl_areWrites.f k l0 = some r) :
  Calls Try.prog 206 #[.slice A0 l0.length c0] w fun e w' => e = .returned (.bool r) ∧ Below w.heap.size w w' := by
 have hu133 := Try.underlying133
 have HR0 := AM_ hr0
 have HC0 := AM_ hc0
 clear hr0 hc0
 have HB := AM_ (Below.refl w.heap.size w)
 have H : (impl_areWrites.l0 k l0 l0 (l0.length : Int) 0) = some r := h
 clear h
 have H' := AM_ H
 clear H
 go_enter Try.func206, Try.ntmps206
 go_wp2
 repeat (go_quiet (fail); try go_wp2)
 go_loopg [7] k (fun kq v7 w' => ∃ (x7_1 : Int), v7 = .int .i64 x7_1 ∧ Aside0 (impl_areWrites.l0 kq l0 l0 (l0.length : Int) x7_1 = some r) ∧ Aside0 (kq ≤ k) ∧ Aside0 (Below w.heap.size w w'))
 case atStart => exact ⟨(0), (by first | rfl | (simp; done) | (simp [*]; done)), H', ⟨Nat.le_refl _⟩, ⟨BT HB.out⟩⟩
 case round =>
  clear H'
  obtain ⟨x7_1, rfl, HA, HK1, HB⟩ := hrel
  cases gk with
  | zero => exact absurd HA.out (by simp [impl_areWrites.l0])
  | succ k1 =>
   have H := HA.out
   clear HA
   simp only [impl_areWrites.l0] at H
   by_cases c2 : x7_1 < (l0.length : Int)
   rotate_left
   ·rw [if_neg c2] at H
    have c2b0 : decide (x7_1 < (l0.length : Int)) = false := decide_eq_false c2
    clear c2
    obtain rfl := Option.some.inj H
    go_wp2
    repeat (go_quiet (fail); try go_wp2)
    go_ret
    exact QT (BT HB.out)
   rw [if_pos c2] at H
   have c2b0 : decide (x7_1 < (l0.length : Int)) = true := decide_eq_true c2
   clear c2
   by_cases c3 : 0 ≤ x7_1
   rotate_left
   ·rw [if_neg c3] at H
    exact absurd H (by simp)
   rw [if_pos c3] at H
   have c3b0 : decide (0 ≤ x7_1) = true := decide_eq_true c3
   clear c3
   by_cases c4 : x7_1 < (l0.length : Int)
   rotate_left
   ·rw [if_neg c4] at H
    exact absurd H (by simp)
   rw [if_pos c4] at H
   have c4b0 : decide (x7_1 < (l0.length : Int)) = true := decide_eq_true c4
   clear c4
   have HC5 := AM_ H
   clear H
   have p290 : 0 ≤ (x7_1 : Int) := DT
   have q290 : x7_1 < (l0.length : Int) := DT
   obtain ⟨ad290, e290, hx290_0, hx290_1⟩ := at_T133 HR0.out x7_1 p290 q290
   cases e290
   replace hx290_0 := BC HB.out hx290_0
   replace hx290_1 := BC HB.out hx290_1
   replace p290 := eq_true p290
   replace q290 := eq_true q290
   go_upto_region 4 with (first | ((with_reducible refine gate_dst (N := 4) rfl ?_); refine box_event ?hg (N := 4) ?hd (cs := #[.int .i64 0, .int .i64 0]) (t := 133) ?hr ?_; (case hd => rfl); (case hg => rfl); (case hr => first | (go_simp; done) | (go_simp; rfl)); intro gb291 hg w6 hbox hb; have BK291 := AM_ (hbox); have GW291 := AM_ ((GS HB.out hg)); have GE291 := AM_ ((GS HB.out hg)); replace HB := AM_ (below_step (BT HB.out) hb); clear hb hbox hg; obtain ⟨hcz7_0, hcz7_1, hfz7_0, hfz7_1⟩ := bk2 BK291.out))
   repeat (go_quiet (first | ((with_reducible refine gate_dst (N := 4) rfl ?_); refine box_event ?hg (N := 4) ?hd (cs := #[.int .i64 0, .int .i64 0]) (t := 133) ?hr ?_; (case hd => rfl); (case hg => rfl); (case hr => first | (go_simp; done) | (go_simp; rfl)); intro gb291 hg w6 hbox hb; have BK291 := AM_ (hbox); have GW291 := AM_ ((GS HB.out hg)); have GE291 := AM_ ((GS HB.out hg)); replace HB := AM_ (below_step (BT HB.out) hb); clear hb hbox hg; obtain ⟨hcz7_0, hcz7_1, hfz7_0, hfz7_1⟩ := bk2 BK291.out)); go_upto_region 4 with (first | ((with_reducible refine gate_dst (N := 4) rfl ?_); refine box_event ?hg (N := 4) ?hd (cs := #[.int .i64 0, .int .i64 0]) (t := 133) ?hr ?_; (case hd => rfl); (case hg => rfl); (case hr => first | (go_simp; done) | (go_simp; rfl)); intro gb291 hg w6 hbox hb; have BK291 := AM_ (hbox); have GW291 := AM_ ((GS HB.out hg)); have GE291 := AM_ ((GS HB.out hg)); replace HB := AM_ (below_step (BT HB.out) hb); clear hb hbox hg; obtain ⟨hcz7_0, hcz7_1, hfz7_0, hfz7_1⟩ := bk2 BK291.out)))
   (try simp only [pA, pS, pZ, pK])
   go_cut [36] (fun v36 wc => ∃ (kq : Nat) (x36_4 : Bool), v36 = .bool x36_4 ∧ Aside0 (impl_areWrites.j1 kq l0 x7_1 l0 (l0.length : Int) x36_4 = some r) ∧ Aside0 (kq ≤ k1) ∧ Aside0 (wc.heap[gb291]? = some (.cells #[.int .i64 ((rd_T133 l0 x7_1).f0), .int .i64 ((rd_T133 l0 x7_1).f1)] 133 (0, 0))) ∧ Aside0 (Below w.heap.size w wc))
   case first =>
    have H := HC5.out
    clear HC5
    replace H := Option.bind_eq_some_iff.mp H
    obtain ⟨t292, A80, H⟩ := H
    replace H : (if t292 = true then ((impl_isValue.f ((rd_T133 l0 x7_1).f1)).bind fun t293 => (if t293 = true then (if x7_1 > 0 then (if 0 ≤ (wrap64 (x7_1 - 1)) then (if (wrap64 (x7_1 - 1)) < (l0.length : Int) then (impl_areWrites.j1 k1 l0 x7_1 l0 (l0.length : Int) (decide (((rd_T133 l0 (wrap64 (x7_1 - 1))).f0) ≥ ((rd_T133 l0 x7_1).f0)))) else (none)) else (none)) else (impl_areWrites.j1 k1 l0 x7_1 l0 (l0.length : Int) false)) else (impl_areWrites.j1 k1 l0 x7_1 l0 (l0.length : Int) true))) else (impl_areWrites.j1 k1 l0 x7_1 l0 (l0.length : Int) true)) = some r := H
    have A8 := AM_ A80
    clear A80
    by_cases c9 : t292 = true
    rotate_left
    ·replace c9 := Bool.eq_false_iff.mpr c9
     subst c9
     have H1 : (impl_areWrites.j1 k1 l0 x7_1 l0 (l0.length : Int) true) = some r := by rw [if_neg (show ¬ (false = true) by decide)] at H; exact H
     clear H
     have H := H1
     clear H1
     have H' := AM_ H
     clear H
     obtain ⟨hcz19_0, hcz19_1, hfz19_0, hfz19_1⟩ := bk2 BK291.out
     go_wp2_with (first | (go_at_call 120; (with_reducible refine (impl_isKey.calls ((rd_T133 l0 x7_1).f0) false _ A8.out).mono ?_); rintro e w' ⟨rfl, ⟨nd, rfl⟩⟩; (try first | exact ⟨rfl, _, World.drewN_drewN _ _ _⟩ | exact ⟨rfl, _, Eq.trans (World.drewN_drewN _ _ _) (congrArg (World.drewN _) (Nat.add_assoc _ _ _))⟩)))
     repeat (go_quiet (first | (go_at_call 120; (with_reducible refine (impl_isKey.calls ((rd_T133 l0 x7_1).f0) false _ A8.out).mono ?_); rintro e w' ⟨rfl, ⟨nd, rfl⟩⟩; (try first | exact ⟨rfl, _, World.drewN_drewN _ _ _⟩ | exact ⟨rfl, _, Eq.trans (World.drewN_drewN _ _ _) (congrArg (World.drewN _) (Nat.add_assoc _ _ _))⟩))); try go_wp2_with (first | (go_at_call 120; (with_reducible refine (impl_isKey.calls ((rd_T133 l0 x7_1).f0) false _ A8.out).mono ?_); rintro e w' ⟨rfl, ⟨nd, rfl⟩⟩; (try first | exact ⟨rfl, _, World.drewN_drewN _ _ _⟩ | exact ⟨rfl, _, Eq.trans (World.drewN_drewN _ _ _) (congrArg (World.drewN _) (Nat.add_assoc _ _ _))⟩))))
     go_meet
     case rel => exact ⟨_, (true), (by first | rfl | (simp; done) | (simp [*]; done)), H', ⟨by have := HK1.out; first | omega | exact Nat.le_refl _⟩, ⟨BQ BK291.out⟩, ⟨BT HB.out⟩⟩
    subst c9
    have H1 : ((impl_isValue.f ((rd_T133 l0 x7_1).f1)).bind fun t293 => (if t293 = true then (if x7_1 > 0 then (if 0 ≤ (wrap64 (x7_1 - 1)) then (if (wrap64 (x7_1 - 1)) < (l0.length : Int) then (impl_areWrites.j1 k1 l0 x7_1 l0 (l0.length : Int) (decide (((rd_T133 l0 (wrap64 (x7_1 - 1))).f0) ≥ ((rd_T133 l0 x7_1).f0)))) else (none)) else (none)) else (impl_areWrites.j1 k1 l0 x7_1 l0 (l0.length : Int) false)) else (impl_areWrites.j1 k1 l0 x7_1 l0 (l0.length : Int) true))) = some r := by rw [if_pos rfl] at H; exact H
    clear H
    have H := H1
    clear H1
    replace H := Option.bind_eq_some_iff.mp H
    obtain ⟨t293, A100, H⟩ := H
    replace H : (if t293 = true then (if x7_1 > 0 then (if 0 ≤ (wrap64 (x7_1 - 1)) then (if (wrap64 (x7_1 - 1)) < (l0.length : Int) then (impl_areWrites.j1 k1 l0 x7_1 l0 (l0.length : Int) (decide (((rd_T133 l0 (wrap64 (x7_1 - 1))).f0) ≥ ((rd_T133 l0 x7_1).f0)))) else (none)) else (none)) else (impl_areWrites.j1 k1 l0 x7_1 l0 (l0.length : Int) false)) else (impl_areWrites.j1 k1 l0 x7_1 l0 (l0.length : Int) true)) = some r := H
    have A10 := AM_ A100
    clear A100
    by_cases c11 : t293 = true
    rotate_left
    ·replace c11 := Bool.eq_false_iff.mpr c11
     subst c11
     have H1 : (impl_areWrites.j1 k1 l0 x7_1 l0 (l0.length : Int) true) = some r := by rw [if_neg (show ¬ (false = true) by decide)] at H; exact H
     clear H
     have H := H1
     clear H1
     have H' := AM_ H
     clear H
     obtain ⟨hcz18_0, hcz18_1, hfz18_0, hfz18_1⟩ := bk2 BK291.out
     go_wp2_with (first | (go_at_call 120; (with_reducible refine (impl_isKey.calls ((rd_T133 l0 x7_1).f0) true _ A8.out).mono ?_); rintro e w' ⟨rfl, ⟨nd, rfl⟩⟩; (try first | exact ⟨rfl, _, World.drewN_drewN _ _ _⟩ | exact ⟨rfl, _, Eq.trans (World.drewN_drewN _ _ _) (congrArg (World.drewN _) (Nat.add_assoc _ _ _))⟩)) | (go_at_call 219; (with_reducible refine (impl_isValue.calls ((rd_T133 l0 x7_1).f1) false _ A10.out).mono ?_); rintro e w' ⟨rfl, ⟨nd, rfl⟩⟩; (try first | exact ⟨rfl, _, World.drewN_drewN _ _ _⟩ | exact ⟨rfl, _, Eq.trans (World.drewN_drewN _ _ _) (congrArg (World.drewN _) (Nat.add_assoc _ _ _))⟩)))
     repeat (go_quiet (first | (go_at_call 120; (with_reducible refine (impl_isKey.calls ((rd_T133 l0 x7_1).f0) true _ A8.out).mono ?_); rintro e w' ⟨rfl, ⟨nd, rfl⟩⟩; (try first | exact ⟨rfl, _, World.drewN_drewN _ _ _⟩ | exact ⟨rfl, _, Eq.trans (World.drewN_drewN _ _ _) (congrArg (World.drewN _) (Nat.add_assoc _ _ _))⟩)) | (go_at_call 219; (with_reducible refine (impl_isValue.calls ((rd_T133 l0 x7_1).f1) false _ A10.out).mono ?_); rintro e w' ⟨rfl, ⟨nd, rfl⟩⟩; (try first | exact ⟨rfl, _, World.drewN_drewN _ _ _⟩ | exact ⟨rfl, _, Eq.trans (World.drewN_drewN _ _ _) (congrArg (World.drewN _) (Nat.add_assoc _ _ _))⟩))); try go_wp2_with (first | (go_at_call 120; (with_reducible refine (impl_isKey.calls ((rd_T133 l0 x7_1).f0) true _ A8.out).mono ?_); rintro e w' ⟨rfl, ⟨nd, rfl⟩⟩; (try first | exact ⟨rfl, _, World.drewN_drewN _ _ _⟩ | exact ⟨rfl, _, Eq.trans (World.drewN_drewN _ _ _) (congrArg (World.drewN _) (Nat.add_assoc _ _ _))⟩)) | (go_at_call 219; (with_reducible refine (impl_isValue.calls ((rd_T133 l0 x7_1).f1) false _ A10.out).mono ?_); rintro e w' ⟨rfl, ⟨nd, rfl⟩⟩; (try first | exact ⟨rfl, _, World.drewN_drewN _ _ _⟩ | exact ⟨rfl, _, Eq.trans (World.drewN_drewN _ _ _) (congrArg (World.drewN _) (Nat.add_assoc _ _ _))⟩))))
     go_meet
     case rel => exact ⟨_, (true), (by first | rfl | (simp; done) | (simp [*]; done)), H', ⟨by have := HK1.out; first | omega | exact Nat.le_refl _⟩, ⟨BQ BK291.out⟩, ⟨BT HB.out⟩⟩
    subst c11
    have H1 : (if x7_1 > 0 then (if 0 ≤ (wrap64 (x7_1 - 1)) then (if (wrap64 (x7_1 - 1)) < (l0.length : Int) then (impl_areWrites.j1 k1 l0 x7_1 l0 (l0.length : Int) (decide (((rd_T133 l0 (wrap64 (x7_1 - 1))).f0) ≥ ((rd_T133 l0 x7_1).f0)))) else (none)) else (none)) else (impl_areWrites.j1 k1 l0 x7_1 l0 (l0.length : Int) false)) = some r := by rw [if_pos rfl] at H; exact H
    clear H
    have H := H1
    clear H1
    by_cases c12 : x7_1 > 0
    rotate_left
    ·rw [if_neg c12] at H
     have c12b0 : decide (0 < x7_1) = false := decide_eq_false c12
     clear c12
     (first | rw [c12b0] | (simp only [i64_w, i32_w]; rw [c12b0]) | skip)
     have H' := AM_ H
     clear H
     obtain ⟨hcz17_0, hcz17_1, hfz17_0, hfz17_1⟩ := bk2 BK291.out
     go_wp2_with (first | (go_at_call 120; (with_reducible refine (impl_isKey.calls ((rd_T133 l0 x7_1).f0) true _ A8.out).mono ?_); rintro e w' ⟨rfl, ⟨nd, rfl⟩⟩; (try first | exact ⟨rfl, _, World.drewN_drewN _ _ _⟩ | exact ⟨rfl, _, Eq.trans (World.drewN_drewN _ _ _) (congrArg (World.drewN _) (Nat.add_assoc _ _ _))⟩)) | (go_at_call 219; (with_reducible refine (impl_isValue.calls ((rd_T133 l0 x7_1).f1) true _ A10.out).mono ?_); rintro e w' ⟨rfl, ⟨nd, rfl⟩⟩; (try first | exact ⟨rfl, _, World.drewN_drewN _ _ _⟩ | exact ⟨rfl, _, Eq.trans (World.drewN_drewN _ _ _) (congrArg (World.drewN _) (Nat.add_assoc _ _ _))⟩)))
     repeat (go_quiet (first | (go_at_call 120; (with_reducible refine (impl_isKey.calls ((rd_T133 l0 x7_1).f0) true _ A8.out).mono ?_); rintro e w' ⟨rfl, ⟨nd, rfl⟩⟩; (try first | exact ⟨rfl, _, World.drewN_drewN _ _ _⟩ | exact ⟨rfl, _, Eq.trans (World.drewN_drewN _ _ _) (congrArg (World.drewN _) (Nat.add_assoc _ _ _))⟩)) | (go_at_call 219; (with_reducible refine (impl_isValue.calls ((rd_T133 l0 x7_1).f1) true _ A10.out).mono ?_); rintro e w' ⟨rfl, ⟨nd, rfl⟩⟩; (try first | exact ⟨rfl, _, World.drewN_drewN _ _ _⟩ | exact ⟨rfl, _, Eq.trans (World.drewN_drewN _ _ _) (congrArg (World.drewN _) (Nat.add_assoc _ _ _))⟩))); try go_wp2_with (first | (go_at_call 120; (with_reducible refine (impl_isKey.calls ((rd_T133 l0 x7_1).f0) true _ A8.out).mono ?_); rintro e w' ⟨rfl, ⟨nd, rfl⟩⟩; (try first | exact ⟨rfl, _, World.drewN_drewN _ _ _⟩ | exact ⟨rfl, _, Eq.trans (World.drewN_drewN _ _ _) (congrArg (World.drewN _) (Nat.add_assoc _ _ _))⟩)) | (go_at_call 219; (with_reducible refine (impl_isValue.calls ((rd_T133 l0 x7_1).f1) true _ A10.out).mono ?_); rintro e w' ⟨rfl, ⟨nd, rfl⟩⟩; (try first | exact ⟨rfl, _, World.drewN_drewN _ _ _⟩ | exact ⟨rfl, _, Eq.trans (World.drewN_drewN _ _ _) (congrArg (World.drewN _) (Nat.add_assoc _ _ _))⟩))))
     go_meet
     case rel => exact ⟨_, (false), (by first | rfl | (simp; done) | (simp [*]; done)), H', ⟨by have := HK1.out; first | omega | exact Nat.le_refl _⟩, ⟨BQ BK291.out⟩, ⟨BT HB.out⟩⟩
    rw [if_pos c12] at H
    have c12b0 : decide (0 < x7_1) = true := decide_eq_true c12
    clear c12
    (first | rw [c12b0] | (simp only [i64_w, i32_w]; rw [c12b0]) | skip)
    obtain ⟨ji13, hji13⟩ : ∃ j_ : Int, (wrap64 (x7_1 - 1)) = j_ := ⟨_, rfl⟩
    replace H : (if 0 ≤ (ji13) then (if (ji13) < (l0.length : Int) then (impl_areWrites.j1 k1 l0 x7_1 l0 (l0.length : Int) (decide (((rd_T133 l0 (ji13)).f0) ≥ ((rd_T133 l0 x7_1).f0)))) else (none)) else (none)) = some r := by first | (rw [hji13] at H; exact H) | (simp only [hji13] at H ⊢; exact H)
    (try rw [hji13] at A8)
    (try rw [hji13] at A10)
    have hji13w : (IntKind.i64.wrap (x7_1 - 1)) = ji13 := (i64_w _).trans hji13
    by_cases c14 : 0 ≤ (ji13)
    rotate_left
    ·rw [if_neg c14] at H
     exact absurd H (by simp)
    rw [if_pos c14] at H
    have c14b0 : decide (0 ≤ (ji13)) = true := decide_eq_true c14
    clear c14
    by_cases c15 : (ji13) < (l0.length : Int)
    rotate_left
    ·rw [if_neg c15] at H
     exact absurd H (by simp)
    rw [if_pos c15] at H
    have c15b0 : decide ((ji13) < (l0.length : Int)) = true := decide_eq_true c15
    clear c15
    have H' := AM_ H
    clear H
    obtain ⟨hcz16_0, hcz16_1, hfz16_0, hfz16_1⟩ := bk2 BK291.out
    go_wp2_with (first | (go_at_call 120; (with_reducible refine (impl_isKey.calls ((rd_T133 l0 x7_1).f0) true _ A8.out).mono ?_); rintro e w' ⟨rfl, ⟨nd, rfl⟩⟩; (try first | exact ⟨rfl, _, World.drewN_drewN _ _ _⟩ | exact ⟨rfl, _, Eq.trans (World.drewN_drewN _ _ _) (congrArg (World.drewN _) (Nat.add_assoc _ _ _))⟩)) | (go_at_call 219; (with_reducible refine (impl_isValue.calls ((rd_T133 l0 x7_1).f1) true _ A10.out).mono ?_); rintro e w' ⟨rfl, ⟨nd, rfl⟩⟩; (try first | exact ⟨rfl, _, World.drewN_drewN _ _ _⟩ | exact ⟨rfl, _, Eq.trans (World.drewN_drewN _ _ _) (congrArg (World.drewN _) (Nat.add_assoc _ _ _))⟩); have p294 : 0 ≤ ((ji13) : Int) := DT; have q294 : (ji13) < (l0.length : Int) := DT; obtain ⟨ad294, e294, hx294_0, hx294_1⟩ := at_T133 HR0.out (ji13) p294 q294; obtain rfl : ad290 = ad294 := (by injection e294); have hn294_0 : ad290.block ≠ gb291 := Nat.ne_of_lt (Nat.lt_of_lt_of_le (by have := World.block_lt_of_cell? _ _ hx294_0; first | rwa [add_block] at this | exact this) GW291.out); have hn294_1 : ad290.block ≠ gb291 := Nat.ne_of_lt (Nat.lt_of_lt_of_le (by have := World.block_lt_of_cell? _ _ hx294_0; first | rwa [add_block] at this | exact this) GW291.out); replace hx294_0 := BD HB.out hx294_0; replace hx294_1 := BD HB.out hx294_1; replace hx294_0 := (cell_far (p := ⟨gb291, 0, none⟩) (by first | (rw [add_block]; exact hn294_0) | (show (Addr.add _ _).block ≠ _; rw [add_block]; exact hn294_0) | exact hn294_0) (.int .i64 ((rd_T133 l0 x7_1).f0))).trans hx294_0; replace hx294_1 := (cell_far (p := ⟨gb291, 0, none⟩) (by first | (rw [add_block]; exact hn294_0) | (show (Addr.add _ _).block ≠ _; rw [add_block]; exact hn294_0) | exact hn294_0) (.int .i64 ((rd_T133 l0 x7_1).f0))).trans hx294_1; replace hx294_0 := (cell_far (p := ⟨gb291, 1, none⟩) (by first | (rw [add_block]; exact hn294_1) | (show (Addr.add _ _).block ≠ _; rw [add_block]; exact hn294_1) | exact hn294_1) (.int .i64 ((rd_T133 l0 x7_1).f1))).trans hx294_0; replace hx294_1 := (cell_far (p := ⟨gb291, 1, none⟩) (by first | (rw [add_block]; exact hn294_1) | (show (Addr.add _ _).block ≠ _; rw [add_block]; exact hn294_1) | exact hn294_1) (.int .i64 ((rd_T133 l0 x7_1).f1))).trans hx294_1; (try have hy294_0 := fun (n_ : Nat) => (show ((((w6.drewN n_).setCell ⟨gb291, 0, none⟩ (.int .i64 ((rd_T133 l0 x7_1).f0))).setCell ⟨gb291, 1, none⟩ (.int .i64 ((rd_T133 l0 x7_1).f1)))).cell? _ = some _ from hx294_0)); (try have hy294_1 := fun (n_ : Nat) => (show ((((w6.drewN n_).setCell ⟨gb291, 0, none⟩ (.int .i64 ((rd_T133 l0 x7_1).f0))).setCell ⟨gb291, 1, none⟩ (.int .i64 ((rd_T133 l0 x7_1).f1)))).cell? _ = some _ from hx294_1)); clear hn294_0; clear hn294_1; replace p294 := eq_true p294; replace q294 := eq_true q294))
    repeat (go_quiet (first | (go_at_call 120; (with_reducible refine (impl_isKey.calls ((rd_T133 l0 x7_1).f0) true _ A8.out).mono ?_); rintro e w' ⟨rfl, ⟨nd, rfl⟩⟩; (try first | exact ⟨rfl, _, World.drewN_drewN _ _ _⟩ | exact ⟨rfl, _, Eq.trans (World.drewN_drewN _ _ _) (congrArg (World.drewN _) (Nat.add_assoc _ _ _))⟩)) | (go_at_call 219; (with_reducible refine (impl_isValue.calls ((rd_T133 l0 x7_1).f1) true _ A10.out).mono ?_); rintro e w' ⟨rfl, ⟨nd, rfl⟩⟩; (try first | exact ⟨rfl, _, World.drewN_drewN _ _ _⟩ | exact ⟨rfl, _, Eq.trans (World.drewN_drewN _ _ _) (congrArg (World.drewN _) (Nat.add_assoc _ _ _))⟩); have p294 : 0 ≤ ((ji13) : Int) := DT; have q294 : (ji13) < (l0.length : Int) := DT; obtain ⟨ad294, e294, hx294_0, hx294_1⟩ := at_T133 HR0.out (ji13) p294 q294; obtain rfl : ad290 = ad294 := (by injection e294); have hn294_0 : ad290.block ≠ gb291 := Nat.ne_of_lt (Nat.lt_of_lt_of_le (by have := World.block_lt_of_cell? _ _ hx294_0; first | rwa [add_block] at this | exact this) GW291.out); have hn294_1 : ad290.block ≠ gb291 := Nat.ne_of_lt (Nat.lt_of_lt_of_le (by have := World.block_lt_of_cell? _ _ hx294_0; first | rwa [add_block] at this | exact this) GW291.out); replace hx294_0 := BD HB.out hx294_0; replace hx294_1 := BD HB.out hx294_1; replace hx294_0 := (cell_far (p := ⟨gb291, 0, none⟩) (by first | (rw [add_block]; exact hn294_0) | (show (Addr.add _ _).block ≠ _; rw [add_block]; exact hn294_0) | exact hn294_0) (.int .i64 ((rd_T133 l0 x7_1).f0))).trans hx294_0; replace hx294_1 := (cell_far (p := ⟨gb291, 0, none⟩) (by first | (rw [add_block]; exact hn294_0) | (show (Addr.add _ _).block ≠ _; rw [add_block]; exact hn294_0) | exact hn294_0) (.int .i64 ((rd_T133 l0 x7_1).f0))).trans hx294_1; replace hx294_0 := (cell_far (p := ⟨gb291, 1, none⟩) (by first | (rw [add_block]; exact hn294_1) | (show (Addr.add _ _).block ≠ _; rw [add_block]; exact hn294_1) | exact hn294_1) (.int .i64 ((rd_T133 l0 x7_1).f1))).trans hx294_0; replace hx294_1 := (cell_far (p := ⟨gb291, 1, none⟩) (by first | (rw [add_block]; exact hn294_1) | (show (Addr.add _ _).block ≠ _; rw [add_block]; exact hn294_1) | exact hn294_1) (.int .i64 ((rd_T133 l0 x7_1).f1))).trans hx294_1; (try have hy294_0 := fun (n_ : Nat) => (show ((((w6.drewN n_).setCell ⟨gb291, 0, none⟩ (.int .i64 ((rd_T133 l0 x7_1).f0))).setCell ⟨gb291, 1, none⟩ (.int .i64 ((rd_T133 l0 x7_1).f1)))).cell? _ = some _ from hx294_0)); (try have hy294_1 := fun (n_ : Nat) => (show ((((w6.drewN n_).setCell ⟨gb291, 0, none⟩ (.int .i64 ((rd_T133 l0 x7_1).f0))).setCell ⟨gb291, 1, none⟩ (.int .i64 ((rd_T133 l0 x7_1).f1)))).cell? _ = some _ from hx294_1)); clear hn294_0; clear hn294_1; replace p294 := eq_true p294; replace q294 := eq_true q294)); try go_wp2_with (first | (go_at_call 120; (with_reducible refine (impl_isKey.calls ((rd_T133 l0 x7_1).f0) true _ A8.out).mono ?_); rintro e w' ⟨rfl, ⟨nd, rfl⟩⟩; (try first | exact ⟨rfl, _, World.drewN_drewN _ _ _⟩ | exact ⟨rfl, _, Eq.trans (World.drewN_drewN _ _ _) (congrArg (World.drewN _) (Nat.add_assoc _ _ _))⟩)) | (go_at_call 219; (with_reducible refine (impl_isValue.calls ((rd_T133 l0 x7_1).f1) true _ A10.out).mono ?_); rintro e w' ⟨rfl, ⟨nd, rfl⟩⟩; (try first | exact ⟨rfl, _, World.drewN_drewN _ _ _⟩ | exact ⟨rfl, _, Eq.trans (World.drewN_drewN _ _ _) (congrArg (World.drewN _) (Nat.add_assoc _ _ _))⟩); have p294 : 0 ≤ ((ji13) : Int) := DT; have q294 : (ji13) < (l0.length : Int) := DT; obtain ⟨ad294, e294, hx294_0, hx294_1⟩ := at_T133 HR0.out (ji13) p294 q294; obtain rfl : ad290 = ad294 := (by injection e294); have hn294_0 : ad290.block ≠ gb291 := Nat.ne_of_lt (Nat.lt_of_lt_of_le (by have := World.block_lt_of_cell? _ _ hx294_0; first | rwa [add_block] at this | exact this) GW291.out); have hn294_1 : ad290.block ≠ gb291 := Nat.ne_of_lt (Nat.lt_of_lt_of_le (by have := World.block_lt_of_cell? _ _ hx294_0; first | rwa [add_block] at this | exact this) GW291.out); replace hx294_0 := BD HB.out hx294_0; replace hx294_1 := BD HB.out hx294_1; replace hx294_0 := (cell_far (p := ⟨gb291, 0, none⟩) (by first | (rw [add_block]; exact hn294_0) | (show (Addr.add _ _).block ≠ _; rw [add_block]; exact hn294_0) | exact hn294_0) (.int .i64 ((rd_T133 l0 x7_1).f0))).trans hx294_0; replace hx294_1 := (cell_far (p := ⟨gb291, 0, none⟩) (by first | (rw [add_block]; exact hn294_0) | (show (Addr.add _ _).block ≠ _; rw [add_block]; exact hn294_0) | exact hn294_0) (.int .i64 ((rd_T133 l0 x7_1).f0))).trans hx294_1; replace hx294_0 := (cell_far (p := ⟨gb291, 1, none⟩) (by first | (rw [add_block]; exact hn294_1) | (show (Addr.add _ _).block ≠ _; rw [add_block]; exact hn294_1) | exact hn294_1) (.int .i64 ((rd_T133 l0 x7_1).f1))).trans hx294_0; replace hx294_1 := (cell_far (p := ⟨gb291, 1, none⟩) (by first | (rw [add_block]; exact hn294_1) | (show (Addr.add _ _).block ≠ _; rw [add_block]; exact hn294_1) | exact hn294_1) (.int .i64 ((rd_T133 l0 x7_1).f1))).trans hx294_1; (try have hy294_0 := fun (n_ : Nat) => (show ((((w6.drewN n_).setCell ⟨gb291, 0, none⟩ (.int .i64 ((rd_T133 l0 x7_1).f0))).setCell ⟨gb291, 1, none⟩ (.int .i64 ((rd_T133 l0 x7_1).f1)))).cell? _ = some _ from hx294_0)); (try have hy294_1 := fun (n_ : Nat) => (show ((((w6.drewN n_).setCell ⟨gb291, 0, none⟩ (.int .i64 ((rd_T133 l0 x7_1).f0))).setCell ⟨gb291, 1, none⟩ (.int .i64 ((rd_T133 l0 x7_1).f1)))).cell? _ = some _ from hx294_1)); clear hn294_0; clear hn294_1; replace p294 := eq_true p294; replace q294 := eq_true q294)))
    go_meet
    case rel => exact ⟨_, (decide (((rd_T133 l0 (ji13)).f0) ≥ ((rd_T133 l0 x7_1).f0))), (by first | rfl | (simp; done) | (simp only [← hji13] <;> (first | rfl | simp)) | (simp [*]; done)), H', ⟨by have := HK1.out; first | omega | exact Nat.le_refl _⟩, ⟨BQ BK291.out⟩, ⟨BT HB.out⟩⟩
   case rest =>
    clear HC5
    try clear c1
    try clear c2
    try clear c2b0
    try clear p2
    try clear q2
    try clear hx2
    try clear c3
    try clear c3b0
    try clear c4
    try clear c4b0
    try clear p6
    try clear c9
    try clear c11
    try clear c12
    try clear c12b0
    try clear c14
    try clear c14b0
    try clear c15
    try clear c15b0
    try clear hcz16_0
    try clear hcz16_1
    try clear hcz17_0
    try clear hcz17_1
    try clear hcz18_0
    try clear hcz18_1
    try clear hcz19_0
    try clear hcz19_1
    try clear hcz7_0
    try clear hcz7_1
    try clear hfz16_0
    try clear hfz16_1
    try clear hfz17_0
    try clear hfz17_1
    try clear hfz18_0
    try clear hfz18_1
    try clear hfz19_0
    try clear hfz19_1
    try clear hfz7_0
    try clear hfz7_1
    try clear hx290_0
    try clear hx290_1
    try clear hx294_0
    try clear hx294_1
    try clear p290
    try clear p294
    try clear q290
    try clear q294
    obtain ⟨kq, x36_4, rfl, HA, HJ4, BK291, HB⟩ := hcut
    cases kq with
    | zero => exact absurd HA.out (by simp [impl_areWrites.j1])
    | succ kj4 =>
     have H := HA.out
     clear HA
     simp only [impl_areWrites.j1] at H
     by_cases c20 : x36_4 = true
     ·subst c20
      have H1 : (some false) = some r := by rw [if_pos rfl] at H; exact H
      clear H
      have H := H1
      clear H1
      obtain rfl := Option.some.inj H
      go_wp2
      repeat (go_quiet (fail); try go_wp2)
      go_ret
      exact QT (BT HB.out)
     replace c20 := Bool.eq_false_iff.mpr c20
     subst c20
     have H1 : (impl_areWrites.l0 kj4 l0 l0 (l0.length : Int) (wrap64 (x7_1 + 1))) = some r := by rw [if_neg (show ¬ (false = true) by decide)] at H; exact H
     clear H
     have H := H1
     clear H1
     have H' := AM_ H
     clear H
     go_wp2
     repeat (go_quiet (fail); try go_wp2)
     go_roundg kj4
     case measure => have := HK1.out; have := HJ4.out; omega
     case rel => exact ⟨(wrap64 (x7_1 + 1)), (by first | rfl | (simp; done) | (simp [*]; done)), H', ⟨by have := HK1.out; have := HJ4.out; omega⟩, ⟨BT HB.out⟩⟩

end Go.Proofs.Ytakpkmlbklahhaa.PFnExactInstalledVersions
