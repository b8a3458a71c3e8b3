-- Printed by a program of mine (wip/myprint.py), which runs the printer of the kit with contracts of mine beside it.
import Derived.Test.YtakpkmlbklahhaaPFnExactWriteCodex0
import Derived.Test.YtakpkmlbklahhaaPFnExactWriteCodex4
import Derived.Test.YtakpkmlbklahhaaPFnExactWriteCodex7
namespace Go.Proofs.Ytakpkmlbklahhaa.PFnExactWriteCode
open Go.RowKit Go.Proofs.YtakpkmlbklahhaaW.PrintWords Go.Proofs.YtakpkmlbklahhaaW.PrintLast Go.Proofs.YtakpkmlbklahhaaW.PrintMore
attribute [local go_sem] max2_int min2_int max_two min_two max_three min_three max_four min_four   -- for this text's walks alone
set_option linter.unusedVariables false
set_option linter.unusedSimpArgs false

/-! ### impl_AreLocks: function 132 -/
def impl_AreLocks.l0 : Nat → List (S150) → List (S150) → Int → Int → Option (Bool)
 | 0, _, _, _, _ => none
 | k + 1, x0, x5, x6, x7 => if x7 < x6 then (if 0 ≤ x7 then (if x7 < (x5.length : Int) then ((impl_isKey.f ((rd_T150 x5 x7).f0)).bind fun t248 => (if t248 = true then ((impl_isID.f ((rd_T150 x5 x7).f1)).bind fun t249 => (if t249 = true then (if x7 > 0 then (if 0 ≤ (wrap64 (x7 - 1)) then (if (wrap64 (x7 - 1)) < (x0.length : Int) then (if ((rd_T150 x0 (wrap64 (x7 - 1))).f0) ≥ ((rd_T150 x5 x7).f0) then (some false) else (impl_AreLocks.l0 k x0 x5 x6 (wrap64 (x7 + 1)))) else (none)) else (none)) else (impl_AreLocks.l0 k x0 x5 x6 (wrap64 (x7 + 1)))) else (some false))) else (some false))) else (none)) else (none)) else (some true)
def impl_AreLocks.f (k : Nat) (l0 : List (S150)) : Option (Bool) := impl_AreLocks.l0 k l0 l0 (l0.length : Int) 0
theorem impl_AreLocks.mono_l : ∀ k, (∀ y0 y1 y2 y3, LeO (impl_AreLocks.l0 k y0 y1 y2 y3) (impl_AreLocks.l0 (k + 1) y0 y1 y2 y3))
 | 0 => fun _ _ _ _ r h => by simp [impl_AreLocks.l0] at h
 | k + 1 => by
  have ih0 := impl_AreLocks.mono_l k
  ·intro y0 y1 y2 y3
   unfold impl_AreLocks.l0
   repeat' first
   | (with_reducible exact ih0 _ _ _ _)
   | (with_reducible exact LeO.refl _)
   | (with_reducible exact LeO.none _)
   | (with_reducible refine LeO.ite ?_ ?_)
   | (with_reducible refine LeO.bind ?_ (fun _ => ?_))
   | exact ih0 _ _ _ _
   | exact LeO.none _
   | refine LeO.ite ?_ ?_
   | refine LeO.bind ?_ (fun _ => ?_)
theorem impl_AreLocks.mono : ∀ a0 k, LeO (impl_AreLocks.f k a0) (impl_AreLocks.f (k + 1) a0) := by
 intro a0 k
 have ih0 := impl_AreLocks.mono_l k
 unfold impl_AreLocks.f
 repeat' first
   | (with_reducible exact ih0 _ _ _ _)
   | (with_reducible exact LeO.refl _)
   | (with_reducible exact LeO.none _)
   | (with_reducible refine LeO.ite ?_ ?_)
   | (with_reducible refine LeO.bind ?_ (fun _ => ?_))
   | exact ih0 _ _ _ _
   | exact LeO.none _
   | refine LeO.ite ?_ ?_
   | refine LeO.bind ?_ (fun _ => ?_)
set_option maxHeartbeats 8000000 in
set_option maxRecDepth 100000 in
theorem impl_AreLocks.calls (k : Nat) (A0 : Option Addr) (c0 : Nat) (l0 : List (S150)) (r : Bool) (w : World) (hr0 : Kd.C k150 w A0 l0.length l0) (hc0 : l0.length ≤ c0) (h : impl_AreLocks.f k l0 = some r) :
  Calls Try.prog 132 #[.slice A0 l0.length c0] w fun e w' => e = .returned (.bool r) ∧ Below w.heap.size w w' := by
 have hu150 := Try.underlying150
 have HR0 := AM_ hr0
 have HC0 := AM_ hc0
 clear hr0 hc0
 have HB := AM_ (Below.refl w.heap.size w)
 have H : (impl_AreLocks.l0 k l0 l0 (l0.length : Int) 0) = some r := h
 clear h
 have H' := AM_ H
 clear H
 go_enter Try.func132, Try.ntmps132
 go_wp2
 repeat (go_quiet (fail); try go_wp2)
 go_loopg [7] k (fun kq v7 w' => ∃ (x7_1 : Int), v7 = .int .i64 x7_1 ∧ Aside0 (impl_AreLocks.l0 kq l0 l0 (l0.length : Int) x7_1 = some r) ∧ Aside0 (kq ≤ k) ∧ Aside0 (Below w.heap.size w w'))
 case atStart => exact ⟨(0), (by first | rfl | (simp; done) | (simp [*]; done)), H', ⟨Nat.le_refl _⟩, ⟨BT HB.out⟩⟩
 case round =>
  clear H'
  try clear c1
  obtain ⟨x7_1, rfl, HA, HK1, HB⟩ := hrel
  cases gk with
  | zero => exact absurd HA.out (by simp [impl_AreLocks.l0])
  | succ k1 =>
   have H := HA.out
   clear HA
   simp only [impl_AreLocks.l0] at H
   by_cases c2 : x7_1 < (l0.length : Int)
   rotate_left
   ·rw [if_neg c2] at H
    have c2b0 : decide (x7_1 < (l0.length : Int)) = false := decide_eq_false c2
    clear c2
    obtain rfl := Option.some.inj H
    go_wp2
    repeat (go_quiet (fail); try go_wp2)
    go_ret
    exact QT (BT HB.out)
   rw [if_pos c2] at H
   have c2b0 : decide (x7_1 < (l0.length : Int)) = true := decide_eq_true c2
   clear c2
   by_cases c3 : 0 ≤ x7_1
   rotate_left
   ·rw [if_neg c3] at H
    exact absurd H (by simp)
   rw [if_pos c3] at H
   have c3b0 : decide (0 ≤ x7_1) = true := decide_eq_true c3
   clear c3
   by_cases c4 : x7_1 < (l0.length : Int)
   rotate_left
   ·rw [if_neg c4] at H
    exact absurd H (by simp)
   rw [if_pos c4] at H
   have c4b0 : decide (x7_1 < (l0.length : Int)) = true := decide_eq_true c4
   clear c4
   replace H := Option.bind_eq_some_iff.mp H
   obtain ⟨t248, A50, H⟩ := H
   replace H : (if t248 = true then ((impl_isID.f ((rd_T150 l0 x7_1).f1)).bind fun t249 => (if t249 = true then (if x7_1 > 0 then (if 0 ≤ (wrap64 (x7_1 - 1)) then (if (wrap64 (x7_1 - 1)) < (l0.length : Int) then (if ((rd_T150 l0 (wrap64 (x7_1 - 1))).f0) ≥ ((rd_T150 l0 x7_1).f0) then (some false) else (impl_AreLocks.l0 k1 l0 l0 (l0.length : Int) (wrap64 (x7_1 + 1)))) else (none)) else (none)) else (impl_AreLocks.l0 k1 l0 l0 (l0.length : Int) (wrap64 (x7_1 + 1)))) else (some false))) else (some false)) = some r := H
   have A5 := AM_ A50
   clear A50
   by_cases c6 : t248 = true
   rotate_left
   ·replace c6 := Bool.eq_false_iff.mpr c6
    subst c6
    have H1 : (some false) = some r := by rw [if_neg (show ¬ (false = true) by decide)] at H; exact H
    clear H
    have H := H1
    clear H1
    obtain rfl := Option.some.inj H
    have p246 : 0 ≤ (x7_1 : Int) := DT
    have q246 : x7_1 < (l0.length : Int) := DT
    obtain ⟨ad246, e246, hx246_0, hx246_1⟩ := at_T150 HR0.out x7_1 p246 q246
    cases e246
    replace hx246_0 := BC HB.out hx246_0
    replace hx246_1 := BC HB.out hx246_1
    replace p246 := eq_true p246
    replace q246 := eq_true q246
    go_wp2_with (first | ((with_reducible refine gate_dst (N := 4) rfl ?_); refine box_event ?hg (N := 4) ?hd (cs := #[.int .i64 0, .int .i64 0]) (t := 150) ?hr ?_; (case hd => rfl); (case hg => rfl); (case hr => first | (go_simp; done) | (go_simp; rfl)); intro gb247 hg w22 hbox hb; have BK247 := AM_ (hbox); have GW247 := AM_ ((GS HB.out hg)); have GE247 := AM_ ((GS HB.out hg)); replace HB := AM_ (below_step (BT HB.out) hb); clear hb hbox hg; obtain ⟨hcz23_0, hcz23_1, hfz23_0, hfz23_1⟩ := bk2 BK247.out) | (go_at_call 120; (with_reducible refine (impl_isKey.calls ((rd_T150 l0 x7_1).f0) false _ A5.out).mono ?_); rintro e w' ⟨rfl, ⟨nd, rfl⟩⟩; (try first | exact ⟨rfl, _, World.drewN_drewN _ _ _⟩ | exact ⟨rfl, _, Eq.trans (World.drewN_drewN _ _ _) (congrArg (World.drewN _) (Nat.add_assoc _ _ _))⟩)))
    repeat (go_quiet (first | ((with_reducible refine gate_dst (N := 4) rfl ?_); refine box_event ?hg (N := 4) ?hd (cs := #[.int .i64 0, .int .i64 0]) (t := 150) ?hr ?_; (case hd => rfl); (case hg => rfl); (case hr => first | (go_simp; done) | (go_simp; rfl)); intro gb247 hg w22 hbox hb; have BK247 := AM_ (hbox); have GW247 := AM_ ((GS HB.out hg)); have GE247 := AM_ ((GS HB.out hg)); replace HB := AM_ (below_step (BT HB.out) hb); clear hb hbox hg; obtain ⟨hcz23_0, hcz23_1, hfz23_0, hfz23_1⟩ := bk2 BK247.out) | (go_at_call 120; (with_reducible refine (impl_isKey.calls ((rd_T150 l0 x7_1).f0) false _ A5.out).mono ?_); rintro e w' ⟨rfl, ⟨nd, rfl⟩⟩; (try first | exact ⟨rfl, _, World.drewN_drewN _ _ _⟩ | exact ⟨rfl, _, Eq.trans (World.drewN_drewN _ _ _) (congrArg (World.drewN _) (Nat.add_assoc _ _ _))⟩))); try go_wp2_with (first | ((with_reducible refine gate_dst (N := 4) rfl ?_); refine box_event ?hg (N := 4) ?hd (cs := #[.int .i64 0, .int .i64 0]) (t := 150) ?hr ?_; (case hd => rfl); (case hg => rfl); (case hr => first | (go_simp; done) | (go_simp; rfl)); intro gb247 hg w22 hbox hb; have BK247 := AM_ (hbox); have GW247 := AM_ ((GS HB.out hg)); have GE247 := AM_ ((GS HB.out hg)); replace HB := AM_ (below_step (BT HB.out) hb); clear hb hbox hg; obtain ⟨hcz23_0, hcz23_1, hfz23_0, hfz23_1⟩ := bk2 BK247.out) | (go_at_call 120; (with_reducible refine (impl_isKey.calls ((rd_T150 l0 x7_1).f0) false _ A5.out).mono ?_); rintro e w' ⟨rfl, ⟨nd, rfl⟩⟩; (try first | exact ⟨rfl, _, World.drewN_drewN _ _ _⟩ | exact ⟨rfl, _, Eq.trans (World.drewN_drewN _ _ _) (congrArg (World.drewN _) (Nat.add_assoc _ _ _))⟩))))
    go_ret
    exact QT (BT HB.out)
   subst c6
   have H1 : ((impl_isID.f ((rd_T150 l0 x7_1).f1)).bind fun t249 => (if t249 = true then (if x7_1 > 0 then (if 0 ≤ (wrap64 (x7_1 - 1)) then (if (wrap64 (x7_1 - 1)) < (l0.length : Int) then (if ((rd_T150 l0 (wrap64 (x7_1 - 1))).f0) ≥ ((rd_T150 l0 x7_1).f0) then (some false) else (impl_AreLocks.l0 k1 l0 l0 (l0.length : Int) (wrap64 (x7_1 + 1)))) else (none)) else (none)) else (impl_AreLocks.l0 k1 l0 l0 (l0.length : Int) (wrap64 (x7_1 + 1)))) else (some false))) = some r := by rw [if_pos rfl] at H; exact H
   clear H
   have H := H1
   clear H1
   replace H := Option.bind_eq_some_iff.mp H
   obtain ⟨t249, A70, H⟩ := H
   replace H : (if t249 = true then (if x7_1 > 0 then (if 0 ≤ (wrap64 (x7_1 - 1)) then (if (wrap64 (x7_1 - 1)) < (l0.length : Int) then (if ((rd_T150 l0 (wrap64 (x7_1 - 1))).f0) ≥ ((rd_T150 l0 x7_1).f0) then (some false) else (impl_AreLocks.l0 k1 l0 l0 (l0.length : Int) (wrap64 (x7_1 + 1)))) else (none)) else (none)) else (impl_AreLocks.l0 k1 l0 l0 (l0.length : Int) (wrap64 (x7_1 + 1)))) else (some false)) = some r := H
   have A7 := AM_ A70
   clear A70
   by_cases c8 : t249 = true
   rotate_left
   ·replace c8 := Bool.eq_false_iff.mpr c8
    subst c8
    have H1 : (some false) = some r := by rw [if_neg (show ¬ (false = true) by decide)] at H; exact H
    clear H
    have H := H1
    clear H1
    obtain rfl := Option.some.inj H
    have p246 : 0 ≤ (x7_1 : Int) := DT
    have q246 : x7_1 < (l0.length : Int) := DT
    obtain ⟨ad246, e246, hx246_0, hx246_1⟩ := at_T150 HR0.out x7_1 p246 q246
    cases e246
    replace hx246_0 := BC HB.out hx246_0
    replace hx246_1 := BC HB.out hx246_1
    replace p246 := eq_true p246
    replace q246 := eq_true q246
    go_wp2_with (first | ((with_reducible refine gate_dst (N := 4) rfl ?_); refine box_event ?hg (N := 4) ?hd (cs := #[.int .i64 0, .int .i64 0]) (t := 150) ?hr ?_; (case hd => rfl); (case hg => rfl); (case hr => first | (go_simp; done) | (go_simp; rfl)); intro gb247 hg w20 hbox hb; have BK247 := AM_ (hbox); have GW247 := AM_ ((GS HB.out hg)); have GE247 := AM_ ((GS HB.out hg)); replace HB := AM_ (below_step (BT HB.out) hb); clear hb hbox hg; obtain ⟨hcz21_0, hcz21_1, hfz21_0, hfz21_1⟩ := bk2 BK247.out) | (go_at_call 120; (with_reducible refine (impl_isKey.calls ((rd_T150 l0 x7_1).f0) true _ A5.out).mono ?_); rintro e w' ⟨rfl, ⟨nd, rfl⟩⟩; (try first | exact ⟨rfl, _, World.drewN_drewN _ _ _⟩ | exact ⟨rfl, _, Eq.trans (World.drewN_drewN _ _ _) (congrArg (World.drewN _) (Nat.add_assoc _ _ _))⟩)) | (go_at_call 77; (with_reducible refine (impl_isID.calls ((rd_T150 l0 x7_1).f1) false _ A7.out).mono ?_); rintro e w' ⟨rfl, ⟨nd, rfl⟩⟩; (try first | exact ⟨rfl, _, World.drewN_drewN _ _ _⟩ | exact ⟨rfl, _, Eq.trans (World.drewN_drewN _ _ _) (congrArg (World.drewN _) (Nat.add_assoc _ _ _))⟩)))
    repeat (go_quiet (first | ((with_reducible refine gate_dst (N := 4) rfl ?_); refine box_event ?hg (N := 4) ?hd (cs := #[.int .i64 0, .int .i64 0]) (t := 150) ?hr ?_; (case hd => rfl); (case hg => rfl); (case hr => first | (go_simp; done) | (go_simp; rfl)); intro gb247 hg w20 hbox hb; have BK247 := AM_ (hbox); have GW247 := AM_ ((GS HB.out hg)); have GE247 := AM_ ((GS HB.out hg)); replace HB := AM_ (below_step (BT HB.out) hb); clear hb hbox hg; obtain ⟨hcz21_0, hcz21_1, hfz21_0, hfz21_1⟩ := bk2 BK247.out) | (go_at_call 120; (with_reducible refine (impl_isKey.calls ((rd_T150 l0 x7_1).f0) true _ A5.out).mono ?_); rintro e w' ⟨rfl, ⟨nd, rfl⟩⟩; (try first | exact ⟨rfl, _, World.drewN_drewN _ _ _⟩ | exact ⟨rfl, _, Eq.trans (World.drewN_drewN _ _ _) (congrArg (World.drewN _) (Nat.add_assoc _ _ _))⟩)) | (go_at_call 77; (with_reducible refine (impl_isID.calls ((rd_T150 l0 x7_1).f1) false _ A7.out).mono ?_); rintro e w' ⟨rfl, ⟨nd, rfl⟩⟩; (try first | exact ⟨rfl, _, World.drewN_drewN _ _ _⟩ | exact ⟨rfl, _, Eq.trans (World.drewN_drewN _ _ _) (congrArg (World.drewN _) (Nat.add_assoc _ _ _))⟩))); try go_wp2_with (first | ((with_reducible refine gate_dst (N := 4) rfl ?_); refine box_event ?hg (N := 4) ?hd (cs := #[.int .i64 0, .int .i64 0]) (t := 150) ?hr ?_; (case hd => rfl); (case hg => rfl); (case hr => first | (go_simp; done) | (go_simp; rfl)); intro gb247 hg w20 hbox hb; have BK247 := AM_ (hbox); have GW247 := AM_ ((GS HB.out hg)); have GE247 := AM_ ((GS HB.out hg)); replace HB := AM_ (below_step (BT HB.out) hb); clear hb hbox hg; obtain ⟨hcz21_0, hcz21_1, hfz21_0, hfz21_1⟩ := bk2 BK247.out) | (go_at_call 120; (with_reducible refine (impl_isKey.calls ((rd_T150 l0 x7_1).f0) true _ A5.out).mono ?_); rintro e w' ⟨rfl, ⟨nd, rfl⟩⟩; (try first | exact ⟨rfl, _, World.drewN_drewN _ _ _⟩ | exact ⟨rfl, _, Eq.trans (World.drewN_drewN _ _ _) (congrArg (World.drewN _) (Nat.add_assoc _ _ _))⟩)) | (go_at_call 77; (with_reducible refine (impl_isID.calls ((rd_T150 l0 x7_1).f1) false _ A7.out).mono ?_); rintro e w' ⟨rfl, ⟨nd, rfl⟩⟩; (try first | exact ⟨rfl, _, World.drewN_drewN _ _ _⟩ | exact ⟨rfl, _, Eq.trans (World.drewN_drewN _ _ _) (congrArg (World.drewN _) (Nat.add_assoc _ _ _))⟩))))
    go_ret
    exact QT (BT HB.out)
   subst c8
   have H1 : (if x7_1 > 0 then (if 0 ≤ (wrap64 (x7_1 - 1)) then (if (wrap64 (x7_1 - 1)) < (l0.length : Int) then (if ((rd_T150 l0 (wrap64 (x7_1 - 1))).f0) ≥ ((rd_T150 l0 x7_1).f0) then (some false) else (impl_AreLocks.l0 k1 l0 l0 (l0.length : Int) (wrap64 (x7_1 + 1)))) else (none)) else (none)) else (impl_AreLocks.l0 k1 l0 l0 (l0.length : Int) (wrap64 (x7_1 + 1)))) = some r := by rw [if_pos rfl] at H; exact H
   clear H
   have H := H1
   clear H1
   by_cases c9 : x7_1 > 0
   rotate_left
   ·rw [if_neg c9] at H
    have c9b0 : decide (0 < x7_1) = false := decide_eq_false c9
    clear c9
    have H' := AM_ H
    clear H
    have p246 : 0 ≤ (x7_1 : Int) := DT
    have q246 : x7_1 < (l0.length : Int) := DT
    obtain ⟨ad246, e246, hx246_0, hx246_1⟩ := at_T150 HR0.out x7_1 p246 q246
    cases e246
    replace hx246_0 := BC HB.out hx246_0
    replace hx246_1 := BC HB.out hx246_1
    replace p246 := eq_true p246
    replace q246 := eq_true q246
    go_wp2_with (first | ((with_reducible refine gate_dst (N := 4) rfl ?_); refine box_event ?hg (N := 4) ?hd (cs := #[.int .i64 0, .int .i64 0]) (t := 150) ?hr ?_; (case hd => rfl); (case hg => rfl); (case hr => first | (go_simp; done) | (go_simp; rfl)); intro gb247 hg w18 hbox hb; have BK247 := AM_ (hbox); have GW247 := AM_ ((GS HB.out hg)); have GE247 := AM_ ((GS HB.out hg)); replace HB := AM_ (below_step (BT HB.out) hb); clear hb hbox hg; obtain ⟨hcz19_0, hcz19_1, hfz19_0, hfz19_1⟩ := bk2 BK247.out) | (go_at_call 120; (with_reducible refine (impl_isKey.calls ((rd_T150 l0 x7_1).f0) true _ A5.out).mono ?_); rintro e w' ⟨rfl, ⟨nd, rfl⟩⟩; (try first | exact ⟨rfl, _, World.drewN_drewN _ _ _⟩ | exact ⟨rfl, _, Eq.trans (World.drewN_drewN _ _ _) (congrArg (World.drewN _) (Nat.add_assoc _ _ _))⟩)) | (go_at_call 77; (with_reducible refine (impl_isID.calls ((rd_T150 l0 x7_1).f1) true _ A7.out).mono ?_); rintro e w' ⟨rfl, ⟨nd, rfl⟩⟩; (try first | exact ⟨rfl, _, World.drewN_drewN _ _ _⟩ | exact ⟨rfl, _, Eq.trans (World.drewN_drewN _ _ _) (congrArg (World.drewN _) (Nat.add_assoc _ _ _))⟩)))
    repeat (go_quiet (first | ((with_reducible refine gate_dst (N := 4) rfl ?_); refine box_event ?hg (N := 4) ?hd (cs := #[.int .i64 0, .int .i64 0]) (t := 150) ?hr ?_; (case hd => rfl); (case hg => rfl); (case hr => first | (go_simp; done) | (go_simp; rfl)); intro gb247 hg w18 hbox hb; have BK247 := AM_ (hbox); have GW247 := AM_ ((GS HB.out hg)); have GE247 := AM_ ((GS HB.out hg)); replace HB := AM_ (below_step (BT HB.out) hb); clear hb hbox hg; obtain ⟨hcz19_0, hcz19_1, hfz19_0, hfz19_1⟩ := bk2 BK247.out) | (go_at_call 120; (with_reducible refine (impl_isKey.calls ((rd_T150 l0 x7_1).f0) true _ A5.out).mono ?_); rintro e w' ⟨rfl, ⟨nd, rfl⟩⟩; (try first | exact ⟨rfl, _, World.drewN_drewN _ _ _⟩ | exact ⟨rfl, _, Eq.trans (World.drewN_drewN _ _ _) (congrArg (World.drewN _) (Nat.add_assoc _ _ _))⟩)) | (go_at_call 77; (with_reducible refine (impl_isID.calls ((rd_T150 l0 x7_1).f1) true _ A7.out).mono ?_); rintro e w' ⟨rfl, ⟨nd, rfl⟩⟩; (try first | exact ⟨rfl, _, World.drewN_drewN _ _ _⟩ | exact ⟨rfl, _, Eq.trans (World.drewN_drewN _ _ _) (congrArg (World.drewN _) (Nat.add_assoc _ _ _))⟩))); try go_wp2_with (first | ((with_reducible refine gate_dst (N := 4) rfl ?_); refine box_event ?hg (N := 4) ?hd (cs := #[.int .i64 0, .int .i64 0]) (t := 150) ?hr ?_; (case hd => rfl); (case hg => rfl); (case hr => first | (go_simp; done) | (go_simp; rfl)); intro gb247 hg w18 hbox hb; have BK247 := AM_ (hbox); have GW247 := AM_ ((GS HB.out hg)); have GE247 := AM_ ((GS HB.out hg)); replace HB := AM_ (below_step (BT HB.out) hb); clear hb hbox hg; obtain ⟨hcz19_0, hcz19_1, hfz19_0, hfz19_1⟩ := bk2 BK247.out) | (go_at_call 120; (with_reducible refine (impl_isKey.calls ((rd_T150 l0 x7_1).f0) true _ A5.out).mono ?_); rintro e w' ⟨rfl, ⟨nd, rfl⟩⟩; (try first | exact ⟨rfl, _, World.drewN_drewN _ _ _⟩ | exact ⟨rfl, _, Eq.trans (World.drewN_drewN _ _ _) (congrArg (World.drewN _) (Nat.add_assoc _ _ _))⟩)) | (go_at_call 77; (with_reducible refine (impl_isID.calls ((rd_T150 l0 x7_1).f1) true _ A7.out).mono ?_); rintro e w' ⟨rfl, ⟨nd, rfl⟩⟩; (try first | exact ⟨rfl, _, World.drewN_drewN _ _ _⟩ | exact ⟨rfl, _, Eq.trans (World.drewN_drewN _ _ _) (congrArg (World.drewN _) (Nat.add_assoc _ _ _))⟩))))
    go_roundg k1
    case measure => have := HK1.out; omega
    case rel => exact ⟨(wrap64 (x7_1 + 1)), (by first | rfl | (simp; done) | (simp [*]; done)), H', ⟨by have := HK1.out; omega⟩, ⟨BT HB.out⟩⟩
   rw [if_pos c9] at H
   have c9b0 : decide (0 < x7_1) = true := decide_eq_true c9
   clear c9
   obtain ⟨ji10, hji10⟩ : ∃ j_ : Int, (wrap64 (x7_1 - 1)) = j_ := ⟨_, rfl⟩
   replace H : (if 0 ≤ (ji10) then (if (ji10) < (l0.length : Int) then (if ((rd_T150 l0 (ji10)).f0) ≥ ((rd_T150 l0 x7_1).f0) then (some false) else (impl_AreLocks.l0 k1 l0 l0 (l0.length : Int) (wrap64 (x7_1 + 1)))) else (none)) else (none)) = some r := by first | (rw [hji10] at H; exact H) | (simp only [hji10] at H ⊢; exact H)
   (try rw [hji10] at A5)
   (try rw [hji10] at A7)
   have hji10w : (IntKind.i64.wrap (x7_1 - 1)) = ji10 := (i64_w _).trans hji10
   by_cases c11 : 0 ≤ (ji10)
   rotate_left
   ·rw [if_neg c11] at H
    exact absurd H (by simp)
   rw [if_pos c11] at H
   have c11b0 : decide (0 ≤ (ji10)) = true := decide_eq_true c11
   clear c11
   by_cases c12 : (ji10) < (l0.length : Int)
   rotate_left
   ·rw [if_neg c12] at H
    exact absurd H (by simp)
   rw [if_pos c12] at H
   have c12b0 : decide ((ji10) < (l0.length : Int)) = true := decide_eq_true c12
   clear c12
   by_cases c13 : ((rd_T150 l0 (ji10)).f0) ≥ ((rd_T150 l0 x7_1).f0)
   rotate_left
   ·rw [if_neg c13] at H
    have c13b0 : decide (((rd_T150 l0 x7_1).f0) ≤ ((rd_T150 l0 (ji10)).f0)) = false := decide_eq_false c13
    clear c13
    have H' := AM_ H
    clear H
    have p246 : 0 ≤ (x7_1 : Int) := DT
    have q246 : x7_1 < (l0.length : Int) := DT
    obtain ⟨ad246, e246, hx246_0, hx246_1⟩ := at_T150 HR0.out x7_1 p246 q246
    cases e246
    replace hx246_0 := BC HB.out hx246_0
    replace hx246_1 := BC HB.out hx246_1
    replace p246 := eq_true p246
    replace q246 := eq_true q246
    go_wp2_with (first | ((with_reducible refine gate_dst (N := 4) rfl ?_); refine box_event ?hg (N := 4) ?hd (cs := #[.int .i64 0, .int .i64 0]) (t := 150) ?hr ?_; (case hd => rfl); (case hg => rfl); (case hr => first | (go_simp; done) | (go_simp; rfl)); intro gb247 hg w16 hbox hb; have BK247 := AM_ (hbox); have GW247 := AM_ ((GS HB.out hg)); have GE247 := AM_ ((GS HB.out hg)); replace HB := AM_ (below_step (BT HB.out) hb); clear hb hbox hg; obtain ⟨hcz17_0, hcz17_1, hfz17_0, hfz17_1⟩ := bk2 BK247.out) | (go_at_call 120; (with_reducible refine (impl_isKey.calls ((rd_T150 l0 x7_1).f0) true _ A5.out).mono ?_); rintro e w' ⟨rfl, ⟨nd, rfl⟩⟩; (try first | exact ⟨rfl, _, World.drewN_drewN _ _ _⟩ | exact ⟨rfl, _, Eq.trans (World.drewN_drewN _ _ _) (congrArg (World.drewN _) (Nat.add_assoc _ _ _))⟩)) | (go_at_call 77; (with_reducible refine (impl_isID.calls ((rd_T150 l0 x7_1).f1) true _ A7.out).mono ?_); rintro e w' ⟨rfl, ⟨nd, rfl⟩⟩; (try first | exact ⟨rfl, _, World.drewN_drewN _ _ _⟩ | exact ⟨rfl, _, Eq.trans (World.drewN_drewN _ _ _) (congrArg (World.drewN _) (Nat.add_assoc _ _ _))⟩); have p250 : 0 ≤ ((ji10) : Int) := DT; have q250 : (ji10) < (l0.length : Int) := DT; obtain ⟨ad250, e250, hx250_0, hx250_1⟩ := at_T150 HR0.out (ji10) p250 q250; obtain rfl : ad246 = ad250 := (by injection e250); have hn250_0 : ad246.block ≠ gb247 := Nat.ne_of_lt (Nat.lt_of_lt_of_le (by have := World.block_lt_of_cell? _ _ hx250_0; first | rwa [add_block] at this | exact this) GW247.out); have hn250_1 : ad246.block ≠ gb247 := Nat.ne_of_lt (Nat.lt_of_lt_of_le (by have := World.block_lt_of_cell? _ _ hx250_0; first | rwa [add_block] at this | exact this) GW247.out); replace hx250_0 := BD HB.out hx250_0; replace hx250_1 := BD HB.out hx250_1; replace hx250_0 := (cell_far (p := ⟨gb247, 0, none⟩) (by first | (rw [add_block]; exact hn250_0) | (show (Addr.add _ _).block ≠ _; rw [add_block]; exact hn250_0) | exact hn250_0) (.int .i64 ((rd_T150 l0 x7_1).f0))).trans hx250_0; replace hx250_1 := (cell_far (p := ⟨gb247, 0, none⟩) (by first | (rw [add_block]; exact hn250_0) | (show (Addr.add _ _).block ≠ _; rw [add_block]; exact hn250_0) | exact hn250_0) (.int .i64 ((rd_T150 l0 x7_1).f0))).trans hx250_1; replace hx250_0 := (cell_far (p := ⟨gb247, 1, none⟩) (by first | (rw [add_block]; exact hn250_1) | (show (Addr.add _ _).block ≠ _; rw [add_block]; exact hn250_1) | exact hn250_1) (.int .i64 ((rd_T150 l0 x7_1).f1))).trans hx250_0; replace hx250_1 := (cell_far (p := ⟨gb247, 1, none⟩) (by first | (rw [add_block]; exact hn250_1) | (show (Addr.add _ _).block ≠ _; rw [add_block]; exact hn250_1) | exact hn250_1) (.int .i64 ((rd_T150 l0 x7_1).f1))).trans hx250_1; (try have hy250_0 := fun (n_ : Nat) => (show ((((w16.drewN n_).setCell ⟨gb247, 0, none⟩ (.int .i64 ((rd_T150 l0 x7_1).f0))).setCell ⟨gb247, 1, none⟩ (.int .i64 ((rd_T150 l0 x7_1).f1)))).cell? _ = some _ from hx250_0)); (try have hy250_1 := fun (n_ : Nat) => (show ((((w16.drewN n_).setCell ⟨gb247, 0, none⟩ (.int .i64 ((rd_T150 l0 x7_1).f0))).setCell ⟨gb247, 1, none⟩ (.int .i64 ((rd_T150 l0 x7_1).f1)))).cell? _ = some _ from hx250_1)); clear hn250_0; clear hn250_1; replace p250 := eq_true p250; replace q250 := eq_true q250))
    repeat (go_quiet (first | ((with_reducible refine gate_dst (N := 4) rfl ?_); refine box_event ?hg (N := 4) ?hd (cs := #[.int .i64 0, .int .i64 0]) (t := 150) ?hr ?_; (case hd => rfl); (case hg => rfl); (case hr => first | (go_simp; done) | (go_simp; rfl)); intro gb247 hg w16 hbox hb; have BK247 := AM_ (hbox); have GW247 := AM_ ((GS HB.out hg)); have GE247 := AM_ ((GS HB.out hg)); replace HB := AM_ (below_step (BT HB.out) hb); clear hb hbox hg; obtain ⟨hcz17_0, hcz17_1, hfz17_0, hfz17_1⟩ := bk2 BK247.out) | (go_at_call 120; (with_reducible refine (impl_isKey.calls ((rd_T150 l0 x7_1).f0) true _ A5.out).mono ?_); rintro e w' ⟨rfl, ⟨nd, rfl⟩⟩; (try first | exact ⟨rfl, _, World.drewN_drewN _ _ _⟩ | exact ⟨rfl, _, Eq.trans (World.drewN_drewN _ _ _) (congrArg (World.drewN _) (Nat.add_assoc _ _ _))⟩)) | (go_at_call 77; (with_reducible refine (impl_isID.calls ((rd_T150 l0 x7_1).f1) true _ A7.out).mono ?_); rintro e w' ⟨rfl, ⟨nd, rfl⟩⟩; (try first | exact ⟨rfl, _, World.drewN_drewN _ _ _⟩ | exact ⟨rfl, _, Eq.trans (World.drewN_drewN _ _ _) (congrArg (World.drewN _) (Nat.add_assoc _ _ _))⟩); have p250 : 0 ≤ ((ji10) : Int) := DT; have q250 : (ji10) < (l0.length : Int) := DT; obtain ⟨ad250, e250, hx250_0, hx250_1⟩ := at_T150 HR0.out (ji10) p250 q250; obtain rfl : ad246 = ad250 := (by injection e250); have hn250_0 : ad246.block ≠ gb247 := Nat.ne_of_lt (Nat.lt_of_lt_of_le (by have := World.block_lt_of_cell? _ _ hx250_0; first | rwa [add_block] at this | exact this) GW247.out); have hn250_1 : ad246.block ≠ gb247 := Nat.ne_of_lt (Nat.lt_of_lt_of_le (by have := World.block_lt_of_cell? _ _ hx250_0; first | rwa [add_block] at this | exact this) GW247.out); replace hx250_0 := BD HB.out hx250_0; replace hx250_1 := BD HB.out hx250_1; replace hx250_0 := (cell_far (p := ⟨gb247, 0, none⟩) (by first | (rw [add_block]; exact hn250_0) | (show (Addr.add _ _).block ≠ _; rw [add_block]; exact hn250_0) | exact hn250_0) (.int .i64 ((rd_T150 l0 x7_1).f0))).trans hx250_0; replace hx250_1 := (cell_far (p := ⟨gb247, 0, none⟩) (by first | (rw [add_block]; exact hn250_0) | (show (Addr.add _ _).block ≠ _; rw [add_block]; exact hn250_0) | exact hn250_0) (.int .i64 ((rd_T150 l0 x7_1).f0))).trans hx250_1; replace hx250_0 := (cell_far (p := ⟨gb247, 1, none⟩) (by first | (rw [add_block]; exact hn250_1) | (show (Addr.add _ _).block ≠ _; rw [add_block]; exact hn250_1) | exact hn250_1) (.int .i64 ((rd_T150 l0 x7_1).f1))).trans hx250_0; replace hx250_1 := (cell_far (p := ⟨gb247, 1, none⟩) (by first | (rw [add_block]; exact hn250_1) | (show (Addr.add _ _).block ≠ _; rw [add_block]; exact hn250_1) | exact hn250_1) (.int .i64 ((rd_T150 l0 x7_1).f1))).trans hx250_1; (try have hy250_0 := fun (n_ : Nat) => (show ((((w16.drewN n_).setCell ⟨gb247, 0, none⟩ (.int .i64 ((rd_T150 l0 x7_1).f0))).setCell ⟨gb247, 1, none⟩ (.int .i64 ((rd_T150 l0 x7_1).f1)))).cell? _ = some _ from hx250_0)); (try have hy250_1 := fun (n_ : Nat) => (show ((((w16.drewN n_).setCell ⟨gb247, 0, none⟩ (.int .i64 ((rd_T150 l0 x7_1).f0))).setCell ⟨gb247, 1, none⟩ (.int .i64 ((rd_T150 l0 x7_1).f1)))).cell? _ = some _ from hx250_1)); clear hn250_0; clear hn250_1; replace p250 := eq_true p250; replace q250 := eq_true q250)); try go_wp2_with (first | ((with_reducible refine gate_dst (N := 4) rfl ?_); refine box_event ?hg (N := 4) ?hd (cs := #[.int .i64 0, .int .i64 0]) (t := 150) ?hr ?_; (case hd => rfl); (case hg => rfl); (case hr => first | (go_simp; done) | (go_simp; rfl)); intro gb247 hg w16 hbox hb; have BK247 := AM_ (hbox); have GW247 := AM_ ((GS HB.out hg)); have GE247 := AM_ ((GS HB.out hg)); replace HB := AM_ (below_step (BT HB.out) hb); clear hb hbox hg; obtain ⟨hcz17_0, hcz17_1, hfz17_0, hfz17_1⟩ := bk2 BK247.out) | (go_at_call 120; (with_reducible refine (impl_isKey.calls ((rd_T150 l0 x7_1).f0) true _ A5.out).mono ?_); rintro e w' ⟨rfl, ⟨nd, rfl⟩⟩; (try first | exact ⟨rfl, _, World.drewN_drewN _ _ _⟩ | exact ⟨rfl, _, Eq.trans (World.drewN_drewN _ _ _) (congrArg (World.drewN _) (Nat.add_assoc _ _ _))⟩)) | (go_at_call 77; (with_reducible refine (impl_isID.calls ((rd_T150 l0 x7_1).f1) true _ A7.out).mono ?_); rintro e w' ⟨rfl, ⟨nd, rfl⟩⟩; (try first | exact ⟨rfl, _, World.drewN_drewN _ _ _⟩ | exact ⟨rfl, _, Eq.trans (World.drewN_drewN _ _ _) (congrArg (World.drewN _) (Nat.add_assoc _ _ _))⟩); have p250 : 0 ≤ ((ji10) : Int) := DT; have q250 : (ji10) < (l0.length : Int) := DT; obtain ⟨ad250, e250, hx250_0, hx250_1⟩ := at_T150 HR0.out (ji10) p250 q250; obtain rfl : ad246 = ad250 := (by injection e250); have hn250_0 : ad246.block ≠ gb247 := Nat.ne_of_lt (Nat.lt_of_lt_of_le (by have := World.block_lt_of_cell? _ _ hx250_0; first | rwa [add_block] at this | exact this) GW247.out); have hn250_1 : ad246.block ≠ gb247 := Nat.ne_of_lt (Nat.lt_of_lt_of_le (by have := World.block_lt_of_cell? _ _ hx250_0; first | rwa [add_block] at this | exact this) GW247.out); replace hx250_0 := BD HB.out hx250_0; replace hx250_1 := BD HB.out hx250_1; replace hx250_0 := (cell_far (p := ⟨gb247, 0, none⟩) (by first | (rw [add_block]; exact hn250_0) | (show (Addr.add _ _).block ≠ _; rw [add_block]; exact hn250_0) | exact hn250_0) (.int .i64 ((rd_T150 l0 x7_1).f0))).trans hx250_0; replace hx250_1 := (cell_far (p := ⟨gb247, 0, none⟩) (by first | (rw [add_block]; exact hn250_0) | (show (Addr.add _ _).block ≠ _; rw [add_block]; exact hn250_0) | exact hn250_0) (.int .i64 ((rd_T150 l0 x7_1).f0))).trans hx250_1; replace hx250_0 := (cell_far (p := ⟨gb247, 1, none⟩) (by first | (rw [add_block]; exact hn250_1) | (show (Addr.add _ _).block ≠ _; rw [add_block]; exact hn250_1) | exact hn250_1) (.int .i64 ((rd_T150 l0 x7_1).f1))).trans hx250_0; replace hx250_1 := (cell_far (p := ⟨gb247, 1, none⟩) (by first | (rw [add_block]; exact hn250_1) | (show (Addr.add _ _).block ≠ _; rw [add_block]; exact hn250_1) | exact hn250_1) (.int .i64 ((rd_T150 l0 x7_1).f1))).trans hx250_1; (try have hy250_0 := fun (n_ : Nat) => (show ((((w16.drewN n_).setCell ⟨gb247, 0, none⟩ (.int .i64 ((rd_T150 l0 x7_1).f0))).setCell ⟨gb247, 1, none⟩ (.int .i64 ((rd_T150 l0 x7_1).f1)))).cell? _ = some _ from hx250_0)); (try have hy250_1 := fun (n_ : Nat) => (show ((((w16.drewN n_).setCell ⟨gb247, 0, none⟩ (.int .i64 ((rd_T150 l0 x7_1).f0))).setCell ⟨gb247, 1, none⟩ (.int .i64 ((rd_T150 l0 x7_1).f1)))).cell? _ = some _ from hx250_1)); clear hn250_0; clear hn250_1; replace p250 := eq_true p250; replace q250 := eq_true q250)))
    go_roundg k1
    case measure => have := HK1.out; omega
    case rel => exact ⟨(wrap64 (x7_1 + 1)), (by first | rfl | (simp; done) | (simp [*]; done)), H', ⟨by have := HK1.out; omega⟩, ⟨BT HB.out⟩⟩
   rw [if_pos c13] at H
   have c13b0 : decide (((rd_T150 l0 x7_1).f0) ≤ ((rd_T150 l0 (ji10)).f0)) = true := decide_eq_true c13
   clear c13
   obtain rfl := Option.some.inj H
   have p246 : 0 ≤ (x7_1 : Int) := DT
   have q246 : x7_1 < (l0.length : Int) := DT
   obtain ⟨ad246, e246, hx246_0, hx246_1⟩ := at_T150 HR0.out x7_1 p246 q246
   cases e246
   replace hx246_0 := BC HB.out hx246_0
   replace hx246_1 := BC HB.out hx246_1
   replace p246 := eq_true p246
   replace q246 := eq_true q246
   go_wp2_with (first | ((with_reducible refine gate_dst (N := 4) rfl ?_); refine box_event ?hg (N := 4) ?hd (cs := #[.int .i64 0, .int .i64 0]) (t := 150) ?hr ?_; (case hd => rfl); (case hg => rfl); (case hr => first | (go_simp; done) | (go_simp; rfl)); intro gb247 hg w14 hbox hb; have BK247 := AM_ (hbox); have GW247 := AM_ ((GS HB.out hg)); have GE247 := AM_ ((GS HB.out hg)); replace HB := AM_ (below_step (BT HB.out) hb); clear hb hbox hg; obtain ⟨hcz15_0, hcz15_1, hfz15_0, hfz15_1⟩ := bk2 BK247.out) | (go_at_call 120; (with_reducible refine (impl_isKey.calls ((rd_T150 l0 x7_1).f0) true _ A5.out).mono ?_); rintro e w' ⟨rfl, ⟨nd, rfl⟩⟩; (try first | exact ⟨rfl, _, World.drewN_drewN _ _ _⟩ | exact ⟨rfl, _, Eq.trans (World.drewN_drewN _ _ _) (congrArg (World.drewN _) (Nat.add_assoc _ _ _))⟩)) | (go_at_call 77; (with_reducible refine (impl_isID.calls ((rd_T150 l0 x7_1).f1) true _ A7.out).mono ?_); rintro e w' ⟨rfl, ⟨nd, rfl⟩⟩; (try first | exact ⟨rfl, _, World.drewN_drewN _ _ _⟩ | exact ⟨rfl, _, Eq.trans (World.drewN_drewN _ _ _) (congrArg (World.drewN _) (Nat.add_assoc _ _ _))⟩); have p250 : 0 ≤ ((ji10) : Int) := DT; have q250 : (ji10) < (l0.length : Int) := DT; obtain ⟨ad250, e250, hx250_0, hx250_1⟩ := at_T150 HR0.out (ji10) p250 q250; obtain rfl : ad246 = ad250 := (by injection e250); have hn250_0 : ad246.block ≠ gb247 := Nat.ne_of_lt (Nat.lt_of_lt_of_le (by have := World.block_lt_of_cell? _ _ hx250_0; first | rwa [add_block] at this | exact this) GW247.out); have hn250_1 : ad246.block ≠ gb247 := Nat.ne_of_lt (Nat.lt_of_lt_of_le (by have := World.block_lt_of_cell? _ _ hx250_0; first | rwa [add_block] at this | exact this) GW247.out); replace hx250_0 := BD HB.out hx250_0; replace hx250_1 := BD HB.out hx250_1; replace hx250_0 := (cell_far (p := ⟨gb247, 0, none⟩) (by first | (rw [add_block]; exact hn250_0) | (show (Addr.add _ _).block ≠ _; rw [add_block]; exact hn250_0) | exact hn250_0) (.int .i64 ((rd_T150 l0 x7_1).f0))).trans hx250_0; replace hx250_1 := (cell_far (p := ⟨gb247, 0, none⟩) (by first | (rw [add_block]; exact hn250_0) | (show (Addr.add _ _).block ≠ _; rw [add_block]; exact hn250_0) | exact hn250_0) (.int .i64 ((rd_T150 l0 x7_1).f0))).trans hx250_1; replace hx250_0 := (cell_far (p := ⟨gb247, 1, none⟩) (by first | (rw [add_block]; exact hn250_1) | (show (Addr.add _ _).block ≠ _; rw [add_block]; exact hn250_1) | exact hn250_1) (.int .i64 ((rd_T150 l0 x7_1).f1))).trans hx250_0; replace hx250_1 := (cell_far (p := ⟨gb247, 1, none⟩) (by first | (rw [add_block]; exact hn250_1) | (show (Addr.add _ _).block ≠ _; rw [add_block]; exact hn250_1) | exact hn250_1) (.int .i64 ((rd_T150 l0 x7_1).f1))).trans hx250_1; (try have hy250_0 := fun (n_ : Nat) => (show ((((w14.drewN n_).setCell ⟨gb247, 0, none⟩ (.int .i64 ((rd_T150 l0 x7_1).f0))).setCell ⟨gb247, 1, none⟩ (.int .i64 ((rd_T150 l0 x7_1).f1)))).cell? _ = some _ from hx250_0)); (try have hy250_1 := fun (n_ : Nat) => (show ((((w14.drewN n_).setCell ⟨gb247, 0, none⟩ (.int .i64 ((rd_T150 l0 x7_1).f0))).setCell ⟨gb247, 1, none⟩ (.int .i64 ((rd_T150 l0 x7_1).f1)))).cell? _ = some _ from hx250_1)); clear hn250_0; clear hn250_1; replace p250 := eq_true p250; replace q250 := eq_true q250))
   repeat (go_quiet (first | ((with_reducible refine gate_dst (N := 4) rfl ?_); refine box_event ?hg (N := 4) ?hd (cs := #[.int .i64 0, .int .i64 0]) (t := 150) ?hr ?_; (case hd => rfl); (case hg => rfl); (case hr => first | (go_simp; done) | (go_simp; rfl)); intro gb247 hg w14 hbox hb; have BK247 := AM_ (hbox); have GW247 := AM_ ((GS HB.out hg)); have GE247 := AM_ ((GS HB.out hg)); replace HB := AM_ (below_step (BT HB.out) hb); clear hb hbox hg; obtain ⟨hcz15_0, hcz15_1, hfz15_0, hfz15_1⟩ := bk2 BK247.out) | (go_at_call 120; (with_reducible refine (impl_isKey.calls ((rd_T150 l0 x7_1).f0) true _ A5.out).mono ?_); rintro e w' ⟨rfl, ⟨nd, rfl⟩⟩; (try first | exact ⟨rfl, _, World.drewN_drewN _ _ _⟩ | exact ⟨rfl, _, Eq.trans (World.drewN_drewN _ _ _) (congrArg (World.drewN _) (Nat.add_assoc _ _ _))⟩)) | (go_at_call 77; (with_reducible refine (impl_isID.calls ((rd_T150 l0 x7_1).f1) true _ A7.out).mono ?_); rintro e w' ⟨rfl, ⟨nd, rfl⟩⟩; (try first | exact ⟨rfl, _, World.drewN_drewN _ _ _⟩ | exact ⟨rfl, _, Eq.trans (World.drewN_drewN _ _ _) (congrArg (World.drewN _) (Nat.add_assoc _ _ _))⟩); have p250 : 0 ≤ ((ji10) : Int) := DT; have q250 : (ji10) < (l0.length : Int) := DT; obtain ⟨ad250, e250, hx250_0, hx250_1⟩ := at_T150 HR0.out (ji10) p250 q250; obtain rfl : ad246 = ad250 := (by injection e250); have hn250_0 : ad246.block ≠ gb247 := Nat.ne_of_lt (Nat.lt_of_lt_of_le (by have := World.block_lt_of_cell? _ _ hx250_0; first | rwa [add_block] at this | exact this) GW247.out); have hn250_1 : ad246.block ≠ gb247 := Nat.ne_of_lt (Nat.lt_of_lt_of_le (by have := World.block_lt_of_cell? _ _ hx250_0; first | rwa [add_block] at this | exact this) GW247.out); replace hx250_0 := BD HB.out hx250_0; replace hx250_1 := BD HB.out hx250_1; replace hx250_0 := (cell_far (p := ⟨gb247, 0, none⟩) (by first | (rw [add_block]; exact hn250_0) | (show (Addr.add _ _).block ≠ _; rw [add_block]; exact hn250_0) | exact hn250_0) (.int .i64 ((rd_T150 l0 x7_1).f0))).trans hx250_0; replace hx250_1 := (cell_far (p := ⟨gb247, 0, none⟩) (by first | (rw [add_block]; exact hn250_0) | (show (Addr.add _ _).block ≠ _; rw [add_block]; exact hn250_0) | exact hn250_0) (.int .i64 ((rd_T150 l0 x7_1).f0))).trans hx250_1; replace hx250_0 := (cell_far (p := ⟨gb247, 1, none⟩) (by first | (rw [add_block]; exact hn250_1) | (show (Addr.add _ _).block ≠ _; rw [add_block]; exact hn250_1) | exact hn250_1) (.int .i64 ((rd_T150 l0 x7_1).f1))).trans hx250_0; replace hx250_1 := (cell_far (p := ⟨gb247, 1, none⟩) (by first | (rw [add_block]; exact hn250_1) | (show (Addr.add _ _).block ≠ _; rw [add_block]; exact hn250_1) | exact hn250_1) (.int .i64 ((rd_T150 l0 x7_1).f1))).trans hx250_1; (try have hy250_0 := fun (n_ : Nat) => (show ((((w14.drewN n_).setCell ⟨gb247, 0, none⟩ (.int .i64 ((rd_T150 l0 x7_1).f0))).setCell ⟨gb247, 1, none⟩ (.int .i64 ((rd_T150 l0 x7_1).f1)))).cell? _ = some _ from hx250_0)); (try have hy250_1 := fun (n_ : Nat) => (show ((((w14.drewN n_).setCell ⟨gb247, 0, none⟩ (.int .i64 ((rd_T150 l0 x7_1).f0))).setCell ⟨gb247, 1, none⟩ (.int .i64 ((rd_T150 l0 x7_1).f1)))).cell? _ = some _ from hx250_1)); clear hn250_0; clear hn250_1; replace p250 := eq_true p250; replace q250 := eq_true q250)); try go_wp2_with (first | ((with_reducible refine gate_dst (N := 4) rfl ?_); refine box_event ?hg (N := 4) ?hd (cs := #[.int .i64 0, .int .i64 0]) (t := 150) ?hr ?_; (case hd => rfl); (case hg => rfl); (case hr => first | (go_simp; done) | (go_simp; rfl)); intro gb247 hg w14 hbox hb; have BK247 := AM_ (hbox); have GW247 := AM_ ((GS HB.out hg)); have GE247 := AM_ ((GS HB.out hg)); replace HB := AM_ (below_step (BT HB.out) hb); clear hb hbox hg; obtain ⟨hcz15_0, hcz15_1, hfz15_0, hfz15_1⟩ := bk2 BK247.out) | (go_at_call 120; (with_reducible refine (impl_isKey.calls ((rd_T150 l0 x7_1).f0) true _ A5.out).mono ?_); rintro e w' ⟨rfl, ⟨nd, rfl⟩⟩; (try first | exact ⟨rfl, _, World.drewN_drewN _ _ _⟩ | exact ⟨rfl, _, Eq.trans (World.drewN_drewN _ _ _) (congrArg (World.drewN _) (Nat.add_assoc _ _ _))⟩)) | (go_at_call 77; (with_reducible refine (impl_isID.calls ((rd_T150 l0 x7_1).f1) true _ A7.out).mono ?_); rintro e w' ⟨rfl, ⟨nd, rfl⟩⟩; (try first | exact ⟨rfl, _, World.drewN_drewN _ _ _⟩ | exact ⟨rfl, _, Eq.trans (World.drewN_drewN _ _ _) (congrArg (World.drewN _) (Nat.add_assoc _ _ _))⟩); have p250 : 0 ≤ ((ji10) : Int) := DT; have q250 : (ji10) < (l0.length : Int) := DT; obtain ⟨ad250, e250, hx250_0, hx250_1⟩ := at_T150 HR0.out (ji10) p250 q250; obtain rfl : ad246 = ad250 := (by injection e250); have hn250_0 : ad246.block ≠ gb247 := Nat.ne_of_lt (Nat.lt_of_lt_of_le (by have := World.block_lt_of_cell? _ _ hx250_0; first | rwa [add_block] at this | exact this) GW247.out); have hn250_1 : ad246.block ≠ gb247 := Nat.ne_of_lt (Nat.lt_of_lt_of_le (by have := World.block_lt_of_cell? _ _ hx250_0; first | rwa [add_block] at this | exact this) GW247.out); replace hx250_0 := BD HB.out hx250_0; replace hx250_1 := BD HB.out hx250_1; replace hx250_0 := (cell_far (p := ⟨gb247, 0, none⟩) (by first | (rw [add_block]; exact hn250_0) | (show (Addr.add _ _).block ≠ _; rw [add_block]; exact hn250_0) | exact hn250_0) (.int .i64 ((rd_T150 l0 x7_1).f0))).trans hx250_0; replace hx250_1 := (cell_far (p := ⟨gb247, 0, none⟩) (by first | (rw [add_block]; exact hn250_0) | (show (Addr.add _ _).block ≠ _; rw [add_block]; exact hn250_0) | exact hn250_0) (.int .i64 ((rd_T150 l0 x7_1).f0))).trans hx250_1; replace hx250_0 := (cell_far (p := ⟨gb247, 1, none⟩) (by first | (rw [add_block]; exact hn250_1) | (show (Addr.add _ _).block ≠ _; rw [add_block]; exact hn250_1) | exact hn250_1) (.int .i64 ((rd_T150 l0 x7_1).f1))).trans hx250_0; replace hx250_1 := (cell_far (p := ⟨gb247, 1, none⟩) (by first | (rw [add_block]; exact hn250_1) | (show (Addr.add _ _).block ≠ _; rw [add_block]; exact hn250_1) | exact hn250_1) (.int .i64 ((rd_T150 l0 x7_1).f1))).trans hx250_1; (try have hy250_0 := fun (n_ : Nat) => (show ((((w14.drewN n_).setCell ⟨gb247, 0, none⟩ (.int .i64 ((rd_T150 l0 x7_1).f0))).setCell ⟨gb247, 1, none⟩ (.int .i64 ((rd_T150 l0 x7_1).f1)))).cell? _ = some _ from hx250_0)); (try have hy250_1 := fun (n_ : Nat) => (show ((((w14.drewN n_).setCell ⟨gb247, 0, none⟩ (.int .i64 ((rd_T150 l0 x7_1).f0))).setCell ⟨gb247, 1, none⟩ (.int .i64 ((rd_T150 l0 x7_1).f1)))).cell? _ = some _ from hx250_1)); clear hn250_0; clear hn250_1; replace p250 := eq_true p250; replace q250 := eq_true q250)))
   go_ret
   exact ⟨by first | rfl | (simp [errW_none, errW_some] <;> rfl) | (simp only [← hji10]; first | rfl | (simp [errW_none, errW_some] <;> rfl)) | (simp [*, errW_none, errW_some] <;> rfl), BT HB.out⟩

/-! ### impl_Store_latest: function 176 -/
def impl_Store_latest.f (l0_0 : List (List (S76))) (a1 : Int) : Option (Int × Int × Int × Int × Int) := if 0 ≤ a1 then (if a1 < (l0_0.length : Int) then (if 0 ≤ (wrap64 (((rd_L6 l0_0 a1).length : Int) - 1)) then (if (wrap64 (((rd_L6 l0_0 a1).length : Int) - 1)) < ((rd_L6 l0_0 a1).length : Int) then (some ((rd_T76 (rd_L6 l0_0 a1) (wrap64 (((rd_L6 l0_0 a1).length : Int) - 1))).f0, (rd_T76 (rd_L6 l0_0 a1) (wrap64 (((rd_L6 l0_0 a1).length : Int) - 1))).f1, (rd_T76 (rd_L6 l0_0 a1) (wrap64 (((rd_L6 l0_0 a1).length : Int) - 1))).f2, (rd_T76 (rd_L6 l0_0 a1) (wrap64 (((rd_L6 l0_0 a1).length : Int) - 1))).f3, (rd_T76 (rd_L6 l0_0 a1) (wrap64 (((rd_L6 l0_0 a1).length : Int) - 1))).f4)) else (none)) else (none)) else (none)) else (none)
/-- Where the latest version of a key lies: known from the rows, at any world. -/
theorem impl_Store_latest_at {w : World} {A0_0 : Option Addr} {l0_0 : List (List (S76))} {a1 r1 r2 r3 r4 r5 : Int} (hr0_0 : Kd.C (Kd.slice 76 k76) w A0_0 l0_0.length l0_0) (h : impl_Store_latest.f l0_0 a1 = some (r1, r2, r3, r4, r5)) :
  0 ≤ a1 ∧ a1 < (l0_0.length : Int) ∧ 0 ≤ wrap64 (((rd_L6 l0_0 a1).length : Int) - 1) ∧ wrap64 (((rd_L6 l0_0 a1).length : Int) - 1) < ((rd_L6 l0_0 a1).length : Int) ∧ ∃ ad adI c, A0_0 = some ad ∧ w.cell? (ad.add (a1 : Int).toNat) = some (.slice (some adI) (rd_L6 l0_0 a1).length c) ∧ (rd_L6 l0_0 a1).length ≤ c ∧ w.cell? (adI.add ((wrap64 (((rd_L6 l0_0 a1).length : Int) - 1)).toNat * 5)) = some (.int .i64 r1) ∧ w.cell? ⟨(adI.add ((wrap64 (((rd_L6 l0_0 a1).length : Int) - 1)).toNat * 5)).block, (adI.add ((wrap64 (((rd_L6 l0_0 a1).length : Int) - 1)).toNat * 5)).off + 1, none⟩ = some (.int .i64 r2) ∧ w.cell? ⟨(adI.add ((wrap64 (((rd_L6 l0_0 a1).length : Int) - 1)).toNat * 5)).block, (adI.add ((wrap64 (((rd_L6 l0_0 a1).length : Int) - 1)).toNat * 5)).off + 2, none⟩ = some (.int .i64 r3) ∧ w.cell? ⟨(adI.add ((wrap64 (((rd_L6 l0_0 a1).length : Int) - 1)).toNat * 5)).block, (adI.add ((wrap64 (((rd_L6 l0_0 a1).length : Int) - 1)).toNat * 5)).off + 3, none⟩ = some (.int .i64 r4) ∧ w.cell? ⟨(adI.add ((wrap64 (((rd_L6 l0_0 a1).length : Int) - 1)).toNat * 5)).block, (adI.add ((wrap64 (((rd_L6 l0_0 a1).length : Int) - 1)).toNat * 5)).off + 4, none⟩ = some (.int .i64 r5) := by
 unfold impl_Store_latest.f at h
 by_cases c3 : 0 ≤ a1
 rotate_left
 ·rw [if_neg c3] at h; exact absurd h (by simp)
 rw [if_pos c3] at h
 by_cases c4 : a1 < (l0_0.length : Int)
 rotate_left
 ·rw [if_neg c4] at h; exact absurd h (by simp)
 rw [if_pos c4] at h
 by_cases c6 : 0 ≤ wrap64 (((rd_L6 l0_0 a1).length : Int) - 1)
 rotate_left
 ·rw [if_neg c6] at h; exact absurd h (by simp)
 rw [if_pos c6] at h
 by_cases c7 : wrap64 (((rd_L6 l0_0 a1).length : Int) - 1) < ((rd_L6 l0_0 a1).length : Int)
 rotate_left
 ·rw [if_neg c7] at h; exact absurd h (by simp)
 rw [if_pos c7] at h
 simp only [Option.some.injEq, Prod.mk.injEq] at h
 obtain ⟨rfl, rfl, rfl, rfl, rfl⟩ := h
 obtain ⟨ad, A1, c1, e1, hx, hl, hi⟩ := at_L6 hr0_0 a1 c3 c4
 obtain ⟨adI, e2, h0, h1, h2, h3, h4⟩ := at_T76 hi _ c6 c7
 subst e2
 exact ⟨c3, c4, c6, c7, ad, adI, c1, e1, hx, hl, h0, h1, h2, h3, h4⟩
set_option maxHeartbeats 8000000 in
set_option maxRecDepth 100000 in
theorem impl_Store_latest.calls (ad adI : Addr) (c c0_0 : Nat) (l0_0 : List (List (S76))) (a1 : Int) (w : World) (c3 : 0 ≤ a1) (c4 : a1 < (l0_0.length : Int)) (c6 : 0 ≤ wrap64 (((rd_L6 l0_0 a1).length : Int) - 1)) (c7 : wrap64 (((rd_L6 l0_0 a1).length : Int) - 1) < ((rd_L6 l0_0 a1).length : Int)) (hx : w.cell? (ad.add (a1 : Int).toNat) = some (.slice (some adI) (rd_L6 l0_0 a1).length c)) :
  Calls Try.prog 176 #[.agg #[.slice (some ad) l0_0.length c0_0], .int .i64 a1] w fun e w' => e = .returned (.pointer (some (adI.add ((wrap64 (((rd_L6 l0_0 a1).length : Int) - 1)).toNat * 5)))) ∧ Below w.heap.size w w' := by
 have hu49 := Try.underlying49
 have hu76 := Try.underlying76
 have HX := AM_ hx
 clear hx
 have HB := AM_ (Below.refl w.heap.size w)
 have c3b0 : decide (0 ≤ a1) = true := decide_eq_true c3
 have c4b0 : decide (a1 < (l0_0.length : Int)) = true := decide_eq_true c4
 obtain ⟨ji5, hji5⟩ : ∃ j_ : Int, (wrap64 (((rd_L6 l0_0 a1).length : Int) - 1)) = j_ := ⟨_, rfl⟩
 rw [hji5] at c6 c7
 have hji5w : (IntKind.i64.wrap (((rd_L6 l0_0 a1).length : Int) - 1)) = ji5 := (i64_w _).trans hji5
 have c6b0 : decide (0 ≤ (ji5)) = true := decide_eq_true c6
 have c7b0 : decide ((ji5) < ((rd_L6 l0_0 a1).length : Int)) = true := decide_eq_true c7
 rw [hji5]
 have p1 := eq_true c3
 have p2 := eq_true c4
 have p3 := eq_true c6
 have p4 := eq_true c7
 clear c3 c4 c6 c7
 go_enter Try.func176, Try.ntmps176
 go_wp2_with (first | ((with_reducible refine gate_dst (N := 2) rfl ?_); refine box_event ?hg (N := 2) ?hd (cs := #[.slice (some ad) l0_0.length c0_0]) (t := 49) ?hr ?_; (case hd => rfl); (case hg => rfl); (case hr => first | (go_simp; done) | (go_simp; rfl)); intro gb1 hg w8 hbox hb; have hcz9_0 : w8.cell? ⟨gb1, 0, none⟩ = some (.slice (some ad) l0_0.length c0_0) := (blk_cell hbox 0).trans rfl; have hx1 : w8.cell? (ad.add (a1 : Int).toNat) = some (.slice (some adI) (rd_L6 l0_0 a1).length c) := (hb.cell (World.block_lt_of_cell? w _ HX.out)).trans HX.out; replace HB := AM_ (below_step HB.out hb); clear hb hbox hg))
 go_ret
 exact ⟨by first | rfl | (simp [errW_none, errW_some] <;> rfl) | (simp only [← hji5]; first | rfl | (simp [errW_none, errW_some] <;> rfl)) | (simp [*, errW_none, errW_some] <;> rfl), BT HB.out⟩

/-! ### impl_LockOwner_1: function 213 -/
def impl_LockOwner_1.f (a0_0 : Int) (a0_1 : Int) (a1_0 : Int) : Option (Bool) := some (a0_0 == a1_0)
set_option maxHeartbeats 8000000 in
set_option maxRecDepth 100000 in
theorem impl_LockOwner_1.calls (a0_0 : Int) (a0_1 : Int) (gb1 : Nat) (a1_0 : Int) (r : Bool) (w : World) (hb1 : w.heap[gb1]? = some (.cells #[.int .i64 a1_0] 3 (0, 0))) (h : impl_LockOwner_1.f a0_0 a0_1 a1_0 = some r) :
  Calls Try.prog 213 #[.agg #[.int .i64 a0_0, .int .i64 a0_1], .pointer (some ⟨gb1, 0, none⟩)] w fun e w' => e = .returned (.bool r) ∧ Below w.heap.size w w' := by
 have hu150 := Try.underlying150
 have BK1 := AM_ hb1
 clear hb1
 have HB := AM_ (Below.refl w.heap.size w)
 have H : (some (a0_0 == a1_0)) = some r := h
 clear h
 obtain rfl := Option.some.inj H
 go_enter Try.func213, Try.ntmps213
 go_wp2_with (first | ((with_reducible refine gate_dst (N := 2) rfl ?_); refine box_event ?hg (N := 2) ?hd (cs := #[.int .i64 a0_0, .int .i64 a0_1]) (t := 150) ?hr ?_; (case hd => rfl); (case hg => rfl); (case hr => first | (go_simp; done) | (go_simp; rfl)); intro gb251 hg w3 hbox hb; have BK251 := AM_ (hbox); have GW251 := AM_ ((GS HB.out hg)); have GE251 := AM_ ((GS HB.out hg)); replace HB := AM_ (below_step (BT HB.out) hb); have NB1_251 := AM_ ((NL BK1.out hg)); have NB251_1 := AM_ ((NG BK1.out hg)); replace BK1 := AM_ (BB BK1.out hb); clear hb hbox hg; have hnb4 := NB251_1.out; have hnc4 := NB1_251.out; obtain ⟨hcz5_0, hcz5_1, hfz5_0, hfz5_1⟩ := bk2 BK251.out; obtain ⟨hcz6_0, hfz6_0⟩ := bk1 BK1.out))
 go_ret
 exact QT (BT HB.out)

/-! ### impl_Lock: function 198 -/
def impl_Lock.l0 : Nat → List (S150) → Int → Int → Int → Option (Int)
 | 0, _, _, _, _ => none
 | k + 1, x0, x7, x8, x31000 => if x8 < x7 then (if 0 ≤ x8 then (if x8 < (x0.length : Int) then ((impl_LockOwner_1.f ((rd_T150 x0 x8).f0) ((rd_T150 x0 x8).f1) x31000).bind fun t253 => (if t253 = true then (some x8) else (impl_Lock.l0 k x0 x7 (wrap64 (x8 + 1)) x31000))) else (none)) else (none)) else (some (-1))
def impl_Lock.f (k : Nat) (l0 : List (S150)) (a1_0_0 : Int) : Option (Int) := impl_Lock.l0 k l0 (l0.length : Int) 0 a1_0_0
theorem impl_Lock.mono_l : ∀ k, (∀ y0 y1 y2 y3, LeO (impl_Lock.l0 k y0 y1 y2 y3) (impl_Lock.l0 (k + 1) y0 y1 y2 y3))
 | 0 => fun _ _ _ _ r h => by simp [impl_Lock.l0] at h
 | k + 1 => by
  have ih0 := impl_Lock.mono_l k
  ·intro y0 y1 y2 y3
   unfold impl_Lock.l0
   repeat' first
   | (with_reducible exact ih0 _ _ _ _)
   | (with_reducible exact LeO.refl _)
   | (with_reducible exact LeO.none _)
   | (with_reducible refine LeO.ite ?_ ?_)
   | (with_reducible refine LeO.bind ?_ (fun _ => ?_))
   | exact ih0 _ _ _ _
   | exact LeO.none _
   | refine LeO.ite ?_ ?_
   | refine LeO.bind ?_ (fun _ => ?_)
theorem impl_Lock.mono : ∀ a0 a1 k, LeO (impl_Lock.f k a0 a1) (impl_Lock.f (k + 1) a0 a1) := by
 intro a0 a1 k
 have ih0 := impl_Lock.mono_l k
 unfold impl_Lock.f
 repeat' first
   | (with_reducible exact ih0 _ _ _ _)
   | (with_reducible exact LeO.refl _)
   | (with_reducible exact LeO.none _)
   | (with_reducible refine LeO.ite ?_ ?_)
   | (with_reducible refine LeO.bind ?_ (fun _ => ?_))
   | exact ih0 _ _ _ _
   | exact LeO.none _
   | refine LeO.ite ?_ ?_
   | refine LeO.bind ?_ (fun _ => ?_)
set_option maxHeartbeats 8000000 in
set_option maxRecDepth 100000 in
theorem impl_Lock.calls (k : Nat) (A0 : Option Addr) (c0 : Nat) (l0 : List (S150)) (gb30 : Nat) (a1_0_0 : Int) (r : Int) (w : World) (hr0 : Kd.C k150 w A0 l0.length l0) (hc0 : l0.length ≤ c0) (hb30 : w.heap[gb30]? = some (.cells #[.int .i64 a1_0_0] 3 (0, 0))) (h : impl_Lock.f k l0 a1_0_0 = some r) :
  Calls Try.prog 198 #[.slice A0 l0.length c0, .func (.func 213) #[] #[.pointer (some ⟨gb30, 0, none⟩)]] w fun e w' => e = .returned (.int .i64 r) ∧ Below w.heap.size w w' := by
 have hu150 := Try.underlying150
 have BK30 := AM_ hb30
 clear hb30
 have HR0 := AM_ hr0
 have HC0 := AM_ hc0
 clear hr0 hc0
 have HB := AM_ (Below.refl w.heap.size w)
 have H : (impl_Lock.l0 k l0 (l0.length : Int) 0 a1_0_0) = some r := h
 clear h
 have H' := AM_ H
 clear H
 go_enter Try.func198, Try.ntmps198
 go_wp2
 go_loopg [8] k (fun kq v8 w' => ∃ (x8_1 : Int), v8 = .int .i64 x8_1 ∧ Aside0 (impl_Lock.l0 kq l0 (l0.length : Int) x8_1 a1_0_0 = some r) ∧ Aside0 (kq ≤ k) ∧ Aside0 (w'.heap[gb30]? = some (.cells #[.int .i64 a1_0_0] 3 (0, 0))) ∧ Aside0 (Below w.heap.size w w'))
 case atStart => exact ⟨(0), (by first | rfl | (simp; done) | (simp [*]; done)), H', ⟨Nat.le_refl _⟩, ⟨BH BK30.out⟩, ⟨BT HB.out⟩⟩
 case round =>
  clear H'
  try clear c1
  try clear p2
  obtain ⟨x8_1, rfl, HA, HK1, BK30, HB⟩ := hrel
  cases gk with
  | zero => exact absurd HA.out (by simp [impl_Lock.l0])
  | succ k1 =>
   have H := HA.out
   clear HA
   simp only [impl_Lock.l0] at H
   by_cases c3 : x8_1 < (l0.length : Int)
   rotate_left
   ·rw [if_neg c3] at H
    have c3b0 : decide (x8_1 < (l0.length : Int)) = false := decide_eq_false c3
    clear c3
    obtain rfl := Option.some.inj H
    go_wp2
    go_ret
    exact QT (BT HB.out)
   rw [if_pos c3] at H
   have c3b0 : decide (x8_1 < (l0.length : Int)) = true := decide_eq_true c3
   clear c3
   by_cases c4 : 0 ≤ x8_1
   rotate_left
   ·rw [if_neg c4] at H
    exact absurd H (by simp)
   rw [if_pos c4] at H
   have c4b0 : decide (0 ≤ x8_1) = true := decide_eq_true c4
   clear c4
   by_cases c5 : x8_1 < (l0.length : Int)
   rotate_left
   ·rw [if_neg c5] at H
    exact absurd H (by simp)
   rw [if_pos c5] at H
   have c5b0 : decide (x8_1 < (l0.length : Int)) = true := decide_eq_true c5
   clear c5
   replace H := Option.bind_eq_some_iff.mp H
   obtain ⟨t253, A60, H⟩ := H
   replace H : (if t253 = true then (some x8_1) else (impl_Lock.l0 k1 l0 (l0.length : Int) (wrap64 (x8_1 + 1)) a1_0_0)) = some r := H
   have A6 := AM_ A60
   clear A60
   by_cases c7 : t253 = true
   ·subst c7
    have H1 : (some x8_1) = some r := by rw [if_pos rfl] at H; exact H
    clear H
    have H := H1
    clear H1
    obtain rfl := Option.some.inj H
    have p252 : 0 ≤ (x8_1 : Int) := DT
    have q252 : x8_1 < (l0.length : Int) := DT
    obtain ⟨ad252, e252, hx252_0, hx252_1⟩ := at_T150 HR0.out x8_1 p252 q252
    cases e252
    replace hx252_0 := BC HB.out hx252_0
    replace hx252_1 := BC HB.out hx252_1
    replace p252 := eq_true p252
    replace q252 := eq_true q252
    go_wp2_with (first | ((with_reducible refine gate_dst (N := 16) rfl ?_); refine goesF_ (some 16) rfl rfl Try.func213 (by kernel_rfl) rfl (lb := #[.pointer (some ⟨gb30, 0, none⟩)]) #[.agg #[.int .i64 ((rd_T150 l0 x8_1).f0), .int .i64 ((rd_T150 l0 x8_1).f1)], .pointer (some ⟨gb30, 0, none⟩)] rfl rfl (by (try simp only [List.map_toArray, List.map_cons, List.map_nil]); first | done | rfl) ?_; (with_reducible refine (impl_LockOwner_1.calls ((rd_T150 l0 x8_1).f0) ((rd_T150 l0 x8_1).f1) gb30 a1_0_0 true _ ?side1 A6.out).mono ?_); (case side1 => exact by (with_reducible repeat (first | refine blk_drewN ?_ _ | refine blk_drew ?_ | refine blk_alloc ?_ _)); exact BK30.out); rintro e w8 ⟨rfl, hb⟩; refine ⟨_, rfl, ?_⟩; replace BK30 := AM_ (BB BK30.out hb); replace HB := AM_ (below_step (BT HB.out) hb); (try clear hb); (try clear hb2); (try clear hk); (try clear hi)))
    go_ret
    exact QT (BT HB.out)
   replace c7 := Bool.eq_false_iff.mpr c7
   subst c7
   have H1 : (impl_Lock.l0 k1 l0 (l0.length : Int) (wrap64 (x8_1 + 1)) a1_0_0) = some r := by rw [if_neg (show ¬ (false = true) by decide)] at H; exact H
   clear H
   have H := H1
   clear H1
   have H' := AM_ H
   clear H
   have p252 : 0 ≤ (x8_1 : Int) := DT
   have q252 : x8_1 < (l0.length : Int) := DT
   obtain ⟨ad252, e252, hx252_0, hx252_1⟩ := at_T150 HR0.out x8_1 p252 q252
   cases e252
   replace hx252_0 := BC HB.out hx252_0
   replace hx252_1 := BC HB.out hx252_1
   replace p252 := eq_true p252
   replace q252 := eq_true q252
   go_wp2_with (first | ((with_reducible refine gate_dst (N := 16) rfl ?_); refine goesF_ (some 16) rfl rfl Try.func213 (by kernel_rfl) rfl (lb := #[.pointer (some ⟨gb30, 0, none⟩)]) #[.agg #[.int .i64 ((rd_T150 l0 x8_1).f0), .int .i64 ((rd_T150 l0 x8_1).f1)], .pointer (some ⟨gb30, 0, none⟩)] rfl rfl (by (try simp only [List.map_toArray, List.map_cons, List.map_nil]); first | done | rfl) ?_; (with_reducible refine (impl_LockOwner_1.calls ((rd_T150 l0 x8_1).f0) ((rd_T150 l0 x8_1).f1) gb30 a1_0_0 false _ ?side1 A6.out).mono ?_); (case side1 => exact by (with_reducible repeat (first | refine blk_drewN ?_ _ | refine blk_drew ?_ | refine blk_alloc ?_ _)); exact BK30.out); rintro e w9 ⟨rfl, hb⟩; refine ⟨_, rfl, ?_⟩; replace BK30 := AM_ (BB BK30.out hb); replace HB := AM_ (below_step (BT HB.out) hb); (try clear hb); (try clear hb2); (try clear hk); (try clear hi)))
   go_roundg k1
   case measure => have := HK1.out; omega
   case rel => exact ⟨(wrap64 (x8_1 + 1)), (by first | rfl | (simp; done) | (simp [*]; done)), H', ⟨by have := HK1.out; omega⟩, ⟨BH BK30.out⟩, ⟨BT HB.out⟩⟩

/-! ### impl_LockOwner: function 193 -/
def impl_LockOwner.f (k : Nat) (l0 : List (S150)) (a1 : Int) : Option (Int) := (impl_Lock.f k l0 a1).bind fun t255 => (if t255 < 0 then (some 0) else (if 0 ≤ t255 then (if t255 < (l0.length : Int) then (some ((rd_T150 l0 t255).f1)) else (none)) else (none)))
theorem impl_LockOwner.mono : ∀ a0 a1 k, LeO (impl_LockOwner.f k a0 a1) (impl_LockOwner.f (k + 1) a0 a1) := by
 intro a0 a1 k
 unfold impl_LockOwner.f
 repeat' first
   | (with_reducible exact impl_Lock.mono _ _ _)
   | (with_reducible exact LeO.refl _)
   | (with_reducible exact LeO.none _)
   | (with_reducible refine LeO.ite ?_ ?_)
   | (with_reducible refine LeO.bind ?_ (fun _ => ?_))
   | exact impl_Lock.mono _ _ _
   | exact LeO.none _
   | refine LeO.ite ?_ ?_
   | refine LeO.bind ?_ (fun _ => ?_)
set_option maxHeartbeats 8000000 in
set_option maxRecDepth 100000 in
theorem impl_LockOwner.calls (k : Nat) (A0 : Option Addr) (c0 : Nat) (l0 : List (S150)) (a1 : Int) (r : Int) (w : World) (hr0 : Kd.C k150 w A0 l0.length l0) (hc0 : l0.length ≤ c0) (h : impl_LockOwner.f k l0 a1 = some r) :
  Calls Try.prog 193 #[.slice A0 l0.length c0, .int .i64 a1] w fun e w' => e = .returned (.int .i64 r) ∧ Below w.heap.size w w' := by
 have HR0 := AM_ hr0
 have HC0 := AM_ hc0
 clear hr0 hc0
 have HB := AM_ (Below.refl w.heap.size w)
 have H : ((impl_Lock.f k l0 a1).bind fun t255 => (if t255 < 0 then (some 0) else (if 0 ≤ t255 then (if t255 < (l0.length : Int) then (some ((rd_T150 l0 t255).f1)) else (none)) else (none)))) = some r := h
 clear h
 replace H := Option.bind_eq_some_iff.mp H
 obtain ⟨t255, A30, H⟩ := H
 replace H : (if t255 < 0 then (some 0) else (if 0 ≤ t255 then (if t255 < (l0.length : Int) then (some ((rd_T150 l0 t255).f1)) else (none)) else (none))) = some r := H
 have A3 := AM_ A30
 clear A30
 by_cases c4 : t255 < 0
 ·rw [if_pos c4] at H
  have c4b0 : decide (t255 < 0) = true := decide_eq_true c4
  clear c4
  obtain rfl := Option.some.inj H
  go_enter Try.func193, Try.ntmps193
  go_wp2_with (first | ((with_reducible refine gate_dst (N := 3) rfl ?_); refine box_event ?hg (N := 3) ?hd (cs := #[.int .i64 a1]) (t := 3) ?hr ?_; (case hd => rfl); (case hg => rfl); (case hr => first | (go_simp; done) | (go_simp; rfl)); intro gb254 hg w5 hbox hb; have BK254 := AM_ (hbox); have GW254 := AM_ ((GS HB.out hg)); have GE254 := AM_ ((GS HB.out hg)); replace HB := AM_ (below_step (BT HB.out) hb); clear hb hbox hg) | ((with_reducible refine gate_callee (f := 198) rfl ?_); refine goesL_ (some 8) rfl rfl Try.func198 (by kernel_rfl) rfl #[.slice A0 l0.length c0, .func (.func 213) #[] #[.pointer (some ⟨gb254, 0, none⟩)]] rfl (by (try simp only [List.map_toArray, List.map_cons, List.map_nil]); first | done | rfl | (simp only [List.length_drop, List.length_take]; rfl)) ?_; (with_reducible refine (impl_Lock.calls k _ _ l0 gb254 a1 t255 _ ?side1 ?side2 ?side3 A3.out).mono ?_); (case side1 => exact CB HR0.out HB.out); (case side2 => exact HC0.out); (case side3 => exact by (with_reducible repeat (first | refine blk_drewN ?_ _ | refine blk_drew ?_ | refine blk_alloc ?_ _)); exact BK254.out); rintro e w6 ⟨rfl, hb⟩; refine ⟨_, rfl, ?_⟩; replace BK254 := AM_ (BB BK254.out hb); replace HB := AM_ (below_step (BT HB.out) hb); (try clear hb); (try clear hb2); (try clear hk); (try clear hi)))
  go_ret
  exact QT (BT HB.out)
 rw [if_neg c4] at H
 have c4b0 : decide (t255 < 0) = false := decide_eq_false c4
 clear c4
 by_cases c7 : 0 ≤ t255
 rotate_left
 ·rw [if_neg c7] at H
  exact absurd H (by simp)
 rw [if_pos c7] at H
 have c7b0 : decide (0 ≤ t255) = true := decide_eq_true c7
 clear c7
 by_cases c8 : t255 < (l0.length : Int)
 rotate_left
 ·rw [if_neg c8] at H
  exact absurd H (by simp)
 rw [if_pos c8] at H
 have c8b0 : decide (t255 < (l0.length : Int)) = true := decide_eq_true c8
 clear c8
 obtain rfl := Option.some.inj H
 go_enter Try.func193, Try.ntmps193
 go_wp2_with (first | ((with_reducible refine gate_dst (N := 3) rfl ?_); refine box_event ?hg (N := 3) ?hd (cs := #[.int .i64 a1]) (t := 3) ?hr ?_; (case hd => rfl); (case hg => rfl); (case hr => first | (go_simp; done) | (go_simp; rfl)); intro gb254 hg w9 hbox hb; have BK254 := AM_ (hbox); have GW254 := AM_ ((GS HB.out hg)); have GE254 := AM_ ((GS HB.out hg)); replace HB := AM_ (below_step (BT HB.out) hb); clear hb hbox hg) | ((with_reducible refine gate_callee (f := 198) rfl ?_); refine goesL_ (some 8) rfl rfl Try.func198 (by kernel_rfl) rfl #[.slice A0 l0.length c0, .func (.func 213) #[] #[.pointer (some ⟨gb254, 0, none⟩)]] rfl (by (try simp only [List.map_toArray, List.map_cons, List.map_nil]); first | done | rfl | (simp only [List.length_drop, List.length_take]; rfl)) ?_; (with_reducible refine (impl_Lock.calls k _ _ l0 gb254 a1 t255 _ ?side1 ?side2 ?side3 A3.out).mono ?_); (case side1 => exact CB HR0.out HB.out); (case side2 => exact HC0.out); (case side3 => exact by (with_reducible repeat (first | refine blk_drewN ?_ _ | refine blk_drew ?_ | refine blk_alloc ?_ _)); exact BK254.out); rintro e w10 ⟨rfl, hb⟩; refine ⟨_, rfl, ?_⟩; replace BK254 := AM_ (BB BK254.out hb); replace HB := AM_ (below_step (BT HB.out) hb); (try clear hb); (try clear hb2); (try clear hk); (try clear hi); have p256 : 0 ≤ (t255 : Int) := DT; have q256 : t255 < (l0.length : Int) := DT; obtain ⟨ad256, e256, hx256_0, hx256_1⟩ := at_T150 HR0.out t255 p256 q256; cases e256; replace hx256_0 := BD HB.out hx256_0; replace hx256_1 := BD HB.out hx256_1; replace p256 := eq_true p256; replace q256 := eq_true q256))
 go_ret
 exact QT (BT HB.out)

end Go.Proofs.Ytakpkmlbklahhaa.PFnExactWriteCode
