-- Printed by a program of mine (wip/myprint.py), which runs the printer of the kit with contracts of mine beside it.
import Derived.Test.YtakpkmlbklahhaaPFnExactEqualEnginesx0
import Derived.Test.YtakpkmlbklahhaaPFnExactEqualEnginesx12
namespace Go.Proofs.Ytakpkmlbklahhaa.PFnExactEqualEngines
open Go.RowKit Go.Proofs.YtakpkmlbklahhaaW.PrintWords Go.Proofs.YtakpkmlbklahhaaW.PrintLast Go.Proofs.YtakpkmlbklahhaaW.PrintMore
attribute [local go_sem] max2_int min2_int max_two min_two max_three min_three max_four min_four   -- for this text's walks alone
set_option linter.unusedVariables false
set_option linter.unusedSimpArgs false

/-! ### spec_EqualStores: function 122 -/
def spec_EqualStores.l0 : Nat → Int → List (List (S76)) → List (List (S76)) → Option (Bool)
 | 0, _, _, _ => none
 | k + 1, x5, x271000, x272000 => if x5 < (x271000.length : Int) then (if 0 ≤ x5 then (if x5 < (x272000.length : Int) then ((spec_EqualChains.f k (rd_L11 x271000 x5) (rd_L11 x272000 x5)).bind fun t274 => (if t274 = true then (spec_EqualStores.l0 k (wrap64 (x5 + 1)) x271000 x272000) else (some false))) else (none)) else (none)) else (some true)
def spec_EqualStores.f (k : Nat) (l0_0 : List (List (S76))) (l1_0 : List (List (S76))) : Option (Bool) := if (l0_0.length : Int) = (l1_0.length : Int) then (spec_EqualStores.l0 k 0 l0_0 l1_0) else (some false)
theorem spec_EqualStores.mono_l : ∀ k, (∀ y0 y1 y2, LeO (spec_EqualStores.l0 k y0 y1 y2) (spec_EqualStores.l0 (k + 1) y0 y1 y2))
 | 0 => fun _ _ _ r h => by simp [spec_EqualStores.l0] at h
 | k + 1 => by
  have ih0 := spec_EqualStores.mono_l k
  ·intro y0 y1 y2
   unfold spec_EqualStores.l0
   repeat' first
   | (with_reducible exact ih0 _ _ _)
   | (with_reducible exact spec_EqualChains.mono _ _ _)
   | (with_reducible exact LeO.refl _)
   | (with_reducible exact LeO.none _)
   | (with_reducible refine LeO.ite ?_ ?_)
   | (with_reducible refine LeO.bind ?_ (fun _ => ?_))
   | exact ih0 _ _ _
   | exact spec_EqualChains.mono _ _ _
   | exact LeO.none _
   | refine LeO.ite ?_ ?_
   | refine LeO.bind ?_ (fun _ => ?_)
theorem spec_EqualStores.mono : ∀ a0 a1 k, LeO (spec_EqualStores.f k a0 a1) (spec_EqualStores.f (k + 1) a0 a1) := by
 intro a0 a1 k
 have ih0 := spec_EqualStores.mono_l k
 unfold spec_EqualStores.f
 repeat' first
   | (with_reducible exact ih0 _ _ _)
   | (with_reducible exact spec_EqualChains.mono _ _ _)
   | (with_reducible exact LeO.refl _)
   | (with_reducible exact LeO.none _)
   | (with_reducible refine LeO.ite ?_ ?_)
   | (with_reducible refine LeO.bind ?_ (fun _ => ?_))
   | exact ih0 _ _ _
   | exact spec_EqualChains.mono _ _ _
   | exact LeO.none _
   | refine LeO.ite ?_ ?_
   | refine LeO.bind ?_ (fun _ => ?_)
set_option maxHeartbeats 8000000 in
set_option maxRecDepth 100000 in
theorem spec_EqualStores.calls (k : Nat) (A0_0 : Option Addr) (c0_0 : Nat) (l0_0 : List (List (S76))) (A1_0 : Option Addr) (c1_0 : Nat) (l1_0 : List (List (S76))) (r : Bool) (w : World) (hr0_0 : Kd.C (Kd.slice 76 k76) w A0_0 l0_0.length l0_0) (hc0_0 : l0_0.length ≤ c0_0) (hr1_0 : Kd.C (Kd.slice 76 k76) w A1_0 l1_0.length l1_0) (hc1_0 : l1_0.length ≤ c1_0) (h : spec_EqualStores.f k l0_0 l1_0 = some r) :
  Calls Try.prog 122 #[.agg #[.slice A0_0 l0_0.length c0_0], .agg #[.slice A1_0 l1_0.length c1_0]] w fun e w' => e = .returned (.bool r) ∧ Below w.heap.size w w' := by
 have hu49 := Try.underlying49
 have HR0_0 := AM_ hr0_0
 have HC0_0 := AM_ hc0_0
 clear hr0_0 hc0_0
 have HR1_0 := AM_ hr1_0
 have HC1_0 := AM_ hc1_0
 clear hr1_0 hc1_0
 have HB := AM_ (Below.refl w.heap.size w)
 have H : (if (l0_0.length : Int) = (l1_0.length : Int) then (spec_EqualStores.l0 k 0 l0_0 l1_0) else (some false)) = some r := h
 clear h
 by_cases c3 : (l0_0.length : Int) = (l1_0.length : Int)
 rotate_left
 ·rw [if_neg c3] at H
  have c3b0 : ((l0_0.length : Int) == (l1_0.length : Int)) = false := beq_eq_false_iff_ne.mpr c3
  have c3b1 : ((l0_0.length : Int) != (l1_0.length : Int)) = true := bne_iff_ne.mpr c3
  have c3b2 : (l0_0.length == l1_0.length) = false := by first | simpa using c3 | (simp at c3 ⊢; omega)
  obtain rfl := Option.some.inj H
  go_enter Try.func122, Try.ntmps122
  go_wp2_with (first | ((with_reducible refine gate_dst (N := 2) rfl ?_); refine box_event ?hg (N := 2) ?hd (cs := #[.slice A0_0 l0_0.length c0_0]) (t := 49) ?hr ?_; (case hd => rfl); (case hg => rfl); (case hr => first | (go_simp; done) | (go_simp; rfl)); intro gb270 hg w22 hbox hb; have BK270 := AM_ (hbox); have GW270 := AM_ ((GS HB.out hg)); have GE270 := AM_ ((GS HB.out hg)); replace HB := AM_ (below_step (BT HB.out) hb); clear hb hbox hg) | ((with_reducible refine gate_dst (N := 3) rfl ?_); refine box_event ?hg (N := 3) ?hd (cs := #[.slice A1_0 l1_0.length c1_0]) (t := 49) ?hr ?_; (case hd => rfl); (case hg => rfl); (case hr => first | (go_simp; done) | (go_simp; rfl)); intro gb271 hg w23 hbox hb; have BK271 := AM_ (hbox); have GW271 := AM_ ((GS HB.out hg)); have GE271 := AM_ ((GS HB.out hg)); replace HB := AM_ (below_step (BT HB.out) hb); have NB270_271 := AM_ ((NL BK270.out hg)); have NB271_270 := AM_ ((NG BK270.out hg)); replace BK270 := AM_ (BB BK270.out hb); clear hb hbox hg; have hnb24 := NB270_271.out; have hnc24 := NB271_270.out; obtain ⟨hcz25_0, hfz25_0⟩ := bk1 BK270.out; obtain ⟨hcz26_0, hfz26_0⟩ := bk1 BK271.out))
  repeat (go_quiet (first | ((with_reducible refine gate_dst (N := 2) rfl ?_); refine box_event ?hg (N := 2) ?hd (cs := #[.slice A0_0 l0_0.length c0_0]) (t := 49) ?hr ?_; (case hd => rfl); (case hg => rfl); (case hr => first | (go_simp; done) | (go_simp; rfl)); intro gb270 hg w22 hbox hb; have BK270 := AM_ (hbox); have GW270 := AM_ ((GS HB.out hg)); have GE270 := AM_ ((GS HB.out hg)); replace HB := AM_ (below_step (BT HB.out) hb); clear hb hbox hg) | ((with_reducible refine gate_dst (N := 3) rfl ?_); refine box_event ?hg (N := 3) ?hd (cs := #[.slice A1_0 l1_0.length c1_0]) (t := 49) ?hr ?_; (case hd => rfl); (case hg => rfl); (case hr => first | (go_simp; done) | (go_simp; rfl)); intro gb271 hg w23 hbox hb; have BK271 := AM_ (hbox); have GW271 := AM_ ((GS HB.out hg)); have GE271 := AM_ ((GS HB.out hg)); replace HB := AM_ (below_step (BT HB.out) hb); have NB270_271 := AM_ ((NL BK270.out hg)); have NB271_270 := AM_ ((NG BK270.out hg)); replace BK270 := AM_ (BB BK270.out hb); clear hb hbox hg; have hnb24 := NB270_271.out; have hnc24 := NB271_270.out; obtain ⟨hcz25_0, hfz25_0⟩ := bk1 BK270.out; obtain ⟨hcz26_0, hfz26_0⟩ := bk1 BK271.out)); try go_wp2_with (first | ((with_reducible refine gate_dst (N := 2) rfl ?_); refine box_event ?hg (N := 2) ?hd (cs := #[.slice A0_0 l0_0.length c0_0]) (t := 49) ?hr ?_; (case hd => rfl); (case hg => rfl); (case hr => first | (go_simp; done) | (go_simp; rfl)); intro gb270 hg w22 hbox hb; have BK270 := AM_ (hbox); have GW270 := AM_ ((GS HB.out hg)); have GE270 := AM_ ((GS HB.out hg)); replace HB := AM_ (below_step (BT HB.out) hb); clear hb hbox hg) | ((with_reducible refine gate_dst (N := 3) rfl ?_); refine box_event ?hg (N := 3) ?hd (cs := #[.slice A1_0 l1_0.length c1_0]) (t := 49) ?hr ?_; (case hd => rfl); (case hg => rfl); (case hr => first | (go_simp; done) | (go_simp; rfl)); intro gb271 hg w23 hbox hb; have BK271 := AM_ (hbox); have GW271 := AM_ ((GS HB.out hg)); have GE271 := AM_ ((GS HB.out hg)); replace HB := AM_ (below_step (BT HB.out) hb); have NB270_271 := AM_ ((NL BK270.out hg)); have NB271_270 := AM_ ((NG BK270.out hg)); replace BK270 := AM_ (BB BK270.out hb); clear hb hbox hg; have hnb24 := NB270_271.out; have hnc24 := NB271_270.out; obtain ⟨hcz25_0, hfz25_0⟩ := bk1 BK270.out; obtain ⟨hcz26_0, hfz26_0⟩ := bk1 BK271.out)))
  go_ret
  exact QT (BT HB.out)
 rw [if_pos c3] at H
 have c3b0 : ((l0_0.length : Int) == (l1_0.length : Int)) = true := beq_iff_eq.mpr c3
 have c3b1 : ((l0_0.length : Int) != (l1_0.length : Int)) = false := bne_eq_false_iff_eq.mpr c3
 have c3b2 : (l0_0.length == l1_0.length) = true := by first | simpa using c3 | (simp at c3 ⊢; omega)
 clear c3
 have H' := AM_ H
 clear H
 go_enter Try.func122, Try.ntmps122
 go_wp2_with (first | ((with_reducible refine gate_dst (N := 2) rfl ?_); refine box_event ?hg (N := 2) ?hd (cs := #[.slice A0_0 l0_0.length c0_0]) (t := 49) ?hr ?_; (case hd => rfl); (case hg => rfl); (case hr => first | (go_simp; done) | (go_simp; rfl)); intro gb270 hg w4 hbox hb; have BK270 := AM_ (hbox); have GW270 := AM_ ((GS HB.out hg)); have GE270 := AM_ ((GS HB.out hg)); replace HB := AM_ (below_step (BT HB.out) hb); clear hb hbox hg) | ((with_reducible refine gate_dst (N := 3) rfl ?_); refine box_event ?hg (N := 3) ?hd (cs := #[.slice A1_0 l1_0.length c1_0]) (t := 49) ?hr ?_; (case hd => rfl); (case hg => rfl); (case hr => first | (go_simp; done) | (go_simp; rfl)); intro gb271 hg w5 hbox hb; have BK271 := AM_ (hbox); have GW271 := AM_ ((GS HB.out hg)); have GE271 := AM_ ((GS HB.out hg)); replace HB := AM_ (below_step (BT HB.out) hb); have NB270_271 := AM_ ((NL BK270.out hg)); have NB271_270 := AM_ ((NG BK270.out hg)); replace BK270 := AM_ (BB BK270.out hb); clear hb hbox hg; have hnb6 := NB270_271.out; have hnc6 := NB271_270.out; obtain ⟨hcz7_0, hfz7_0⟩ := bk1 BK270.out; obtain ⟨hcz8_0, hfz8_0⟩ := bk1 BK271.out))
 repeat (go_quiet (first | ((with_reducible refine gate_dst (N := 2) rfl ?_); refine box_event ?hg (N := 2) ?hd (cs := #[.slice A0_0 l0_0.length c0_0]) (t := 49) ?hr ?_; (case hd => rfl); (case hg => rfl); (case hr => first | (go_simp; done) | (go_simp; rfl)); intro gb270 hg w4 hbox hb; have BK270 := AM_ (hbox); have GW270 := AM_ ((GS HB.out hg)); have GE270 := AM_ ((GS HB.out hg)); replace HB := AM_ (below_step (BT HB.out) hb); clear hb hbox hg) | ((with_reducible refine gate_dst (N := 3) rfl ?_); refine box_event ?hg (N := 3) ?hd (cs := #[.slice A1_0 l1_0.length c1_0]) (t := 49) ?hr ?_; (case hd => rfl); (case hg => rfl); (case hr => first | (go_simp; done) | (go_simp; rfl)); intro gb271 hg w5 hbox hb; have BK271 := AM_ (hbox); have GW271 := AM_ ((GS HB.out hg)); have GE271 := AM_ ((GS HB.out hg)); replace HB := AM_ (below_step (BT HB.out) hb); have NB270_271 := AM_ ((NL BK270.out hg)); have NB271_270 := AM_ ((NG BK270.out hg)); replace BK270 := AM_ (BB BK270.out hb); clear hb hbox hg; have hnb6 := NB270_271.out; have hnc6 := NB271_270.out; obtain ⟨hcz7_0, hfz7_0⟩ := bk1 BK270.out; obtain ⟨hcz8_0, hfz8_0⟩ := bk1 BK271.out)); try go_wp2_with (first | ((with_reducible refine gate_dst (N := 2) rfl ?_); refine box_event ?hg (N := 2) ?hd (cs := #[.slice A0_0 l0_0.length c0_0]) (t := 49) ?hr ?_; (case hd => rfl); (case hg => rfl); (case hr => first | (go_simp; done) | (go_simp; rfl)); intro gb270 hg w4 hbox hb; have BK270 := AM_ (hbox); have GW270 := AM_ ((GS HB.out hg)); have GE270 := AM_ ((GS HB.out hg)); replace HB := AM_ (below_step (BT HB.out) hb); clear hb hbox hg) | ((with_reducible refine gate_dst (N := 3) rfl ?_); refine box_event ?hg (N := 3) ?hd (cs := #[.slice A1_0 l1_0.length c1_0]) (t := 49) ?hr ?_; (case hd => rfl); (case hg => rfl); (case hr => first | (go_simp; done) | (go_simp; rfl)); intro gb271 hg w5 hbox hb; have BK271 := AM_ (hbox); have GW271 := AM_ ((GS HB.out hg)); have GE271 := AM_ ((GS HB.out hg)); replace HB := AM_ (below_step (BT HB.out) hb); have NB270_271 := AM_ ((NL BK270.out hg)); have NB271_270 := AM_ ((NG BK270.out hg)); replace BK270 := AM_ (BB BK270.out hb); clear hb hbox hg; have hnb6 := NB270_271.out; have hnc6 := NB271_270.out; obtain ⟨hcz7_0, hfz7_0⟩ := bk1 BK270.out; obtain ⟨hcz8_0, hfz8_0⟩ := bk1 BK271.out)))
 go_loopg [5] k (fun kq v5 w' => ∃ (x5_1 : Int), v5 = .int .i64 x5_1 ∧ Aside0 (spec_EqualStores.l0 kq x5_1 l0_0 l1_0 = some r) ∧ Aside0 (kq ≤ k) ∧ Aside0 (w'.heap[gb270]? = some (.cells #[(.slice A0_0 l0_0.length c0_0)] 49 (0, 0))) ∧ Aside0 (w'.heap[gb271]? = some (.cells #[(.slice A1_0 l1_0.length c1_0)] 49 (0, 0))) ∧ Aside0 (Below w.heap.size w w'))
 case atStart => exact ⟨(0), (by first | rfl | (simp; done) | (simp [*]; done)), H', ⟨Nat.le_refl _⟩, ⟨BH BK270.out⟩, ⟨BH BK271.out⟩, ⟨BT HB.out⟩⟩
 case round =>
  clear H'
  try clear c1
  try clear p2
  try clear c3
  try clear c3b0
  try clear c3b1
  try clear c3b2
  try clear c6
  try clear hcz7_0
  try clear hcz8_0
  try clear hfz7_0
  try clear hfz8_0
  obtain ⟨x5_1, rfl, HA, HK1, BK270, BK271, HB⟩ := hrel
  cases gk with
  | zero => exact absurd HA.out (by simp [spec_EqualStores.l0])
  | succ k1 =>
   have H := HA.out
   clear HA
   simp only [spec_EqualStores.l0] at H
   by_cases c9 : x5_1 < (l0_0.length : Int)
   rotate_left
   ·rw [if_neg c9] at H
    have c9b0 : decide (x5_1 < (l0_0.length : Int)) = false := decide_eq_false c9
    clear c9
    obtain rfl := Option.some.inj H
    have hnb20 := NB270_271.out
    have hnc20 := NB271_270.out
    obtain ⟨hcz21_0, hfz21_0⟩ := bk1 BK270.out
    go_wp2
    repeat (go_quiet (fail); try go_wp2)
    go_ret
    exact QT (BT HB.out)
   rw [if_pos c9] at H
   have c9b0 : decide (x5_1 < (l0_0.length : Int)) = true := decide_eq_true c9
   clear c9
   by_cases c10 : 0 ≤ x5_1
   rotate_left
   ·rw [if_neg c10] at H
    exact absurd H (by simp)
   rw [if_pos c10] at H
   have c10b0 : decide (0 ≤ x5_1) = true := decide_eq_true c10
   clear c10
   by_cases c11 : x5_1 < (l1_0.length : Int)
   rotate_left
   ·rw [if_neg c11] at H
    exact absurd H (by simp)
   rw [if_pos c11] at H
   have c11b0 : decide (x5_1 < (l1_0.length : Int)) = true := decide_eq_true c11
   clear c11
   replace H := Option.bind_eq_some_iff.mp H
   obtain ⟨t274, A120, H⟩ := H
   replace H : (if t274 = true then (spec_EqualStores.l0 k1 (wrap64 (x5_1 + 1)) l0_0 l1_0) else (some false)) = some r := H
   have A12 := AM_ A120
   clear A120
   by_cases c13 : t274 = true
   rotate_left
   ·replace c13 := Bool.eq_false_iff.mpr c13
    subst c13
    have H1 : (some false) = some r := by rw [if_neg (show ¬ (false = true) by decide)] at H; exact H
    clear H
    have H := H1
    clear H1
    obtain rfl := Option.some.inj H
    have hnb17 := NB270_271.out
    have hnc17 := NB271_270.out
    obtain ⟨hcz18_0, hfz18_0⟩ := bk1 BK270.out
    have p272 : 0 ≤ (x5_1 : Int) := DT
    have q272 : x5_1 < (l0_0.length : Int) := DT
    obtain ⟨ad272, A272_0, c272_0, e272, hx272_0, hl272_0, hi272_0⟩ := at_L11 HR0_0.out x5_1 p272 q272
    cases e272
    replace hx272_0 := BC HB.out hx272_0
    have HR272_0 := AM_ hi272_0
    have HC272_0 := AM_ hl272_0
    clear hi272_0 hl272_0
    replace p272 := eq_true p272
    replace q272 := eq_true q272
    obtain ⟨hcz19_0, hfz19_0⟩ := bk1 BK271.out
    have p273 : 0 ≤ (x5_1 : Int) := DT
    have q273 : x5_1 < (l1_0.length : Int) := DT
    obtain ⟨ad273, A273_0, c273_0, e273, hx273_0, hl273_0, hi273_0⟩ := at_L11 HR1_0.out x5_1 p273 q273
    cases e273
    replace hx273_0 := BC HB.out hx273_0
    have HR273_0 := AM_ hi273_0
    have HC273_0 := AM_ hl273_0
    clear hi273_0 hl273_0
    replace p273 := eq_true p273
    replace q273 := eq_true q273
    go_wp2_with (first | (go_at_call 184; (with_reducible refine (spec_EqualChains.calls k1 _ _ (rd_L11 l0_0 x5_1) _ _ (rd_L11 l1_0 x5_1) false _ ?side1 ?side2 ?side3 ?side4 A12.out).mono ?_); (case side1 => exact CB HR272_0.out HB.out); (case side2 => exact HC272_0.out); (case side3 => exact CB HR273_0.out HB.out); (case side4 => exact HC273_0.out); rintro e w' ⟨rfl, ⟨nd, rfl⟩⟩; (try first | exact ⟨rfl, _, World.drewN_drewN _ _ _⟩ | exact ⟨rfl, _, Eq.trans (World.drewN_drewN _ _ _) (congrArg (World.drewN _) (Nat.add_assoc _ _ _))⟩)))
    repeat (go_quiet (first | (go_at_call 184; (with_reducible refine (spec_EqualChains.calls k1 _ _ (rd_L11 l0_0 x5_1) _ _ (rd_L11 l1_0 x5_1) false _ ?side1 ?side2 ?side3 ?side4 A12.out).mono ?_); (case side1 => exact CB HR272_0.out HB.out); (case side2 => exact HC272_0.out); (case side3 => exact CB HR273_0.out HB.out); (case side4 => exact HC273_0.out); rintro e w' ⟨rfl, ⟨nd, rfl⟩⟩; (try first | exact ⟨rfl, _, World.drewN_drewN _ _ _⟩ | exact ⟨rfl, _, Eq.trans (World.drewN_drewN _ _ _) (congrArg (World.drewN _) (Nat.add_assoc _ _ _))⟩))); try go_wp2_with (first | (go_at_call 184; (with_reducible refine (spec_EqualChains.calls k1 _ _ (rd_L11 l0_0 x5_1) _ _ (rd_L11 l1_0 x5_1) false _ ?side1 ?side2 ?side3 ?side4 A12.out).mono ?_); (case side1 => exact CB HR272_0.out HB.out); (case side2 => exact HC272_0.out); (case side3 => exact CB HR273_0.out HB.out); (case side4 => exact HC273_0.out); rintro e w' ⟨rfl, ⟨nd, rfl⟩⟩; (try first | exact ⟨rfl, _, World.drewN_drewN _ _ _⟩ | exact ⟨rfl, _, Eq.trans (World.drewN_drewN _ _ _) (congrArg (World.drewN _) (Nat.add_assoc _ _ _))⟩))))
    go_ret
    exact QT (BT HB.out)
   subst c13
   have H1 : (spec_EqualStores.l0 k1 (wrap64 (x5_1 + 1)) l0_0 l1_0) = some r := by rw [if_pos rfl] at H; exact H
   clear H
   have H := H1
   clear H1
   have H' := AM_ H
   clear H
   have hnb14 := NB270_271.out
   have hnc14 := NB271_270.out
   obtain ⟨hcz15_0, hfz15_0⟩ := bk1 BK270.out
   have p272 : 0 ≤ (x5_1 : Int) := DT
   have q272 : x5_1 < (l0_0.length : Int) := DT
   obtain ⟨ad272, A272_0, c272_0, e272, hx272_0, hl272_0, hi272_0⟩ := at_L11 HR0_0.out x5_1 p272 q272
   cases e272
   replace hx272_0 := BC HB.out hx272_0
   have HR272_0 := AM_ hi272_0
   have HC272_0 := AM_ hl272_0
   clear hi272_0 hl272_0
   replace p272 := eq_true p272
   replace q272 := eq_true q272
   obtain ⟨hcz16_0, hfz16_0⟩ := bk1 BK271.out
   have p273 : 0 ≤ (x5_1 : Int) := DT
   have q273 : x5_1 < (l1_0.length : Int) := DT
   obtain ⟨ad273, A273_0, c273_0, e273, hx273_0, hl273_0, hi273_0⟩ := at_L11 HR1_0.out x5_1 p273 q273
   cases e273
   replace hx273_0 := BC HB.out hx273_0
   have HR273_0 := AM_ hi273_0
   have HC273_0 := AM_ hl273_0
   clear hi273_0 hl273_0
   replace p273 := eq_true p273
   replace q273 := eq_true q273
   go_wp2_with (first | (go_at_call 184; (with_reducible refine (spec_EqualChains.calls k1 _ _ (rd_L11 l0_0 x5_1) _ _ (rd_L11 l1_0 x5_1) true _ ?side1 ?side2 ?side3 ?side4 A12.out).mono ?_); (case side1 => exact CB HR272_0.out HB.out); (case side2 => exact HC272_0.out); (case side3 => exact CB HR273_0.out HB.out); (case side4 => exact HC273_0.out); rintro e w' ⟨rfl, ⟨nd, rfl⟩⟩; (try first | exact ⟨rfl, _, World.drewN_drewN _ _ _⟩ | exact ⟨rfl, _, Eq.trans (World.drewN_drewN _ _ _) (congrArg (World.drewN _) (Nat.add_assoc _ _ _))⟩)))
   repeat (go_quiet (first | (go_at_call 184; (with_reducible refine (spec_EqualChains.calls k1 _ _ (rd_L11 l0_0 x5_1) _ _ (rd_L11 l1_0 x5_1) true _ ?side1 ?side2 ?side3 ?side4 A12.out).mono ?_); (case side1 => exact CB HR272_0.out HB.out); (case side2 => exact HC272_0.out); (case side3 => exact CB HR273_0.out HB.out); (case side4 => exact HC273_0.out); rintro e w' ⟨rfl, ⟨nd, rfl⟩⟩; (try first | exact ⟨rfl, _, World.drewN_drewN _ _ _⟩ | exact ⟨rfl, _, Eq.trans (World.drewN_drewN _ _ _) (congrArg (World.drewN _) (Nat.add_assoc _ _ _))⟩))); try go_wp2_with (first | (go_at_call 184; (with_reducible refine (spec_EqualChains.calls k1 _ _ (rd_L11 l0_0 x5_1) _ _ (rd_L11 l1_0 x5_1) true _ ?side1 ?side2 ?side3 ?side4 A12.out).mono ?_); (case side1 => exact CB HR272_0.out HB.out); (case side2 => exact HC272_0.out); (case side3 => exact CB HR273_0.out HB.out); (case side4 => exact HC273_0.out); rintro e w' ⟨rfl, ⟨nd, rfl⟩⟩; (try first | exact ⟨rfl, _, World.drewN_drewN _ _ _⟩ | exact ⟨rfl, _, Eq.trans (World.drewN_drewN _ _ _) (congrArg (World.drewN _) (Nat.add_assoc _ _ _))⟩))))
   go_roundg k1
   case measure => have := HK1.out; omega
   case rel => exact ⟨(wrap64 (x5_1 + 1)), (by first | rfl | (simp; done) | (simp [*]; done)), H', ⟨by have := HK1.out; omega⟩, ⟨BH BK270.out⟩, ⟨BH BK271.out⟩, ⟨BT HB.out⟩⟩

end Go.Proofs.Ytakpkmlbklahhaa.PFnExactEqualEngines
