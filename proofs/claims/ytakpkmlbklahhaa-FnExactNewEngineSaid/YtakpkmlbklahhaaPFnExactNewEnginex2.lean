-- Printed by a program of mine (wip/myprint.py), which runs the printer of the kit with contracts of mine beside it.
import Derived.Test.YtakpkmlbklahhaaPFnExactNewEnginex0
import Derived.Test.YtakpkmlbklahhaaPFnExactNewEnginex1
namespace Go.Proofs.Ytakpkmlbklahhaa.PFnExactNewEngine
open Go.RowKit Go.Proofs.YtakpkmlbklahhaaW.PrintWords Go.Proofs.YtakpkmlbklahhaaW.PrintLast Go.Proofs.YtakpkmlbklahhaaW.PrintMore
attribute [local go_sem] max2_int min2_int max_two min_two max_three min_three max_four min_four   -- for this text's walks alone
set_option linter.unusedVariables false
set_option linter.unusedSimpArgs false

/-! ### laws_eqStore: function 38 -/
def laws_eqStore.f (k : Nat) (l0_0 : List (List (S76))) (l1_0 : List (List (S76))) : Option (Bool) := (laws_eqVersionSS.f k l0_0 l1_0).bind fun t111 => (if t111 = true then (some true) else (some false))
theorem laws_eqStore.mono : ∀ a0 a1 k, LeO (laws_eqStore.f k a0 a1) (laws_eqStore.f (k + 1) a0 a1) := by
 intro a0 a1 k
 unfold laws_eqStore.f
 repeat' first
   | (with_reducible exact laws_eqVersionSS.mono _ _ _)
   | (with_reducible exact LeO.refl _)
   | (with_reducible exact LeO.none _)
   | (with_reducible refine LeO.ite ?_ ?_)
   | (with_reducible refine LeO.bind ?_ (fun _ => ?_))
   | exact laws_eqVersionSS.mono _ _ _
   | exact LeO.none _
   | refine LeO.ite ?_ ?_
   | refine LeO.bind ?_ (fun _ => ?_)
set_option maxHeartbeats 8000000 in
set_option maxRecDepth 100000 in
theorem laws_eqStore.calls (k : Nat) (A0_0 : Option Addr) (c0_0 : Nat) (l0_0 : List (List (S76))) (A1_0 : Option Addr) (c1_0 : Nat) (l1_0 : List (List (S76))) (r : Bool) (w : World) (hr0_0 : Kd.C (Kd.slice 76 k76) w A0_0 l0_0.length l0_0) (hc0_0 : l0_0.length ≤ c0_0) (hr1_0 : Kd.C (Kd.slice 76 k76) w A1_0 l1_0.length l1_0) (hc1_0 : l1_0.length ≤ c1_0) (h : laws_eqStore.f k l0_0 l1_0 = some r) :
  Calls Try.prog 38 #[.agg #[.slice A0_0 l0_0.length c0_0], .agg #[.slice A1_0 l1_0.length c1_0]] w fun e w' => e = .returned (.bool r) ∧ Below w.heap.size w w' := by
 have hu49 := Try.underlying49
 have HR0_0 := AM_ hr0_0
 have HC0_0 := AM_ hc0_0
 clear hr0_0 hc0_0
 have HR1_0 := AM_ hr1_0
 have HC1_0 := AM_ hc1_0
 clear hr1_0 hc1_0
 have HB := AM_ (Below.refl w.heap.size w)
 have H : ((laws_eqVersionSS.f k l0_0 l1_0).bind fun t111 => (if t111 = true then (some true) else (some false))) = some r := h
 clear h
 replace H := Option.bind_eq_some_iff.mp H
 obtain ⟨t111, A30, H⟩ := H
 replace H : (if t111 = true then (some true) else (some false)) = some r := H
 have A3 := AM_ A30
 clear A30
 by_cases c4 : t111 = true
 ·subst c4
  have H1 : (some true) = some r := by rw [if_pos rfl] at H; exact H
  clear H
  have H := H1
  clear H1
  obtain rfl := Option.some.inj H
  go_enter Try.func38, Try.ntmps38
  go_wp2_with (first | ((with_reducible refine gate_dst (N := 2) rfl ?_); refine box_event ?hg (N := 2) ?hd (cs := #[.slice A0_0 l0_0.length c0_0]) (t := 49) ?hr ?_; (case hd => rfl); (case hg => rfl); (case hr => first | (go_simp; done) | (go_simp; rfl)); intro gb109 hg w5 hbox hb; have BK109 := AM_ (hbox); have GW109 := AM_ ((GS HB.out hg)); have GE109 := AM_ ((GS HB.out hg)); replace HB := AM_ (below_step (BT HB.out) hb); clear hb hbox hg) | ((with_reducible refine gate_dst (N := 3) rfl ?_); refine box_event ?hg (N := 3) ?hd (cs := #[.slice A1_0 l1_0.length c1_0]) (t := 49) ?hr ?_; (case hd => rfl); (case hg => rfl); (case hr => first | (go_simp; done) | (go_simp; rfl)); intro gb110 hg w6 hbox hb; have BK110 := AM_ (hbox); have GW110 := AM_ ((GS HB.out hg)); have GE110 := AM_ ((GS HB.out hg)); replace HB := AM_ (below_step (BT HB.out) hb); have NB109_110 := AM_ ((NL BK109.out hg)); have NB110_109 := AM_ ((NG BK109.out hg)); replace BK109 := AM_ (BB BK109.out hb); clear hb hbox hg; have hnb7 := NB109_110.out; have hnc7 := NB110_109.out; obtain ⟨hcz8_0, hfz8_0⟩ := bk1 BK109.out; obtain ⟨hcz9_0, hfz9_0⟩ := bk1 BK110.out) | ((with_reducible refine gate_callee (f := 107) rfl ?_); refine goesL_ (some 9) rfl rfl Try.func107 (by kernel_rfl) rfl #[.slice A0_0 l0_0.length c0_0, .slice A1_0 l1_0.length c1_0] rfl (by (try simp only [List.map_toArray, List.map_cons, List.map_nil]); first | done | rfl | (simp only [List.length_drop, List.length_take]; rfl)) ?_; (with_reducible refine (laws_eqVersionSS.calls k _ _ l0_0 _ _ l1_0 true _ ?side1 ?side2 ?side3 ?side4 A3.out).mono ?_); (case side1 => exact CB HR0_0.out HB.out); (case side2 => exact HC0_0.out); (case side3 => exact CB HR1_0.out HB.out); (case side4 => exact HC1_0.out); rintro e w10 ⟨rfl, hb⟩; refine ⟨_, rfl, ?_⟩; replace BK109 := AM_ (BB BK109.out hb); replace BK110 := AM_ (BB BK110.out hb); replace HB := AM_ (below_step (BT HB.out) hb); (try clear hb); (try clear hb2); (try clear hk); (try clear hi)))
  go_ret
  exact QT (BT HB.out)
 replace c4 := Bool.eq_false_iff.mpr c4
 subst c4
 have H1 : (some false) = some r := by rw [if_neg (show ¬ (false = true) by decide)] at H; exact H
 clear H
 have H := H1
 clear H1
 obtain rfl := Option.some.inj H
 go_enter Try.func38, Try.ntmps38
 go_wp2_with (first | ((with_reducible refine gate_dst (N := 2) rfl ?_); refine box_event ?hg (N := 2) ?hd (cs := #[.slice A0_0 l0_0.length c0_0]) (t := 49) ?hr ?_; (case hd => rfl); (case hg => rfl); (case hr => first | (go_simp; done) | (go_simp; rfl)); intro gb109 hg w11 hbox hb; have BK109 := AM_ (hbox); have GW109 := AM_ ((GS HB.out hg)); have GE109 := AM_ ((GS HB.out hg)); replace HB := AM_ (below_step (BT HB.out) hb); clear hb hbox hg) | ((with_reducible refine gate_dst (N := 3) rfl ?_); refine box_event ?hg (N := 3) ?hd (cs := #[.slice A1_0 l1_0.length c1_0]) (t := 49) ?hr ?_; (case hd => rfl); (case hg => rfl); (case hr => first | (go_simp; done) | (go_simp; rfl)); intro gb110 hg w12 hbox hb; have BK110 := AM_ (hbox); have GW110 := AM_ ((GS HB.out hg)); have GE110 := AM_ ((GS HB.out hg)); replace HB := AM_ (below_step (BT HB.out) hb); have NB109_110 := AM_ ((NL BK109.out hg)); have NB110_109 := AM_ ((NG BK109.out hg)); replace BK109 := AM_ (BB BK109.out hb); clear hb hbox hg; have hnb13 := NB109_110.out; have hnc13 := NB110_109.out; obtain ⟨hcz14_0, hfz14_0⟩ := bk1 BK109.out; obtain ⟨hcz15_0, hfz15_0⟩ := bk1 BK110.out) | ((with_reducible refine gate_callee (f := 107) rfl ?_); refine goesL_ (some 9) rfl rfl Try.func107 (by kernel_rfl) rfl #[.slice A0_0 l0_0.length c0_0, .slice A1_0 l1_0.length c1_0] rfl (by (try simp only [List.map_toArray, List.map_cons, List.map_nil]); first | done | rfl | (simp only [List.length_drop, List.length_take]; rfl)) ?_; (with_reducible refine (laws_eqVersionSS.calls k _ _ l0_0 _ _ l1_0 false _ ?side1 ?side2 ?side3 ?side4 A3.out).mono ?_); (case side1 => exact CB HR0_0.out HB.out); (case side2 => exact HC0_0.out); (case side3 => exact CB HR1_0.out HB.out); (case side4 => exact HC1_0.out); rintro e w16 ⟨rfl, hb⟩; refine ⟨_, rfl, ?_⟩; replace BK109 := AM_ (BB BK109.out hb); replace BK110 := AM_ (BB BK110.out hb); replace HB := AM_ (below_step (BT HB.out) hb); (try clear hb); (try clear hb2); (try clear hk); (try clear hi)))
 go_ret
 exact QT (BT HB.out)

/-! ### laws_eqLock: function 138 -/
def laws_eqLock.f (a0_0 : Int) (a0_1 : Int) (a1_0 : Int) (a1_1 : Int) : Option (Bool) := if a0_0 = a1_0 then (if a0_1 = a1_1 then (some true) else (some false)) else (some false)
set_option maxHeartbeats 8000000 in
set_option maxRecDepth 100000 in
theorem laws_eqLock.calls (a0_0 : Int) (a0_1 : Int) (a1_0 : Int) (a1_1 : Int) (r : Bool) (w : World) (h : laws_eqLock.f a0_0 a0_1 a1_0 a1_1 = some r) :
  Calls Try.prog 138 #[.agg #[.int .i64 a0_0, .int .i64 a0_1], .agg #[.int .i64 a1_0, .int .i64 a1_1]] w fun e w' => e = .returned (.bool r) ∧ Below w.heap.size w w' := by
 have hu150 := Try.underlying150
 have HB := AM_ (Below.refl w.heap.size w)
 have H : (if a0_0 = a1_0 then (if a0_1 = a1_1 then (some true) else (some false)) else (some false)) = some r := h
 clear h
 by_cases c3 : a0_0 = a1_0
 rotate_left
 ·rw [if_neg c3] at H
  have c3b0 : (a0_0 == a1_0) = false := beq_eq_false_iff_ne.mpr c3
  have c3b1 : (a0_0 != a1_0) = true := bne_iff_ne.mpr c3
  obtain rfl := Option.some.inj H
  go_enter Try.func138, Try.ntmps138
  go_wp2_with (first | ((with_reducible refine gate_dst (N := 2) rfl ?_); refine box_event ?hg (N := 2) ?hd (cs := #[.int .i64 a0_0, .int .i64 a0_1]) (t := 150) ?hr ?_; (case hd => rfl); (case hg => rfl); (case hr => first | (go_simp; done) | (go_simp; rfl)); intro gb112 hg w15 hbox hb; have BK112 := AM_ (hbox); have GW112 := AM_ ((GS HB.out hg)); have GE112 := AM_ ((GS HB.out hg)); replace HB := AM_ (below_step (BT HB.out) hb); clear hb hbox hg) | ((with_reducible refine gate_dst (N := 3) rfl ?_); refine box_event ?hg (N := 3) ?hd (cs := #[.int .i64 a1_0, .int .i64 a1_1]) (t := 150) ?hr ?_; (case hd => rfl); (case hg => rfl); (case hr => first | (go_simp; done) | (go_simp; rfl)); intro gb113 hg w16 hbox hb; have BK113 := AM_ (hbox); have GW113 := AM_ ((GS HB.out hg)); have GE113 := AM_ ((GS HB.out hg)); replace HB := AM_ (below_step (BT HB.out) hb); have NB112_113 := AM_ ((NL BK112.out hg)); have NB113_112 := AM_ ((NG BK112.out hg)); replace BK112 := AM_ (BB BK112.out hb); clear hb hbox hg; have hnb17 := NB112_113.out; have hnc17 := NB113_112.out; obtain ⟨hcz18_0, hcz18_1, hfz18_0, hfz18_1⟩ := bk2 BK112.out; obtain ⟨hcz19_0, hcz19_1, hfz19_0, hfz19_1⟩ := bk2 BK113.out))
  go_ret
  exact QT (BT HB.out)
 rw [if_pos c3] at H
 have c3b0 : (a0_0 == a1_0) = true := beq_iff_eq.mpr c3
 have c3b1 : (a0_0 != a1_0) = false := bne_eq_false_iff_eq.mpr c3
 clear c3
 by_cases c4 : a0_1 = a1_1
 ·rw [if_pos c4] at H
  have c4b0 : (a0_1 == a1_1) = true := beq_iff_eq.mpr c4
  have c4b1 : (a0_1 != a1_1) = false := bne_eq_false_iff_eq.mpr c4
  clear c4
  obtain rfl := Option.some.inj H
  go_enter Try.func138, Try.ntmps138
  go_wp2_with (first | ((with_reducible refine gate_dst (N := 2) rfl ?_); refine box_event ?hg (N := 2) ?hd (cs := #[.int .i64 a0_0, .int .i64 a0_1]) (t := 150) ?hr ?_; (case hd => rfl); (case hg => rfl); (case hr => first | (go_simp; done) | (go_simp; rfl)); intro gb112 hg w5 hbox hb; have BK112 := AM_ (hbox); have GW112 := AM_ ((GS HB.out hg)); have GE112 := AM_ ((GS HB.out hg)); replace HB := AM_ (below_step (BT HB.out) hb); clear hb hbox hg) | ((with_reducible refine gate_dst (N := 3) rfl ?_); refine box_event ?hg (N := 3) ?hd (cs := #[.int .i64 a1_0, .int .i64 a1_1]) (t := 150) ?hr ?_; (case hd => rfl); (case hg => rfl); (case hr => first | (go_simp; done) | (go_simp; rfl)); intro gb113 hg w6 hbox hb; have BK113 := AM_ (hbox); have GW113 := AM_ ((GS HB.out hg)); have GE113 := AM_ ((GS HB.out hg)); replace HB := AM_ (below_step (BT HB.out) hb); have NB112_113 := AM_ ((NL BK112.out hg)); have NB113_112 := AM_ ((NG BK112.out hg)); replace BK112 := AM_ (BB BK112.out hb); clear hb hbox hg; have hnb7 := NB112_113.out; have hnc7 := NB113_112.out; obtain ⟨hcz8_0, hcz8_1, hfz8_0, hfz8_1⟩ := bk2 BK112.out; obtain ⟨hcz9_0, hcz9_1, hfz9_0, hfz9_1⟩ := bk2 BK113.out))
  go_ret
  exact QT (BT HB.out)
 rw [if_neg c4] at H
 have c4b0 : (a0_1 == a1_1) = false := beq_eq_false_iff_ne.mpr c4
 have c4b1 : (a0_1 != a1_1) = true := bne_iff_ne.mpr c4
 obtain rfl := Option.some.inj H
 go_enter Try.func138, Try.ntmps138
 go_wp2_with (first | ((with_reducible refine gate_dst (N := 2) rfl ?_); refine box_event ?hg (N := 2) ?hd (cs := #[.int .i64 a0_0, .int .i64 a0_1]) (t := 150) ?hr ?_; (case hd => rfl); (case hg => rfl); (case hr => first | (go_simp; done) | (go_simp; rfl)); intro gb112 hg w10 hbox hb; have BK112 := AM_ (hbox); have GW112 := AM_ ((GS HB.out hg)); have GE112 := AM_ ((GS HB.out hg)); replace HB := AM_ (below_step (BT HB.out) hb); clear hb hbox hg) | ((with_reducible refine gate_dst (N := 3) rfl ?_); refine box_event ?hg (N := 3) ?hd (cs := #[.int .i64 a1_0, .int .i64 a1_1]) (t := 150) ?hr ?_; (case hd => rfl); (case hg => rfl); (case hr => first | (go_simp; done) | (go_simp; rfl)); intro gb113 hg w11 hbox hb; have BK113 := AM_ (hbox); have GW113 := AM_ ((GS HB.out hg)); have GE113 := AM_ ((GS HB.out hg)); replace HB := AM_ (below_step (BT HB.out) hb); have NB112_113 := AM_ ((NL BK112.out hg)); have NB113_112 := AM_ ((NG BK112.out hg)); replace BK112 := AM_ (BB BK112.out hb); clear hb hbox hg; have hnb12 := NB112_113.out; have hnc12 := NB113_112.out; obtain ⟨hcz13_0, hcz13_1, hfz13_0, hfz13_1⟩ := bk2 BK112.out; obtain ⟨hcz14_0, hcz14_1, hfz14_0, hfz14_1⟩ := bk2 BK113.out))
 go_ret
 exact QT (BT HB.out)

/-! ### laws_eqLockS: function 58 -/
def laws_eqLockS.l0 : Nat → List (S150) → List (S150) → Int → Option (Bool)
 | 0, _, _, _ => none
 | k + 1, x0, x1, x5 => if x5 < (x0.length : Int) then (if 0 ≤ x5 then (if x5 < (x1.length : Int) then ((laws_eqLock.f ((rd_T150 x0 x5).f0) ((rd_T150 x0 x5).f1) ((rd_T150 x1 x5).f0) ((rd_T150 x1 x5).f1)).bind fun t116 => (if t116 = true then (laws_eqLockS.l0 k x0 x1 (wrap64 (x5 + 1))) else (some false))) else (none)) else (none)) else (some true)
def laws_eqLockS.f (k : Nat) (l0 : List (S150)) (l1 : List (S150)) : Option (Bool) := if (l0.length : Int) = (l1.length : Int) then (laws_eqLockS.l0 k l0 l1 0) else (some false)
theorem laws_eqLockS.mono_l : ∀ k, (∀ y0 y1 y2, LeO (laws_eqLockS.l0 k y0 y1 y2) (laws_eqLockS.l0 (k + 1) y0 y1 y2))
 | 0 => fun _ _ _ r h => by simp [laws_eqLockS.l0] at h
 | k + 1 => by
  have ih0 := laws_eqLockS.mono_l k
  ·intro y0 y1 y2
   unfold laws_eqLockS.l0
   repeat' first
   | (with_reducible exact ih0 _ _ _)
   | (with_reducible exact LeO.refl _)
   | (with_reducible exact LeO.none _)
   | (with_reducible refine LeO.ite ?_ ?_)
   | (with_reducible refine LeO.bind ?_ (fun _ => ?_))
   | exact ih0 _ _ _
   | exact LeO.none _
   | refine LeO.ite ?_ ?_
   | refine LeO.bind ?_ (fun _ => ?_)
theorem laws_eqLockS.mono : ∀ a0 a1 k, LeO (laws_eqLockS.f k a0 a1) (laws_eqLockS.f (k + 1) a0 a1) := by
 intro a0 a1 k
 have ih0 := laws_eqLockS.mono_l k
 unfold laws_eqLockS.f
 repeat' first
   | (with_reducible exact ih0 _ _ _)
   | (with_reducible exact LeO.refl _)
   | (with_reducible exact LeO.none _)
   | (with_reducible refine LeO.ite ?_ ?_)
   | (with_reducible refine LeO.bind ?_ (fun _ => ?_))
   | exact ih0 _ _ _
   | exact LeO.none _
   | refine LeO.ite ?_ ?_
   | refine LeO.bind ?_ (fun _ => ?_)
def laws_eqLockS.T6 : Bool × List (List Nat × List Nat) := (true, [([], []), ([], []), ([0, 1], [0, 1]), ([2], [2]), ([], []), ([], []), ([4, 5], [4, 5]), ([6], [6]), ([3, 7], [3, 7]), ([8], [8])])
def laws_eqLockS.B6 : List Nat := [0, 0, 3, 7, 0, 0, 48, 112, 255, 511]
theorem laws_eqLockS.tab6 : rtab .any (opsOf Try.f58 6) = laws_eqLockS.T6 := by kernel_rfl
theorem laws_eqLockS.bits6 : waitsOk laws_eqLockS.T6.2 laws_eqLockS.B6 = true := by kernel_rfl
set_option maxHeartbeats 8000000 in
set_option maxRecDepth 100000 in
theorem laws_eqLockS.calls (k : Nat) (A0 : Option Addr) (c0 : Nat) (l0 : List (S150)) (A1 : Option Addr) (c1 : Nat) (l1 : List (S150)) (r : Bool) (w : World) (hr0 : Kd.C k150 w A0 l0.length l0) (hc0 : l0.length ≤ c0) (hr1 : Kd.C k150 w A1 l1.length l1) (hc1 : l1.length ≤ c1) (h : laws_eqLockS.f k l0 l1 = some r) :
  Calls Try.prog 58 #[.slice A0 l0.length c0, .slice A1 l1.length c1] w fun e w' => e = .returned (.bool r) ∧ Below w.heap.size w w' := by
 have hu150 := Try.underlying150
 have HR0 := AM_ hr0
 have HC0 := AM_ hc0
 clear hr0 hc0
 have HR1 := AM_ hr1
 have HC1 := AM_ hc1
 clear hr1 hc1
 have HB := AM_ (Below.refl w.heap.size w)
 have H : (if (l0.length : Int) = (l1.length : Int) then (laws_eqLockS.l0 k l0 l1 0) else (some false)) = some r := h
 clear h
 by_cases c3 : (l0.length : Int) = (l1.length : Int)
 rotate_left
 ·rw [if_neg c3] at H
  have c3b0 : ((l0.length : Int) == (l1.length : Int)) = false := beq_eq_false_iff_ne.mpr c3
  have c3b1 : ((l0.length : Int) != (l1.length : Int)) = true := bne_iff_ne.mpr c3
  have c3b2 : (l0.length == l1.length) = false := by first | simpa using c3 | (simp at c3 ⊢; omega)
  obtain rfl := Option.some.inj H
  go_enter Try.func58, Try.ntmps58
  go_wp2
  go_ret
  exact QT (BT HB.out)
 rw [if_pos c3] at H
 have c3b0 : ((l0.length : Int) == (l1.length : Int)) = true := beq_iff_eq.mpr c3
 have c3b1 : ((l0.length : Int) != (l1.length : Int)) = false := bne_eq_false_iff_eq.mpr c3
 have c3b2 : (l0.length == l1.length) = true := by first | simpa using c3 | (simp at c3 ⊢; omega)
 clear c3
 have H' := AM_ H
 clear H
 go_enter Try.func58, Try.ntmps58
 go_wp2
 go_loopg [5] k (fun kq v5 w' => ∃ (x5_1 : Int), v5 = .int .i64 x5_1 ∧ Aside0 (laws_eqLockS.l0 kq l0 l1 x5_1 = some r) ∧ Aside0 (kq ≤ k) ∧ Aside0 (Below w.heap.size w w'))
 case atStart => exact ⟨(0), (by first | rfl | (simp; done) | (simp [*]; done)), H', ⟨Nat.le_refl _⟩, ⟨BT HB.out⟩⟩
 case round =>
  clear H'
  try clear c1
  try clear p2
  try clear c3
  try clear c3b0
  try clear c3b1
  try clear c3b2
  obtain ⟨x5_1, rfl, HA, HK1, HB⟩ := hrel
  cases gk with
  | zero => exact absurd HA.out (by simp [laws_eqLockS.l0])
  | succ k1 =>
   have H := HA.out
   clear HA
   simp only [laws_eqLockS.l0] at H
   by_cases c4 : x5_1 < (l0.length : Int)
   rotate_left
   ·rw [if_neg c4] at H
    have c4b0 : decide (x5_1 < (l0.length : Int)) = false := decide_eq_false c4
    clear c4
    obtain rfl := Option.some.inj H
    go_wp2
    go_ret
    exact QT (BT HB.out)
   rw [if_pos c4] at H
   have c4b0 : decide (x5_1 < (l0.length : Int)) = true := decide_eq_true c4
   clear c4
   by_cases c5 : 0 ≤ x5_1
   rotate_left
   ·rw [if_neg c5] at H
    exact absurd H (by simp)
   rw [if_pos c5] at H
   have c5b0 : decide (0 ≤ x5_1) = true := decide_eq_true c5
   clear c5
   by_cases c6 : x5_1 < (l1.length : Int)
   rotate_left
   ·rw [if_neg c6] at H
    exact absurd H (by simp)
   rw [if_pos c6] at H
   have c6b0 : decide (x5_1 < (l1.length : Int)) = true := decide_eq_true c6
   clear c6
   replace H := Option.bind_eq_some_iff.mp H
   obtain ⟨t116, A70, H⟩ := H
   replace H : (if t116 = true then (laws_eqLockS.l0 k1 l0 l1 (wrap64 (x5_1 + 1))) else (some false)) = some r := H
   have A7 := AM_ A70
   clear A70
   by_cases c8 : t116 = true
   rotate_left
   ·replace c8 := Bool.eq_false_iff.mpr c8
    subst c8
    have H1 : (some false) = some r := by rw [if_neg (show ¬ (false = true) by decide)] at H; exact H
    clear H
    have H := H1
    clear H1
    obtain rfl := Option.some.inj H
    try go_wp2
    replace HB := AM_ (below_drew1 HB.out)
    have p114 : 0 ≤ (x5_1 : Int) := DT
    have q114 : x5_1 < (l0.length : Int) := DT
    obtain ⟨ad114, e114, hx114_0, hx114_1⟩ := at_T150 HR0.out x5_1 p114 q114
    have hw114_1 := hx114_1
    have hw114_0 := hx114_0
    cases e114
    replace hx114_0 := BC HB.out hx114_0
    replace hx114_1 := BC HB.out hx114_1
    replace p114 := eq_true p114
    replace q114 := eq_true q114
    have p115 : 0 ≤ (x5_1 : Int) := DT
    have q115 : x5_1 < (l1.length : Int) := DT
    obtain ⟨ad115, e115, hx115_0, hx115_1⟩ := at_T150 HR1.out x5_1 p115 q115
    have hw115_1 := hx115_1
    have hw115_0 := hx115_0
    cases e115
    replace hx115_0 := BC HB.out hx115_0
    replace hx115_1 := BC HB.out hx115_1
    replace p115 := eq_true p115
    replace q115 := eq_true q115
    refine start_ (n := 10) (S := fun w' => w'.cell? (ad114.add ((x5_1).toNat * 2)) = some (.int .i64 ((rd_T150 l0 x5_1).f0)) ∧ w'.cell? ⟨(ad114.add ((x5_1).toNat * 2)).block, (ad114.add ((x5_1).toNat * 2)).off + 1, none⟩ = some (.int .i64 ((rd_T150 l0 x5_1).f1)) ∧ w'.cell? (ad115.add ((x5_1).toNat * 2)) = some (.int .i64 ((rd_T150 l1 x5_1).f0)) ∧ w'.cell? ⟨(ad115.add ((x5_1).toNat * 2)).block, (ad115.add ((x5_1).toNat * 2)).off + 1, none⟩ = some (.int .i64 ((rd_T150 l1 x5_1).f1))) (ds := []) (bs 0 10) (by kernel_rfl) rfl rfl ⟨(BD HB.out hw114_0), (BD HB.out hw114_1), (BD HB.out hw115_0), (BD HB.out hw115_1)⟩ (fun hHeld => ?_); refine with_tabW laws_eqLockS.tab6 laws_eqLockS.bits6 (fun HT_ HW_ => ?_)
    generalize wr.drew = w11 at HB hx114_0 hx114_1 hx115_0 hx115_1 hHeld ⊢
    refine pu (i := 0) (N := some 17) (v := ?_) (a' := ?_) (bs 1 10) rfl rfl HT_ ?_ ?_ ?_
    rotate_left
    ·intro w'
     go_simp
     with_reducible rfl
    rotate_left
    ·simp only [pA, pS, pZ, pK, i64_w, i32_w]
     rfl
    refine pu (i := 1) (N := some 18) (v := ?_) (a' := ?_) (bs 3 10) rfl rfl HT_ ?_ ?_ ?_
    rotate_left
    ·intro w'
     go_simp
     with_reducible rfl
    rotate_left
    ·simp only [pA, pS, pZ, pK, i64_w, i32_w]
     rfl
    refine pu (i := 2) (N := some 19) (v := ?_) (a' := ?_) (bs 7 10) rfl rfl HT_ ?_ ?_ ?_
    rotate_left
    ·intro w'
     go_simp
     with_reducible rfl
    rotate_left
    ·simp only [pA, pS, pZ, pK, i64_w, i32_w]
     rfl
    refine pu (i := 4) (N := some 21) (v := ?_) (a' := ?_) (bs 23 10) rfl rfl HT_ ?_ ?_ ?_
    rotate_left
    ·intro w'
     go_simp
     with_reducible rfl
    rotate_left
    ·simp only [pA, pS, pZ, pK, i64_w, i32_w]
     rfl
    refine pu (i := 5) (N := some 22) (v := ?_) (a' := ?_) (bs 55 10) rfl rfl HT_ ?_ ?_ ?_
    rotate_left
    ·intro w'
     go_simp
     with_reducible rfl
    rotate_left
    ·simp only [pA, pS, pZ, pK, i64_w, i32_w]
     rfl
    refine pu (i := 6) (N := some 23) (v := ?_) (a' := ?_) (bs 119 10) rfl rfl HT_ ?_ ?_ ?_
    rotate_left
    ·intro w'
     go_simp
     with_reducible rfl
    rotate_left
    ·simp only [pA, pS, pZ, pK, i64_w, i32_w]
     rfl
    refine tk (i := 3) (N := some 20) (v := ?_) (a' := ?_) (bs 127 10) rfl rfl HT_ HW_ ?_ hHeld ?_ ?_
    rotate_left
    ·rintro w' ⟨s0, s1, s2, s3⟩
     go_simp
     with_reducible rfl
    rotate_left
    ·simp only [pA, pS, pZ, pK, i64_w, i32_w]
     rfl
    refine tk (i := 7) (N := some 24) (v := ?_) (a' := ?_) (bs 255 10) rfl rfl HT_ HW_ ?_ hHeld ?_ ?_
    rotate_left
    ·rintro w' ⟨s0, s1, s2, s3⟩
     go_simp
     with_reducible rfl
    rotate_left
    ·simp only [pA, pS, pZ, pK, i64_w, i32_w]
     rfl
    refine one_ (i := 8) (N := some 25) (bs 511 10) rfl rfl (one_of HT_.out (by kernel_rfl)) (by decide) (fun K hK => ?_)
    refine goes_ Try.func138 (by kernel_rfl) rfl #[.agg #[.int .i64 ((rd_T150 l0 x5_1).f0), .int .i64 ((rd_T150 l0 x5_1).f1)], .agg #[.int .i64 ((rd_T150 l1 x5_1).f0), .int .i64 ((rd_T150 l1 x5_1).f1)]] (by rfl) rfl rfl (by (try simp only [List.map_toArray, List.map_cons, List.map_nil]); first | done | rfl | (simp only [List.length_drop, List.length_take]; rfl)) ?_
    with_reducible refine (laws_eqLock.calls ((rd_T150 l0 x5_1).f0) ((rd_T150 l0 x5_1).f1) ((rd_T150 l1 x5_1).f0) ((rd_T150 l1 x5_1).f1) false _ A7.out).mono ?_
    rintro e w12 ⟨rfl, hb⟩
    refine ⟨_, rfl, ?_⟩
    replace HB := AM_ (below_step (BT HB.out) hb)
    (try clear hb)
    (try clear hb2)
    (try clear hk)
    (try clear hi)
    refine hK.out _ _ ⟨(BD HB.out hw114_0), (BD HB.out hw114_1), (BD HB.out hw115_0), (BD HB.out hw115_1)⟩ (fun hHeld => ?_)
    clear hK K
    refine norm_ (a' := ?_) ?_ ?_
    rotate_left
    ·show Act.put _ (some 25) _ = _
     simp only [pA, pS, pZ, pK, i64_w, i32_w]
     rfl
    refine pu (i := 9) (N := some 26) (v := ?_) (a' := ?_) (bs 1023 10) rfl rfl HT_ ?_ ?_ ?_
    rotate_left
    ·intro w'
     go_simp
     with_reducible rfl
    rotate_left
    ·simp only [pA, pS, pZ, pK, i64_w, i32_w]
     rfl
    refine done_ (done_of HT_.out (by kernel_rfl)) ?_
    try go_wp2
    go_ret
    exact QT (BT HB.out)
   subst c8
   have H1 : (laws_eqLockS.l0 k1 l0 l1 (wrap64 (x5_1 + 1))) = some r := by rw [if_pos rfl] at H; exact H
   clear H
   have H := H1
   clear H1
   have H' := AM_ H
   clear H
   try go_wp2
   replace HB := AM_ (below_drew1 HB.out)
   have p114 : 0 ≤ (x5_1 : Int) := DT
   have q114 : x5_1 < (l0.length : Int) := DT
   obtain ⟨ad114, e114, hx114_0, hx114_1⟩ := at_T150 HR0.out x5_1 p114 q114
   have hw114_1 := hx114_1
   have hw114_0 := hx114_0
   cases e114
   replace hx114_0 := BC HB.out hx114_0
   replace hx114_1 := BC HB.out hx114_1
   replace p114 := eq_true p114
   replace q114 := eq_true q114
   have p115 : 0 ≤ (x5_1 : Int) := DT
   have q115 : x5_1 < (l1.length : Int) := DT
   obtain ⟨ad115, e115, hx115_0, hx115_1⟩ := at_T150 HR1.out x5_1 p115 q115
   have hw115_1 := hx115_1
   have hw115_0 := hx115_0
   cases e115
   replace hx115_0 := BC HB.out hx115_0
   replace hx115_1 := BC HB.out hx115_1
   replace p115 := eq_true p115
   replace q115 := eq_true q115
   refine start_ (n := 10) (S := fun w' => w'.cell? (ad114.add ((x5_1).toNat * 2)) = some (.int .i64 ((rd_T150 l0 x5_1).f0)) ∧ w'.cell? ⟨(ad114.add ((x5_1).toNat * 2)).block, (ad114.add ((x5_1).toNat * 2)).off + 1, none⟩ = some (.int .i64 ((rd_T150 l0 x5_1).f1)) ∧ w'.cell? (ad115.add ((x5_1).toNat * 2)) = some (.int .i64 ((rd_T150 l1 x5_1).f0)) ∧ w'.cell? ⟨(ad115.add ((x5_1).toNat * 2)).block, (ad115.add ((x5_1).toNat * 2)).off + 1, none⟩ = some (.int .i64 ((rd_T150 l1 x5_1).f1))) (ds := []) (bs 0 10) (by kernel_rfl) rfl rfl ⟨(BD HB.out hw114_0), (BD HB.out hw114_1), (BD HB.out hw115_0), (BD HB.out hw115_1)⟩ (fun hHeld => ?_); refine with_tabW laws_eqLockS.tab6 laws_eqLockS.bits6 (fun HT_ HW_ => ?_)
   generalize wr.drew = w9 at HB hx114_0 hx114_1 hx115_0 hx115_1 hHeld ⊢
   refine pu (i := 0) (N := some 17) (v := ?_) (a' := ?_) (bs 1 10) rfl rfl HT_ ?_ ?_ ?_
   rotate_left
   ·intro w'
    go_simp
    with_reducible rfl
   rotate_left
   ·simp only [pA, pS, pZ, pK, i64_w, i32_w]
    rfl
   refine pu (i := 1) (N := some 18) (v := ?_) (a' := ?_) (bs 3 10) rfl rfl HT_ ?_ ?_ ?_
   rotate_left
   ·intro w'
    go_simp
    with_reducible rfl
   rotate_left
   ·simp only [pA, pS, pZ, pK, i64_w, i32_w]
    rfl
   refine pu (i := 2) (N := some 19) (v := ?_) (a' := ?_) (bs 7 10) rfl rfl HT_ ?_ ?_ ?_
   rotate_left
   ·intro w'
    go_simp
    with_reducible rfl
   rotate_left
   ·simp only [pA, pS, pZ, pK, i64_w, i32_w]
    rfl
   refine pu (i := 4) (N := some 21) (v := ?_) (a' := ?_) (bs 23 10) rfl rfl HT_ ?_ ?_ ?_
   rotate_left
   ·intro w'
    go_simp
    with_reducible rfl
   rotate_left
   ·simp only [pA, pS, pZ, pK, i64_w, i32_w]
    rfl
   refine pu (i := 5) (N := some 22) (v := ?_) (a' := ?_) (bs 55 10) rfl rfl HT_ ?_ ?_ ?_
   rotate_left
   ·intro w'
    go_simp
    with_reducible rfl
   rotate_left
   ·simp only [pA, pS, pZ, pK, i64_w, i32_w]
    rfl
   refine pu (i := 6) (N := some 23) (v := ?_) (a' := ?_) (bs 119 10) rfl rfl HT_ ?_ ?_ ?_
   rotate_left
   ·intro w'
    go_simp
    with_reducible rfl
   rotate_left
   ·simp only [pA, pS, pZ, pK, i64_w, i32_w]
    rfl
   refine tk (i := 3) (N := some 20) (v := ?_) (a' := ?_) (bs 127 10) rfl rfl HT_ HW_ ?_ hHeld ?_ ?_
   rotate_left
   ·rintro w' ⟨s0, s1, s2, s3⟩
    go_simp
    with_reducible rfl
   rotate_left
   ·simp only [pA, pS, pZ, pK, i64_w, i32_w]
    rfl
   refine tk (i := 7) (N := some 24) (v := ?_) (a' := ?_) (bs 255 10) rfl rfl HT_ HW_ ?_ hHeld ?_ ?_
   rotate_left
   ·rintro w' ⟨s0, s1, s2, s3⟩
    go_simp
    with_reducible rfl
   rotate_left
   ·simp only [pA, pS, pZ, pK, i64_w, i32_w]
    rfl
   refine one_ (i := 8) (N := some 25) (bs 511 10) rfl rfl (one_of HT_.out (by kernel_rfl)) (by decide) (fun K hK => ?_)
   refine goes_ Try.func138 (by kernel_rfl) rfl #[.agg #[.int .i64 ((rd_T150 l0 x5_1).f0), .int .i64 ((rd_T150 l0 x5_1).f1)], .agg #[.int .i64 ((rd_T150 l1 x5_1).f0), .int .i64 ((rd_T150 l1 x5_1).f1)]] (by rfl) rfl rfl (by (try simp only [List.map_toArray, List.map_cons, List.map_nil]); first | done | rfl | (simp only [List.length_drop, List.length_take]; rfl)) ?_
   with_reducible refine (laws_eqLock.calls ((rd_T150 l0 x5_1).f0) ((rd_T150 l0 x5_1).f1) ((rd_T150 l1 x5_1).f0) ((rd_T150 l1 x5_1).f1) true _ A7.out).mono ?_
   rintro e w10 ⟨rfl, hb⟩
   refine ⟨_, rfl, ?_⟩
   replace HB := AM_ (below_step (BT HB.out) hb)
   (try clear hb)
   (try clear hb2)
   (try clear hk)
   (try clear hi)
   refine hK.out _ _ ⟨(BD HB.out hw114_0), (BD HB.out hw114_1), (BD HB.out hw115_0), (BD HB.out hw115_1)⟩ (fun hHeld => ?_)
   clear hK K
   refine norm_ (a' := ?_) ?_ ?_
   rotate_left
   ·show Act.put _ (some 25) _ = _
    simp only [pA, pS, pZ, pK, i64_w, i32_w]
    rfl
   refine pu (i := 9) (N := some 26) (v := ?_) (a' := ?_) (bs 1023 10) rfl rfl HT_ ?_ ?_ ?_
   rotate_left
   ·intro w'
    go_simp
    with_reducible rfl
   rotate_left
   ·simp only [pA, pS, pZ, pK, i64_w, i32_w]
    rfl
   refine done_ (done_of HT_.out (by kernel_rfl)) ?_
   try go_wp2
   go_roundg k1
   case measure => have := HK1.out; omega
   case rel => exact ⟨(wrap64 (x5_1 + 1)), (by first | rfl | (simp; done) | (simp [*]; done)), H', ⟨by have := HK1.out; omega⟩, ⟨BT HB.out⟩⟩

/-! ### laws_eqReadMark: function 177 -/
def laws_eqReadMark.f (a0_0 : Int) (a0_1 : Int) (a1_0 : Int) (a1_1 : Int) : Option (Bool) := if a0_0 = a1_0 then (if a0_1 = a1_1 then (some true) else (some false)) else (some false)
set_option maxHeartbeats 8000000 in
set_option maxRecDepth 100000 in
theorem laws_eqReadMark.calls (a0_0 : Int) (a0_1 : Int) (a1_0 : Int) (a1_1 : Int) (r : Bool) (w : World) (h : laws_eqReadMark.f a0_0 a0_1 a1_0 a1_1 = some r) :
  Calls Try.prog 177 #[.agg #[.int .i64 a0_0, .int .i64 a0_1], .agg #[.int .i64 a1_0, .int .i64 a1_1]] w fun e w' => e = .returned (.bool r) ∧ Below w.heap.size w w' := by
 have hu165 := Try.underlying165
 have HB := AM_ (Below.refl w.heap.size w)
 have H : (if a0_0 = a1_0 then (if a0_1 = a1_1 then (some true) else (some false)) else (some false)) = some r := h
 clear h
 by_cases c3 : a0_0 = a1_0
 rotate_left
 ·rw [if_neg c3] at H
  have c3b0 : (a0_0 == a1_0) = false := beq_eq_false_iff_ne.mpr c3
  have c3b1 : (a0_0 != a1_0) = true := bne_iff_ne.mpr c3
  obtain rfl := Option.some.inj H
  go_enter Try.func177, Try.ntmps177
  go_wp2_with (first | ((with_reducible refine gate_dst (N := 2) rfl ?_); refine box_event ?hg (N := 2) ?hd (cs := #[.int .i64 a0_0, .int .i64 a0_1]) (t := 165) ?hr ?_; (case hd => rfl); (case hg => rfl); (case hr => first | (go_simp; done) | (go_simp; rfl)); intro gb117 hg w15 hbox hb; have BK117 := AM_ (hbox); have GW117 := AM_ ((GS HB.out hg)); have GE117 := AM_ ((GS HB.out hg)); replace HB := AM_ (below_step (BT HB.out) hb); clear hb hbox hg) | ((with_reducible refine gate_dst (N := 3) rfl ?_); refine box_event ?hg (N := 3) ?hd (cs := #[.int .i64 a1_0, .int .i64 a1_1]) (t := 165) ?hr ?_; (case hd => rfl); (case hg => rfl); (case hr => first | (go_simp; done) | (go_simp; rfl)); intro gb118 hg w16 hbox hb; have BK118 := AM_ (hbox); have GW118 := AM_ ((GS HB.out hg)); have GE118 := AM_ ((GS HB.out hg)); replace HB := AM_ (below_step (BT HB.out) hb); have NB117_118 := AM_ ((NL BK117.out hg)); have NB118_117 := AM_ ((NG BK117.out hg)); replace BK117 := AM_ (BB BK117.out hb); clear hb hbox hg; have hnb17 := NB117_118.out; have hnc17 := NB118_117.out; obtain ⟨hcz18_0, hcz18_1, hfz18_0, hfz18_1⟩ := bk2 BK117.out; obtain ⟨hcz19_0, hcz19_1, hfz19_0, hfz19_1⟩ := bk2 BK118.out))
  go_ret
  exact QT (BT HB.out)
 rw [if_pos c3] at H
 have c3b0 : (a0_0 == a1_0) = true := beq_iff_eq.mpr c3
 have c3b1 : (a0_0 != a1_0) = false := bne_eq_false_iff_eq.mpr c3
 clear c3
 by_cases c4 : a0_1 = a1_1
 ·rw [if_pos c4] at H
  have c4b0 : (a0_1 == a1_1) = true := beq_iff_eq.mpr c4
  have c4b1 : (a0_1 != a1_1) = false := bne_eq_false_iff_eq.mpr c4
  clear c4
  obtain rfl := Option.some.inj H
  go_enter Try.func177, Try.ntmps177
  go_wp2_with (first | ((with_reducible refine gate_dst (N := 2) rfl ?_); refine box_event ?hg (N := 2) ?hd (cs := #[.int .i64 a0_0, .int .i64 a0_1]) (t := 165) ?hr ?_; (case hd => rfl); (case hg => rfl); (case hr => first | (go_simp; done) | (go_simp; rfl)); intro gb117 hg w5 hbox hb; have BK117 := AM_ (hbox); have GW117 := AM_ ((GS HB.out hg)); have GE117 := AM_ ((GS HB.out hg)); replace HB := AM_ (below_step (BT HB.out) hb); clear hb hbox hg) | ((with_reducible refine gate_dst (N := 3) rfl ?_); refine box_event ?hg (N := 3) ?hd (cs := #[.int .i64 a1_0, .int .i64 a1_1]) (t := 165) ?hr ?_; (case hd => rfl); (case hg => rfl); (case hr => first | (go_simp; done) | (go_simp; rfl)); intro gb118 hg w6 hbox hb; have BK118 := AM_ (hbox); have GW118 := AM_ ((GS HB.out hg)); have GE118 := AM_ ((GS HB.out hg)); replace HB := AM_ (below_step (BT HB.out) hb); have NB117_118 := AM_ ((NL BK117.out hg)); have NB118_117 := AM_ ((NG BK117.out hg)); replace BK117 := AM_ (BB BK117.out hb); clear hb hbox hg; have hnb7 := NB117_118.out; have hnc7 := NB118_117.out; obtain ⟨hcz8_0, hcz8_1, hfz8_0, hfz8_1⟩ := bk2 BK117.out; obtain ⟨hcz9_0, hcz9_1, hfz9_0, hfz9_1⟩ := bk2 BK118.out))
  go_ret
  exact QT (BT HB.out)
 rw [if_neg c4] at H
 have c4b0 : (a0_1 == a1_1) = false := beq_eq_false_iff_ne.mpr c4
 have c4b1 : (a0_1 != a1_1) = true := bne_iff_ne.mpr c4
 obtain rfl := Option.some.inj H
 go_enter Try.func177, Try.ntmps177
 go_wp2_with (first | ((with_reducible refine gate_dst (N := 2) rfl ?_); refine box_event ?hg (N := 2) ?hd (cs := #[.int .i64 a0_0, .int .i64 a0_1]) (t := 165) ?hr ?_; (case hd => rfl); (case hg => rfl); (case hr => first | (go_simp; done) | (go_simp; rfl)); intro gb117 hg w10 hbox hb; have BK117 := AM_ (hbox); have GW117 := AM_ ((GS HB.out hg)); have GE117 := AM_ ((GS HB.out hg)); replace HB := AM_ (below_step (BT HB.out) hb); clear hb hbox hg) | ((with_reducible refine gate_dst (N := 3) rfl ?_); refine box_event ?hg (N := 3) ?hd (cs := #[.int .i64 a1_0, .int .i64 a1_1]) (t := 165) ?hr ?_; (case hd => rfl); (case hg => rfl); (case hr => first | (go_simp; done) | (go_simp; rfl)); intro gb118 hg w11 hbox hb; have BK118 := AM_ (hbox); have GW118 := AM_ ((GS HB.out hg)); have GE118 := AM_ ((GS HB.out hg)); replace HB := AM_ (below_step (BT HB.out) hb); have NB117_118 := AM_ ((NL BK117.out hg)); have NB118_117 := AM_ ((NG BK117.out hg)); replace BK117 := AM_ (BB BK117.out hb); clear hb hbox hg; have hnb12 := NB117_118.out; have hnc12 := NB118_117.out; obtain ⟨hcz13_0, hcz13_1, hfz13_0, hfz13_1⟩ := bk2 BK117.out; obtain ⟨hcz14_0, hcz14_1, hfz14_0, hfz14_1⟩ := bk2 BK118.out))
 go_ret
 exact QT (BT HB.out)

/-! ### laws_eqReadMarkS: function 108 -/
def laws_eqReadMarkS.l0 : Nat → List (S165) → List (S165) → Int → Option (Bool)
 | 0, _, _, _ => none
 | k + 1, x0, x1, x5 => if x5 < (x0.length : Int) then (if 0 ≤ x5 then (if x5 < (x1.length : Int) then ((laws_eqReadMark.f ((rd_T165 x0 x5).f0) ((rd_T165 x0 x5).f1) ((rd_T165 x1 x5).f0) ((rd_T165 x1 x5).f1)).bind fun t121 => (if t121 = true then (laws_eqReadMarkS.l0 k x0 x1 (wrap64 (x5 + 1))) else (some false))) else (none)) else (none)) else (some true)
def laws_eqReadMarkS.f (k : Nat) (l0 : List (S165)) (l1 : List (S165)) : Option (Bool) := if (l0.length : Int) = (l1.length : Int) then (laws_eqReadMarkS.l0 k l0 l1 0) else (some false)
theorem laws_eqReadMarkS.mono_l : ∀ k, (∀ y0 y1 y2, LeO (laws_eqReadMarkS.l0 k y0 y1 y2) (laws_eqReadMarkS.l0 (k + 1) y0 y1 y2))
 | 0 => fun _ _ _ r h => by simp [laws_eqReadMarkS.l0] at h
 | k + 1 => by
  have ih0 := laws_eqReadMarkS.mono_l k
  ·intro y0 y1 y2
   unfold laws_eqReadMarkS.l0
   repeat' first
   | (with_reducible exact ih0 _ _ _)
   | (with_reducible exact LeO.refl _)
   | (with_reducible exact LeO.none _)
   | (with_reducible refine LeO.ite ?_ ?_)
   | (with_reducible refine LeO.bind ?_ (fun _ => ?_))
   | exact ih0 _ _ _
   | exact LeO.none _
   | refine LeO.ite ?_ ?_
   | refine LeO.bind ?_ (fun _ => ?_)
theorem laws_eqReadMarkS.mono : ∀ a0 a1 k, LeO (laws_eqReadMarkS.f k a0 a1) (laws_eqReadMarkS.f (k + 1) a0 a1) := by
 intro a0 a1 k
 have ih0 := laws_eqReadMarkS.mono_l k
 unfold laws_eqReadMarkS.f
 repeat' first
   | (with_reducible exact ih0 _ _ _)
   | (with_reducible exact LeO.refl _)
   | (with_reducible exact LeO.none _)
   | (with_reducible refine LeO.ite ?_ ?_)
   | (with_reducible refine LeO.bind ?_ (fun _ => ?_))
   | exact ih0 _ _ _
   | exact LeO.none _
   | refine LeO.ite ?_ ?_
   | refine LeO.bind ?_ (fun _ => ?_)
def laws_eqReadMarkS.T6 : Bool × List (List Nat × List Nat) := (true, [([], []), ([], []), ([0, 1], [0, 1]), ([2], [2]), ([], []), ([], []), ([4, 5], [4, 5]), ([6], [6]), ([3, 7], [3, 7]), ([8], [8])])
def laws_eqReadMarkS.B6 : List Nat := [0, 0, 3, 7, 0, 0, 48, 112, 255, 511]
theorem laws_eqReadMarkS.tab6 : rtab .any (opsOf Try.f108 6) = laws_eqReadMarkS.T6 := by kernel_rfl
theorem laws_eqReadMarkS.bits6 : waitsOk laws_eqReadMarkS.T6.2 laws_eqReadMarkS.B6 = true := by kernel_rfl
set_option maxHeartbeats 8000000 in
set_option maxRecDepth 100000 in
theorem laws_eqReadMarkS.calls (k : Nat) (A0 : Option Addr) (c0 : Nat) (l0 : List (S165)) (A1 : Option Addr) (c1 : Nat) (l1 : List (S165)) (r : Bool) (w : World) (hr0 : Kd.C k165 w A0 l0.length l0) (hc0 : l0.length ≤ c0) (hr1 : Kd.C k165 w A1 l1.length l1) (hc1 : l1.length ≤ c1) (h : laws_eqReadMarkS.f k l0 l1 = some r) :
  Calls Try.prog 108 #[.slice A0 l0.length c0, .slice A1 l1.length c1] w fun e w' => e = .returned (.bool r) ∧ Below w.heap.size w w' := by
 have hu165 := Try.underlying165
 have HR0 := AM_ hr0
 have HC0 := AM_ hc0
 clear hr0 hc0
 have HR1 := AM_ hr1
 have HC1 := AM_ hc1
 clear hr1 hc1
 have HB := AM_ (Below.refl w.heap.size w)
 have H : (if (l0.length : Int) = (l1.length : Int) then (laws_eqReadMarkS.l0 k l0 l1 0) else (some false)) = some r := h
 clear h
 by_cases c3 : (l0.length : Int) = (l1.length : Int)
 rotate_left
 ·rw [if_neg c3] at H
  have c3b0 : ((l0.length : Int) == (l1.length : Int)) = false := beq_eq_false_iff_ne.mpr c3
  have c3b1 : ((l0.length : Int) != (l1.length : Int)) = true := bne_iff_ne.mpr c3
  have c3b2 : (l0.length == l1.length) = false := by first | simpa using c3 | (simp at c3 ⊢; omega)
  obtain rfl := Option.some.inj H
  go_enter Try.func108, Try.ntmps108
  go_wp2
  go_ret
  exact QT (BT HB.out)
 rw [if_pos c3] at H
 have c3b0 : ((l0.length : Int) == (l1.length : Int)) = true := beq_iff_eq.mpr c3
 have c3b1 : ((l0.length : Int) != (l1.length : Int)) = false := bne_eq_false_iff_eq.mpr c3
 have c3b2 : (l0.length == l1.length) = true := by first | simpa using c3 | (simp at c3 ⊢; omega)
 clear c3
 have H' := AM_ H
 clear H
 go_enter Try.func108, Try.ntmps108
 go_wp2
 go_loopg [5] k (fun kq v5 w' => ∃ (x5_1 : Int), v5 = .int .i64 x5_1 ∧ Aside0 (laws_eqReadMarkS.l0 kq l0 l1 x5_1 = some r) ∧ Aside0 (kq ≤ k) ∧ Aside0 (Below w.heap.size w w'))
 case atStart => exact ⟨(0), (by first | rfl | (simp; done) | (simp [*]; done)), H', ⟨Nat.le_refl _⟩, ⟨BT HB.out⟩⟩
 case round =>
  clear H'
  try clear c1
  try clear p2
  try clear c3
  try clear c3b0
  try clear c3b1
  try clear c3b2
  obtain ⟨x5_1, rfl, HA, HK1, HB⟩ := hrel
  cases gk with
  | zero => exact absurd HA.out (by simp [laws_eqReadMarkS.l0])
  | succ k1 =>
   have H := HA.out
   clear HA
   simp only [laws_eqReadMarkS.l0] at H
   by_cases c4 : x5_1 < (l0.length : Int)
   rotate_left
   ·rw [if_neg c4] at H
    have c4b0 : decide (x5_1 < (l0.length : Int)) = false := decide_eq_false c4
    clear c4
    obtain rfl := Option.some.inj H
    go_wp2
    go_ret
    exact QT (BT HB.out)
   rw [if_pos c4] at H
   have c4b0 : decide (x5_1 < (l0.length : Int)) = true := decide_eq_true c4
   clear c4
   by_cases c5 : 0 ≤ x5_1
   rotate_left
   ·rw [if_neg c5] at H
    exact absurd H (by simp)
   rw [if_pos c5] at H
   have c5b0 : decide (0 ≤ x5_1) = true := decide_eq_true c5
   clear c5
   by_cases c6 : x5_1 < (l1.length : Int)
   rotate_left
   ·rw [if_neg c6] at H
    exact absurd H (by simp)
   rw [if_pos c6] at H
   have c6b0 : decide (x5_1 < (l1.length : Int)) = true := decide_eq_true c6
   clear c6
   replace H := Option.bind_eq_some_iff.mp H
   obtain ⟨t121, A70, H⟩ := H
   replace H : (if t121 = true then (laws_eqReadMarkS.l0 k1 l0 l1 (wrap64 (x5_1 + 1))) else (some false)) = some r := H
   have A7 := AM_ A70
   clear A70
   by_cases c8 : t121 = true
   rotate_left
   ·replace c8 := Bool.eq_false_iff.mpr c8
    subst c8
    have H1 : (some false) = some r := by rw [if_neg (show ¬ (false = true) by decide)] at H; exact H
    clear H
    have H := H1
    clear H1
    obtain rfl := Option.some.inj H
    try go_wp2
    replace HB := AM_ (below_drew1 HB.out)
    have p119 : 0 ≤ (x5_1 : Int) := DT
    have q119 : x5_1 < (l0.length : Int) := DT
    obtain ⟨ad119, e119, hx119_0, hx119_1⟩ := at_T165 HR0.out x5_1 p119 q119
    have hw119_1 := hx119_1
    have hw119_0 := hx119_0
    cases e119
    replace hx119_0 := BC HB.out hx119_0
    replace hx119_1 := BC HB.out hx119_1
    replace p119 := eq_true p119
    replace q119 := eq_true q119
    have p120 : 0 ≤ (x5_1 : Int) := DT
    have q120 : x5_1 < (l1.length : Int) := DT
    obtain ⟨ad120, e120, hx120_0, hx120_1⟩ := at_T165 HR1.out x5_1 p120 q120
    have hw120_1 := hx120_1
    have hw120_0 := hx120_0
    cases e120
    replace hx120_0 := BC HB.out hx120_0
    replace hx120_1 := BC HB.out hx120_1
    replace p120 := eq_true p120
    replace q120 := eq_true q120
    refine start_ (n := 10) (S := fun w' => w'.cell? (ad119.add ((x5_1).toNat * 2)) = some (.int .i64 ((rd_T165 l0 x5_1).f0)) ∧ w'.cell? ⟨(ad119.add ((x5_1).toNat * 2)).block, (ad119.add ((x5_1).toNat * 2)).off + 1, none⟩ = some (.int .i64 ((rd_T165 l0 x5_1).f1)) ∧ w'.cell? (ad120.add ((x5_1).toNat * 2)) = some (.int .i64 ((rd_T165 l1 x5_1).f0)) ∧ w'.cell? ⟨(ad120.add ((x5_1).toNat * 2)).block, (ad120.add ((x5_1).toNat * 2)).off + 1, none⟩ = some (.int .i64 ((rd_T165 l1 x5_1).f1))) (ds := []) (bs 0 10) (by kernel_rfl) rfl rfl ⟨(BD HB.out hw119_0), (BD HB.out hw119_1), (BD HB.out hw120_0), (BD HB.out hw120_1)⟩ (fun hHeld => ?_); refine with_tabW laws_eqReadMarkS.tab6 laws_eqReadMarkS.bits6 (fun HT_ HW_ => ?_)
    generalize wr.drew = w11 at HB hx119_0 hx119_1 hx120_0 hx120_1 hHeld ⊢
    refine pu (i := 0) (N := some 17) (v := ?_) (a' := ?_) (bs 1 10) rfl rfl HT_ ?_ ?_ ?_
    rotate_left
    ·intro w'
     go_simp
     with_reducible rfl
    rotate_left
    ·simp only [pA, pS, pZ, pK, i64_w, i32_w]
     rfl
    refine pu (i := 1) (N := some 18) (v := ?_) (a' := ?_) (bs 3 10) rfl rfl HT_ ?_ ?_ ?_
    rotate_left
    ·intro w'
     go_simp
     with_reducible rfl
    rotate_left
    ·simp only [pA, pS, pZ, pK, i64_w, i32_w]
     rfl
    refine pu (i := 2) (N := some 19) (v := ?_) (a' := ?_) (bs 7 10) rfl rfl HT_ ?_ ?_ ?_
    rotate_left
    ·intro w'
     go_simp
     with_reducible rfl
    rotate_left
    ·simp only [pA, pS, pZ, pK, i64_w, i32_w]
     rfl
    refine pu (i := 4) (N := some 21) (v := ?_) (a' := ?_) (bs 23 10) rfl rfl HT_ ?_ ?_ ?_
    rotate_left
    ·intro w'
     go_simp
     with_reducible rfl
    rotate_left
    ·simp only [pA, pS, pZ, pK, i64_w, i32_w]
     rfl
    refine pu (i := 5) (N := some 22) (v := ?_) (a' := ?_) (bs 55 10) rfl rfl HT_ ?_ ?_ ?_
    rotate_left
    ·intro w'
     go_simp
     with_reducible rfl
    rotate_left
    ·simp only [pA, pS, pZ, pK, i64_w, i32_w]
     rfl
    refine pu (i := 6) (N := some 23) (v := ?_) (a' := ?_) (bs 119 10) rfl rfl HT_ ?_ ?_ ?_
    rotate_left
    ·intro w'
     go_simp
     with_reducible rfl
    rotate_left
    ·simp only [pA, pS, pZ, pK, i64_w, i32_w]
     rfl
    refine tk (i := 3) (N := some 20) (v := ?_) (a' := ?_) (bs 127 10) rfl rfl HT_ HW_ ?_ hHeld ?_ ?_
    rotate_left
    ·rintro w' ⟨s0, s1, s2, s3⟩
     go_simp
     with_reducible rfl
    rotate_left
    ·simp only [pA, pS, pZ, pK, i64_w, i32_w]
     rfl
    refine tk (i := 7) (N := some 24) (v := ?_) (a' := ?_) (bs 255 10) rfl rfl HT_ HW_ ?_ hHeld ?_ ?_
    rotate_left
    ·rintro w' ⟨s0, s1, s2, s3⟩
     go_simp
     with_reducible rfl
    rotate_left
    ·simp only [pA, pS, pZ, pK, i64_w, i32_w]
     rfl
    refine one_ (i := 8) (N := some 25) (bs 511 10) rfl rfl (one_of HT_.out (by kernel_rfl)) (by decide) (fun K hK => ?_)
    refine goes_ Try.func177 (by kernel_rfl) rfl #[.agg #[.int .i64 ((rd_T165 l0 x5_1).f0), .int .i64 ((rd_T165 l0 x5_1).f1)], .agg #[.int .i64 ((rd_T165 l1 x5_1).f0), .int .i64 ((rd_T165 l1 x5_1).f1)]] (by rfl) rfl rfl (by (try simp only [List.map_toArray, List.map_cons, List.map_nil]); first | done | rfl | (simp only [List.length_drop, List.length_take]; rfl)) ?_
    with_reducible refine (laws_eqReadMark.calls ((rd_T165 l0 x5_1).f0) ((rd_T165 l0 x5_1).f1) ((rd_T165 l1 x5_1).f0) ((rd_T165 l1 x5_1).f1) false _ A7.out).mono ?_
    rintro e w12 ⟨rfl, hb⟩
    refine ⟨_, rfl, ?_⟩
    replace HB := AM_ (below_step (BT HB.out) hb)
    (try clear hb)
    (try clear hb2)
    (try clear hk)
    (try clear hi)
    refine hK.out _ _ ⟨(BD HB.out hw119_0), (BD HB.out hw119_1), (BD HB.out hw120_0), (BD HB.out hw120_1)⟩ (fun hHeld => ?_)
    clear hK K
    refine norm_ (a' := ?_) ?_ ?_
    rotate_left
    ·show Act.put _ (some 25) _ = _
     simp only [pA, pS, pZ, pK, i64_w, i32_w]
     rfl
    refine pu (i := 9) (N := some 26) (v := ?_) (a' := ?_) (bs 1023 10) rfl rfl HT_ ?_ ?_ ?_
    rotate_left
    ·intro w'
     go_simp
     with_reducible rfl
    rotate_left
    ·simp only [pA, pS, pZ, pK, i64_w, i32_w]
     rfl
    refine done_ (done_of HT_.out (by kernel_rfl)) ?_
    try go_wp2
    go_ret
    exact QT (BT HB.out)
   subst c8
   have H1 : (laws_eqReadMarkS.l0 k1 l0 l1 (wrap64 (x5_1 + 1))) = some r := by rw [if_pos rfl] at H; exact H
   clear H
   have H := H1
   clear H1
   have H' := AM_ H
   clear H
   try go_wp2
   replace HB := AM_ (below_drew1 HB.out)
   have p119 : 0 ≤ (x5_1 : Int) := DT
   have q119 : x5_1 < (l0.length : Int) := DT
   obtain ⟨ad119, e119, hx119_0, hx119_1⟩ := at_T165 HR0.out x5_1 p119 q119
   have hw119_1 := hx119_1
   have hw119_0 := hx119_0
   cases e119
   replace hx119_0 := BC HB.out hx119_0
   replace hx119_1 := BC HB.out hx119_1
   replace p119 := eq_true p119
   replace q119 := eq_true q119
   have p120 : 0 ≤ (x5_1 : Int) := DT
   have q120 : x5_1 < (l1.length : Int) := DT
   obtain ⟨ad120, e120, hx120_0, hx120_1⟩ := at_T165 HR1.out x5_1 p120 q120
   have hw120_1 := hx120_1
   have hw120_0 := hx120_0
   cases e120
   replace hx120_0 := BC HB.out hx120_0
   replace hx120_1 := BC HB.out hx120_1
   replace p120 := eq_true p120
   replace q120 := eq_true q120
   refine start_ (n := 10) (S := fun w' => w'.cell? (ad119.add ((x5_1).toNat * 2)) = some (.int .i64 ((rd_T165 l0 x5_1).f0)) ∧ w'.cell? ⟨(ad119.add ((x5_1).toNat * 2)).block, (ad119.add ((x5_1).toNat * 2)).off + 1, none⟩ = some (.int .i64 ((rd_T165 l0 x5_1).f1)) ∧ w'.cell? (ad120.add ((x5_1).toNat * 2)) = some (.int .i64 ((rd_T165 l1 x5_1).f0)) ∧ w'.cell? ⟨(ad120.add ((x5_1).toNat * 2)).block, (ad120.add ((x5_1).toNat * 2)).off + 1, none⟩ = some (.int .i64 ((rd_T165 l1 x5_1).f1))) (ds := []) (bs 0 10) (by kernel_rfl) rfl rfl ⟨(BD HB.out hw119_0), (BD HB.out hw119_1), (BD HB.out hw120_0), (BD HB.out hw120_1)⟩ (fun hHeld => ?_); refine with_tabW laws_eqReadMarkS.tab6 laws_eqReadMarkS.bits6 (fun HT_ HW_ => ?_)
   generalize wr.drew = w9 at HB hx119_0 hx119_1 hx120_0 hx120_1 hHeld ⊢
   refine pu (i := 0) (N := some 17) (v := ?_) (a' := ?_) (bs 1 10) rfl rfl HT_ ?_ ?_ ?_
   rotate_left
   ·intro w'
    go_simp
    with_reducible rfl
   rotate_left
   ·simp only [pA, pS, pZ, pK, i64_w, i32_w]
    rfl
   refine pu (i := 1) (N := some 18) (v := ?_) (a' := ?_) (bs 3 10) rfl rfl HT_ ?_ ?_ ?_
   rotate_left
   ·intro w'
    go_simp
    with_reducible rfl
   rotate_left
   ·simp only [pA, pS, pZ, pK, i64_w, i32_w]
    rfl
   refine pu (i := 2) (N := some 19) (v := ?_) (a' := ?_) (bs 7 10) rfl rfl HT_ ?_ ?_ ?_
   rotate_left
   ·intro w'
    go_simp
    with_reducible rfl
   rotate_left
   ·simp only [pA, pS, pZ, pK, i64_w, i32_w]
    rfl
   refine pu (i := 4) (N := some 21) (v := ?_) (a' := ?_) (bs 23 10) rfl rfl HT_ ?_ ?_ ?_
   rotate_left
   ·intro w'
    go_simp
    with_reducible rfl
   rotate_left
   ·simp only [pA, pS, pZ, pK, i64_w, i32_w]
    rfl
   refine pu (i := 5) (N := some 22) (v := ?_) (a' := ?_) (bs 55 10) rfl rfl HT_ ?_ ?_ ?_
   rotate_left
   ·intro w'
    go_simp
    with_reducible rfl
   rotate_left
   ·simp only [pA, pS, pZ, pK, i64_w, i32_w]
    rfl
   refine pu (i := 6) (N := some 23) (v := ?_) (a' := ?_) (bs 119 10) rfl rfl HT_ ?_ ?_ ?_
   rotate_left
   ·intro w'
    go_simp
    with_reducible rfl
   rotate_left
   ·simp only [pA, pS, pZ, pK, i64_w, i32_w]
    rfl
   refine tk (i := 3) (N := some 20) (v := ?_) (a' := ?_) (bs 127 10) rfl rfl HT_ HW_ ?_ hHeld ?_ ?_
   rotate_left
   ·rintro w' ⟨s0, s1, s2, s3⟩
    go_simp
    with_reducible rfl
   rotate_left
   ·simp only [pA, pS, pZ, pK, i64_w, i32_w]
    rfl
   refine tk (i := 7) (N := some 24) (v := ?_) (a' := ?_) (bs 255 10) rfl rfl HT_ HW_ ?_ hHeld ?_ ?_
   rotate_left
   ·rintro w' ⟨s0, s1, s2, s3⟩
    go_simp
    with_reducible rfl
   rotate_left
   ·simp only [pA, pS, pZ, pK, i64_w, i32_w]
    rfl
   refine one_ (i := 8) (N := some 25) (bs 511 10) rfl rfl (one_of HT_.out (by kernel_rfl)) (by decide) (fun K hK => ?_)
   refine goes_ Try.func177 (by kernel_rfl) rfl #[.agg #[.int .i64 ((rd_T165 l0 x5_1).f0), .int .i64 ((rd_T165 l0 x5_1).f1)], .agg #[.int .i64 ((rd_T165 l1 x5_1).f0), .int .i64 ((rd_T165 l1 x5_1).f1)]] (by rfl) rfl rfl (by (try simp only [List.map_toArray, List.map_cons, List.map_nil]); first | done | rfl | (simp only [List.length_drop, List.length_take]; rfl)) ?_
   with_reducible refine (laws_eqReadMark.calls ((rd_T165 l0 x5_1).f0) ((rd_T165 l0 x5_1).f1) ((rd_T165 l1 x5_1).f0) ((rd_T165 l1 x5_1).f1) true _ A7.out).mono ?_
   rintro e w10 ⟨rfl, hb⟩
   refine ⟨_, rfl, ?_⟩
   replace HB := AM_ (below_step (BT HB.out) hb)
   (try clear hb)
   (try clear hb2)
   (try clear hk)
   (try clear hi)
   refine hK.out _ _ ⟨(BD HB.out hw119_0), (BD HB.out hw119_1), (BD HB.out hw120_0), (BD HB.out hw120_1)⟩ (fun hHeld => ?_)
   clear hK K
   refine norm_ (a' := ?_) ?_ ?_
   rotate_left
   ·show Act.put _ (some 25) _ = _
    simp only [pA, pS, pZ, pK, i64_w, i32_w]
    rfl
   refine pu (i := 9) (N := some 26) (v := ?_) (a' := ?_) (bs 1023 10) rfl rfl HT_ ?_ ?_ ?_
   rotate_left
   ·intro w'
    go_simp
    with_reducible rfl
   rotate_left
   ·simp only [pA, pS, pZ, pK, i64_w, i32_w]
    rfl
   refine done_ (done_of HT_.out (by kernel_rfl)) ?_
   try go_wp2
   go_roundg k1
   case measure => have := HK1.out; omega
   case rel => exact ⟨(wrap64 (x5_1 + 1)), (by first | rfl | (simp; done) | (simp [*]; done)), H', ⟨by have := HK1.out; omega⟩, ⟨BT HB.out⟩⟩

end Go.Proofs.Ytakpkmlbklahhaa.PFnExactNewEngine
