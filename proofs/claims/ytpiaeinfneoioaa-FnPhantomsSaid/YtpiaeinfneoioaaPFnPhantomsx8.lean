-- Printed by a program of mine (wip/myprint.py), which runs the printer of the kit with contracts of mine beside it.
import Derived.Test.YtpiaeinfneoioaaPFnPhantomsx0
import Derived.Test.YtpiaeinfneoioaaPFnPhantomsx7
namespace Go.Proofs.Ytpiaeinfneoioaa.PFnPhantoms
open Go.RowKit Go.Proofs.YtpiaeinfneoioaaW.PrintWords Go.Proofs.YtpiaeinfneoioaaW.PrintLast Go.Proofs.YtpiaeinfneoioaaW.PrintMore
attribute [local go_sem] max2_int min2_int max_two min_two max_three min_three max_four min_four   -- for this text's walks alone
set_option linter.unusedVariables false
set_option linter.unusedSimpArgs false

/-! ### spec_IsValidVersion: function 187 -/
def spec_IsValidVersion.j0 : Nat → Bool → Int → Int → Int → Int → Int → Option (Bool)
 | 0, _, _, _, _, _, _ => none
 | k + 1, x26, x275000, x275001, x275002, x275003, x275004 => if x26 = true then (some false) else (if x275002 = 0 then (if x275000 = 0 then (some (x275001 == (-1))) else (some false)) else ((spec_l1In.f x275000 1 9).bind fun t279 => (some t279)))
def spec_IsValidVersion.f (k : Nat) (a0_0 : Int) (a0_1 : Int) (a0_2 : Int) (a0_3 : Int) (a0_4 : Int) : Option (Bool) := (spec_l1In.f a0_1 (-1) 99).bind fun t275 => (if t275 = true then ((spec_l1In.f a0_2 0 999).bind fun t276 => (if t276 = true then ((spec_l1In.f a0_3 a0_2 999).bind fun t277 => (if t277 = true then ((spec_l1In.f a0_4 1 1000).bind fun t278 => (spec_IsValidVersion.j0 k (!t278) a0_0 a0_1 a0_2 a0_3 a0_4)) else (spec_IsValidVersion.j0 k true a0_0 a0_1 a0_2 a0_3 a0_4))) else (spec_IsValidVersion.j0 k true a0_0 a0_1 a0_2 a0_3 a0_4))) else (spec_IsValidVersion.j0 k true a0_0 a0_1 a0_2 a0_3 a0_4))
theorem spec_IsValidVersion.mono_l : ∀ k, (∀ y0 y1 y2 y3 y4 y5, LeO (spec_IsValidVersion.j0 k y0 y1 y2 y3 y4 y5) (spec_IsValidVersion.j0 (k + 1) y0 y1 y2 y3 y4 y5))
 | 0 => fun _ _ _ _ _ _ r h => by simp [spec_IsValidVersion.j0] at h
 | k + 1 => by
  have ih0 := spec_IsValidVersion.mono_l k
  ·intro y0 y1 y2 y3 y4 y5
   unfold spec_IsValidVersion.j0
   repeat' first
   | (with_reducible exact ih0 _ _ _ _ _ _)
   | (with_reducible exact LeO.refl _)
   | (with_reducible exact LeO.none _)
   | (with_reducible refine LeO.ite ?_ ?_)
   | (with_reducible refine LeO.bind ?_ (fun _ => ?_))
   | exact ih0 _ _ _ _ _ _
   | exact LeO.none _
   | refine LeO.ite ?_ ?_
   | refine LeO.bind ?_ (fun _ => ?_)
theorem spec_IsValidVersion.mono : ∀ a0 a1 a2 a3 a4 k, LeO (spec_IsValidVersion.f k a0 a1 a2 a3 a4) (spec_IsValidVersion.f (k + 1) a0 a1 a2 a3 a4) := by
 intro a0 a1 a2 a3 a4 k
 have ih0 := spec_IsValidVersion.mono_l k
 unfold spec_IsValidVersion.f
 repeat' first
   | (with_reducible exact ih0 _ _ _ _ _ _)
   | (with_reducible exact LeO.refl _)
   | (with_reducible exact LeO.none _)
   | (with_reducible refine LeO.ite ?_ ?_)
   | (with_reducible refine LeO.bind ?_ (fun _ => ?_))
   | exact ih0 _ _ _ _ _ _
   | exact LeO.none _
   | refine LeO.ite ?_ ?_
   | refine LeO.bind ?_ (fun _ => ?_)
set_option maxHeartbeats 8000000 in
set_option maxRecDepth 100000 in
theorem spec_IsValidVersion.calls (k : Nat) (a0_0 : Int) (a0_1 : Int) (a0_2 : Int) (a0_3 : Int) (a0_4 : Int) (r : Bool) (w : World) (h : spec_IsValidVersion.f k a0_0 a0_1 a0_2 a0_3 a0_4 = some r) :
  Calls Try.prog 187 #[.agg #[.int .i64 a0_0, .int .i64 a0_1, .int .i64 a0_2, .int .i64 a0_3, .int .i64 a0_4]] w fun e w' => e = .returned (.bool r) ∧ Below w.heap.size w w' := by
 have hu160 := Try.underlying160
 have HB := AM_ (Below.refl w.heap.size w)
 have H : ((spec_l1In.f a0_1 (-1) 99).bind fun t275 => (if t275 = true then ((spec_l1In.f a0_2 0 999).bind fun t276 => (if t276 = true then ((spec_l1In.f a0_3 a0_2 999).bind fun t277 => (if t277 = true then ((spec_l1In.f a0_4 1 1000).bind fun t278 => (spec_IsValidVersion.j0 k (!t278) a0_0 a0_1 a0_2 a0_3 a0_4)) else (spec_IsValidVersion.j0 k true a0_0 a0_1 a0_2 a0_3 a0_4))) else (spec_IsValidVersion.j0 k true a0_0 a0_1 a0_2 a0_3 a0_4))) else (spec_IsValidVersion.j0 k true a0_0 a0_1 a0_2 a0_3 a0_4))) = some r := h
 clear h
 have HC2 := AM_ H
 clear H
 go_enter Try.func187, Try.ntmps187
 go_upto_region 1 with (first | ((with_reducible refine gate_dst (N := 1) rfl ?_); refine box_event ?hg (N := 1) ?hd (cs := #[.int .i64 a0_0, .int .i64 a0_1, .int .i64 a0_2, .int .i64 a0_3, .int .i64 a0_4]) (t := 160) ?hr ?_; (case hd => rfl); (case hg => rfl); (case hr => first | (go_simp; done) | (go_simp; rfl)); intro gb274 hg w3 hbox hb; have n0_ := AM_ (below_step (by exact BL HB.out rfl rfl rfl rfl) hb); have n1_ := AM_ (hbox); have n2_ := AM_ ((by rw [hg]; exact (below_size (by exact BL HB.out rfl rfl rfl rfl)) : w.heap.size ≤ gb274)); have n3_ := AM_ ((by rw [hg]; exact (below_size (by exact BL HB.out rfl rfl rfl rfl)) : w.heap.size ≤ gb274)); clear HB; have HB := n0_; have BK274 := n1_; have GW274 := n2_; have GE274 := n3_; clear n0_ n1_ n2_ n3_; clear hb hbox hg))
 (try simp only [pA, pS, pZ, pK])
 go_cut [26] (fun v26 wc => ∃ (kq : Nat) (x26_1 : Bool), v26 = .bool x26_1 ∧ Aside0 (spec_IsValidVersion.j0 kq x26_1 a0_0 a0_1 a0_2 a0_3 a0_4 = some r) ∧ Aside0 (kq ≤ k) ∧ Aside0 (wc.heap[gb274]? = some (.cells #[.int .i64 a0_0, .int .i64 a0_1, .int .i64 a0_2, .int .i64 a0_3, .int .i64 a0_4] 160 (0, 0))) ∧ Aside0 (Below w.heap.size w wc))
 case first =>
  have H := HC2.out
  clear HC2
  replace H := Option.bind_eq_some_iff.mp H
  obtain ⟨t275, A40, H⟩ := H
  replace H : (if t275 = true then ((spec_l1In.f a0_2 0 999).bind fun t276 => (if t276 = true then ((spec_l1In.f a0_3 a0_2 999).bind fun t277 => (if t277 = true then ((spec_l1In.f a0_4 1 1000).bind fun t278 => (spec_IsValidVersion.j0 k (!t278) a0_0 a0_1 a0_2 a0_3 a0_4)) else (spec_IsValidVersion.j0 k true a0_0 a0_1 a0_2 a0_3 a0_4))) else (spec_IsValidVersion.j0 k true a0_0 a0_1 a0_2 a0_3 a0_4))) else (spec_IsValidVersion.j0 k true a0_0 a0_1 a0_2 a0_3 a0_4)) = some r := H
  have A4 := AM_ A40
  clear A40
  by_cases c5 : t275 = true
  rotate_left
  ·replace c5 := Bool.eq_false_iff.mpr c5
   subst c5
   have H1 : (spec_IsValidVersion.j0 k true a0_0 a0_1 a0_2 a0_3 a0_4) = some r := by rw [if_neg (show ¬ (false = true) by decide)] at H; exact H
   clear H
   have H := H1
   clear H1
   have H' := AM_ H
   clear H
   have hcz14_0 : w3.cell? ⟨gb274, 0, none⟩ = some (.int .i64 a0_0) := (blk_cell BK274.out 0).trans rfl
   have hcz14_1 : w3.cell? ⟨gb274, 1, none⟩ = some (.int .i64 a0_1) := (blk_cell BK274.out 1).trans rfl
   have hcz14_2 : w3.cell? ⟨gb274, 2, none⟩ = some (.int .i64 a0_2) := (blk_cell BK274.out 2).trans rfl
   have hcz14_3 : w3.cell? ⟨gb274, 3, none⟩ = some (.int .i64 a0_3) := (blk_cell BK274.out 3).trans rfl
   have hcz14_4 : w3.cell? ⟨gb274, 4, none⟩ = some (.int .i64 a0_4) := (blk_cell BK274.out 4).trans rfl
   have hfz14_0 := blk_frozen BK274.out 0
   have hfz14_1 := blk_frozen BK274.out 1
   have hfz14_2 := blk_frozen BK274.out 2
   have hfz14_3 := blk_frozen BK274.out 3
   have hfz14_4 := blk_frozen BK274.out 4
   go_wp2_with (first | ((with_reducible refine gate_callee (f := 96) rfl ?_); refine goesL_ (some 5) rfl rfl Try.func96 (by kernel_rfl) rfl #[.int .i64 a0_1, .int .i64 (-1), .int .i64 99] rfl (by (try simp only [List.map_toArray, List.map_cons, List.map_nil]); first | done | rfl | (simp only [List.length_drop, List.length_take]; rfl)) ?_; (with_reducible refine (spec_l1In.calls a0_1 (-1) 99 false _ A4.out).mono ?_); rintro e w' ⟨rfl, ⟨nd, rfl⟩⟩; refine ⟨_, rfl, ?_⟩))
   go_meet
   case rel => exact ⟨_, (true), (by first | rfl | (simp; done) | (simp [*]; done)), H', ⟨by first | omega | exact Nat.le_refl _⟩, ⟨by (with_reducible repeat (first | refine blk_drewN ?_ _ | refine blk_drew ?_ | refine blk_alloc ?_ _)); exact BK274.out⟩, ⟨by repeat (first | (with_reducible first | exact HB.out | apply below_alloc | apply pw_below_drewN | apply below_drew1 | refine below_set ?_ GE274.out) | exact HB.out)⟩⟩
  subst c5
  have H1 : ((spec_l1In.f a0_2 0 999).bind fun t276 => (if t276 = true then ((spec_l1In.f a0_3 a0_2 999).bind fun t277 => (if t277 = true then ((spec_l1In.f a0_4 1 1000).bind fun t278 => (spec_IsValidVersion.j0 k (!t278) a0_0 a0_1 a0_2 a0_3 a0_4)) else (spec_IsValidVersion.j0 k true a0_0 a0_1 a0_2 a0_3 a0_4))) else (spec_IsValidVersion.j0 k true a0_0 a0_1 a0_2 a0_3 a0_4))) = some r := by rw [if_pos rfl] at H; exact H
  clear H
  have H := H1
  clear H1
  replace H := Option.bind_eq_some_iff.mp H
  obtain ⟨t276, A60, H⟩ := H
  replace H : (if t276 = true then ((spec_l1In.f a0_3 a0_2 999).bind fun t277 => (if t277 = true then ((spec_l1In.f a0_4 1 1000).bind fun t278 => (spec_IsValidVersion.j0 k (!t278) a0_0 a0_1 a0_2 a0_3 a0_4)) else (spec_IsValidVersion.j0 k true a0_0 a0_1 a0_2 a0_3 a0_4))) else (spec_IsValidVersion.j0 k true a0_0 a0_1 a0_2 a0_3 a0_4)) = some r := H
  have A6 := AM_ A60
  clear A60
  by_cases c7 : t276 = true
  rotate_left
  ·replace c7 := Bool.eq_false_iff.mpr c7
   subst c7
   have H1 : (spec_IsValidVersion.j0 k true a0_0 a0_1 a0_2 a0_3 a0_4) = some r := by rw [if_neg (show ¬ (false = true) by decide)] at H; exact H
   clear H
   have H := H1
   clear H1
   have H' := AM_ H
   clear H
   have hcz13_0 : w3.cell? ⟨gb274, 0, none⟩ = some (.int .i64 a0_0) := (blk_cell BK274.out 0).trans rfl
   have hcz13_1 : w3.cell? ⟨gb274, 1, none⟩ = some (.int .i64 a0_1) := (blk_cell BK274.out 1).trans rfl
   have hcz13_2 : w3.cell? ⟨gb274, 2, none⟩ = some (.int .i64 a0_2) := (blk_cell BK274.out 2).trans rfl
   have hcz13_3 : w3.cell? ⟨gb274, 3, none⟩ = some (.int .i64 a0_3) := (blk_cell BK274.out 3).trans rfl
   have hcz13_4 : w3.cell? ⟨gb274, 4, none⟩ = some (.int .i64 a0_4) := (blk_cell BK274.out 4).trans rfl
   have hfz13_0 := blk_frozen BK274.out 0
   have hfz13_1 := blk_frozen BK274.out 1
   have hfz13_2 := blk_frozen BK274.out 2
   have hfz13_3 := blk_frozen BK274.out 3
   have hfz13_4 := blk_frozen BK274.out 4
   go_wp2_with (first | ((with_reducible refine gate_callee (f := 96) rfl ?_); refine goesL_ (some 5) rfl rfl Try.func96 (by kernel_rfl) rfl #[.int .i64 a0_1, .int .i64 (-1), .int .i64 99] rfl (by (try simp only [List.map_toArray, List.map_cons, List.map_nil]); first | done | rfl | (simp only [List.length_drop, List.length_take]; rfl)) ?_; (with_reducible refine (spec_l1In.calls a0_1 (-1) 99 true _ A4.out).mono ?_); rintro e w' ⟨rfl, ⟨nd, rfl⟩⟩; refine ⟨_, rfl, ?_⟩) | (go_at_call 96; (with_reducible refine (spec_l1In.calls a0_2 0 999 false _ A6.out).mono ?_); rintro e w' ⟨rfl, ⟨nd, rfl⟩⟩))
   go_meet
   case rel => exact ⟨_, (true), (by first | rfl | (simp; done) | (simp [*]; done)), H', ⟨by first | omega | exact Nat.le_refl _⟩, ⟨by (with_reducible repeat (first | refine blk_drewN ?_ _ | refine blk_drew ?_ | refine blk_alloc ?_ _)); exact BK274.out⟩, ⟨by repeat (first | (with_reducible first | exact HB.out | apply below_alloc | apply pw_below_drewN | apply below_drew1 | refine below_set ?_ GE274.out) | exact HB.out)⟩⟩
  subst c7
  have H1 : ((spec_l1In.f a0_3 a0_2 999).bind fun t277 => (if t277 = true then ((spec_l1In.f a0_4 1 1000).bind fun t278 => (spec_IsValidVersion.j0 k (!t278) a0_0 a0_1 a0_2 a0_3 a0_4)) else (spec_IsValidVersion.j0 k true a0_0 a0_1 a0_2 a0_3 a0_4))) = some r := by rw [if_pos rfl] at H; exact H
  clear H
  have H := H1
  clear H1
  replace H := Option.bind_eq_some_iff.mp H
  obtain ⟨t277, A80, H⟩ := H
  replace H : (if t277 = true then ((spec_l1In.f a0_4 1 1000).bind fun t278 => (spec_IsValidVersion.j0 k (!t278) a0_0 a0_1 a0_2 a0_3 a0_4)) else (spec_IsValidVersion.j0 k true a0_0 a0_1 a0_2 a0_3 a0_4)) = some r := H
  have A8 := AM_ A80
  clear A80
  by_cases c9 : t277 = true
  rotate_left
  ·replace c9 := Bool.eq_false_iff.mpr c9
   subst c9
   have H1 : (spec_IsValidVersion.j0 k true a0_0 a0_1 a0_2 a0_3 a0_4) = some r := by rw [if_neg (show ¬ (false = true) by decide)] at H; exact H
   clear H
   have H := H1
   clear H1
   have H' := AM_ H
   clear H
   have hcz12_0 : w3.cell? ⟨gb274, 0, none⟩ = some (.int .i64 a0_0) := (blk_cell BK274.out 0).trans rfl
   have hcz12_1 : w3.cell? ⟨gb274, 1, none⟩ = some (.int .i64 a0_1) := (blk_cell BK274.out 1).trans rfl
   have hcz12_2 : w3.cell? ⟨gb274, 2, none⟩ = some (.int .i64 a0_2) := (blk_cell BK274.out 2).trans rfl
   have hcz12_3 : w3.cell? ⟨gb274, 3, none⟩ = some (.int .i64 a0_3) := (blk_cell BK274.out 3).trans rfl
   have hcz12_4 : w3.cell? ⟨gb274, 4, none⟩ = some (.int .i64 a0_4) := (blk_cell BK274.out 4).trans rfl
   have hfz12_0 := blk_frozen BK274.out 0
   have hfz12_1 := blk_frozen BK274.out 1
   have hfz12_2 := blk_frozen BK274.out 2
   have hfz12_3 := blk_frozen BK274.out 3
   have hfz12_4 := blk_frozen BK274.out 4
   go_wp2_with (first | ((with_reducible refine gate_callee (f := 96) rfl ?_); refine goesL_ (some 5) rfl rfl Try.func96 (by kernel_rfl) rfl #[.int .i64 a0_1, .int .i64 (-1), .int .i64 99] rfl (by (try simp only [List.map_toArray, List.map_cons, List.map_nil]); first | done | rfl | (simp only [List.length_drop, List.length_take]; rfl)) ?_; (with_reducible refine (spec_l1In.calls a0_1 (-1) 99 true _ A4.out).mono ?_); rintro e w' ⟨rfl, ⟨nd, rfl⟩⟩; refine ⟨_, rfl, ?_⟩) | (go_at_call 96; (with_reducible refine (spec_l1In.calls a0_2 0 999 true _ A6.out).mono ?_); rintro e w' ⟨rfl, ⟨nd, rfl⟩⟩) | (go_at_call 96; (with_reducible refine (spec_l1In.calls a0_3 a0_2 999 false _ A8.out).mono ?_); rintro e w' ⟨rfl, ⟨nd, rfl⟩⟩))
   go_meet
   case rel => exact ⟨_, (true), (by first | rfl | (simp; done) | (simp [*]; done)), H', ⟨by first | omega | exact Nat.le_refl _⟩, ⟨by (with_reducible repeat (first | refine blk_drewN ?_ _ | refine blk_drew ?_ | refine blk_alloc ?_ _)); exact BK274.out⟩, ⟨by repeat (first | (with_reducible first | exact HB.out | apply below_alloc | apply pw_below_drewN | apply below_drew1 | refine below_set ?_ GE274.out) | exact HB.out)⟩⟩
  subst c9
  have H1 : ((spec_l1In.f a0_4 1 1000).bind fun t278 => (spec_IsValidVersion.j0 k (!t278) a0_0 a0_1 a0_2 a0_3 a0_4)) = some r := by rw [if_pos rfl] at H; exact H
  clear H
  have H := H1
  clear H1
  replace H := Option.bind_eq_some_iff.mp H
  obtain ⟨t278, A100, H⟩ := H
  replace H : (spec_IsValidVersion.j0 k (!t278) a0_0 a0_1 a0_2 a0_3 a0_4) = some r := H
  have A10 := AM_ A100
  clear A100
  have H' := AM_ H
  clear H
  have hcz11_0 : w3.cell? ⟨gb274, 0, none⟩ = some (.int .i64 a0_0) := (blk_cell BK274.out 0).trans rfl
  have hcz11_1 : w3.cell? ⟨gb274, 1, none⟩ = some (.int .i64 a0_1) := (blk_cell BK274.out 1).trans rfl
  have hcz11_2 : w3.cell? ⟨gb274, 2, none⟩ = some (.int .i64 a0_2) := (blk_cell BK274.out 2).trans rfl
  have hcz11_3 : w3.cell? ⟨gb274, 3, none⟩ = some (.int .i64 a0_3) := (blk_cell BK274.out 3).trans rfl
  have hcz11_4 : w3.cell? ⟨gb274, 4, none⟩ = some (.int .i64 a0_4) := (blk_cell BK274.out 4).trans rfl
  have hfz11_0 := blk_frozen BK274.out 0
  have hfz11_1 := blk_frozen BK274.out 1
  have hfz11_2 := blk_frozen BK274.out 2
  have hfz11_3 := blk_frozen BK274.out 3
  have hfz11_4 := blk_frozen BK274.out 4
  go_wp2_with (first | ((with_reducible refine gate_callee (f := 96) rfl ?_); refine goesL_ (some 5) rfl rfl Try.func96 (by kernel_rfl) rfl #[.int .i64 a0_1, .int .i64 (-1), .int .i64 99] rfl (by (try simp only [List.map_toArray, List.map_cons, List.map_nil]); first | done | rfl | (simp only [List.length_drop, List.length_take]; rfl)) ?_; (with_reducible refine (spec_l1In.calls a0_1 (-1) 99 true _ A4.out).mono ?_); rintro e w' ⟨rfl, ⟨nd, rfl⟩⟩; refine ⟨_, rfl, ?_⟩) | (go_at_call 96; (with_reducible refine (spec_l1In.calls a0_2 0 999 true _ A6.out).mono ?_); rintro e w' ⟨rfl, ⟨nd, rfl⟩⟩) | (go_at_call 96; (with_reducible refine (spec_l1In.calls a0_3 a0_2 999 true _ A8.out).mono ?_); rintro e w' ⟨rfl, ⟨nd, rfl⟩⟩) | (go_at_call 96; (with_reducible refine (spec_l1In.calls a0_4 1 1000 t278 _ A10.out).mono ?_); rintro e w' ⟨rfl, ⟨nd, rfl⟩⟩))
  go_meet
  case rel => exact ⟨_, (!t278), (by first | rfl | (simp; done) | (simp [*]; done)), H', ⟨by first | omega | exact Nat.le_refl _⟩, ⟨by (with_reducible repeat (first | refine blk_drewN ?_ _ | refine blk_drew ?_ | refine blk_alloc ?_ _)); exact BK274.out⟩, ⟨by repeat (first | (with_reducible first | exact HB.out | apply below_alloc | apply pw_below_drewN | apply below_drew1 | refine below_set ?_ GE274.out) | exact HB.out)⟩⟩
 case rest =>
  clear HC2
  try clear c1
  try clear p2
  try clear c5
  try clear c7
  try clear c9
  try clear hcz11_0
  try clear hcz11_1
  try clear hcz11_2
  try clear hcz11_3
  try clear hcz11_4
  try clear hcz12_0
  try clear hcz12_1
  try clear hcz12_2
  try clear hcz12_3
  try clear hcz12_4
  try clear hcz13_0
  try clear hcz13_1
  try clear hcz13_2
  try clear hcz13_3
  try clear hcz13_4
  try clear hcz14_0
  try clear hcz14_1
  try clear hcz14_2
  try clear hcz14_3
  try clear hcz14_4
  try clear hfz11_0
  try clear hfz11_1
  try clear hfz11_2
  try clear hfz11_3
  try clear hfz11_4
  try clear hfz12_0
  try clear hfz12_1
  try clear hfz12_2
  try clear hfz12_3
  try clear hfz12_4
  try clear hfz13_0
  try clear hfz13_1
  try clear hfz13_2
  try clear hfz13_3
  try clear hfz13_4
  try clear hfz14_0
  try clear hfz14_1
  try clear hfz14_2
  try clear hfz14_3
  try clear hfz14_4
  obtain ⟨kq, x26_1, rfl, HA, HJ1, BK274, HB⟩ := hcut
  cases kq with
  | zero => exact absurd HA.out (by simp [spec_IsValidVersion.j0])
  | succ kj1 =>
   have H := HA.out
   clear HA
   simp only [spec_IsValidVersion.j0] at H
   by_cases c15 : x26_1 = true
   ·subst c15
    have H1 : (some false) = some r := by rw [if_pos rfl] at H; exact H
    clear H
    have H := H1
    clear H1
    obtain rfl := Option.some.inj H
    go_wp2
    go_ret
    exact ⟨by first | rfl | (simp [errW_none, errW_some] <;> rfl) | (simp [*, errW_none, errW_some] <;> rfl), by repeat (first | (with_reducible first | exact HB.out | apply below_alloc | apply pw_below_drewN | apply below_drew1 | refine below_set ?_ GE274.out) | exact HB.out)⟩
   replace c15 := Bool.eq_false_iff.mpr c15
   subst c15
   have H1 : (if a0_2 = 0 then (if a0_0 = 0 then (some (a0_1 == (-1))) else (some false)) else ((spec_l1In.f a0_0 1 9).bind fun t279 => (some t279))) = some r := by rw [if_neg (show ¬ (false = true) by decide)] at H; exact H
   clear H
   have H := H1
   clear H1
   by_cases c16 : a0_2 = 0
   rotate_left
   ·rw [if_neg c16] at H
    have c16b0 : (a0_2 == 0) = false := beq_eq_false_iff_ne.mpr c16
    have c16b1 : (a0_2 != 0) = true := bne_iff_ne.mpr c16
    replace H := Option.bind_eq_some_iff.mp H
    obtain ⟨t279, A200, H⟩ := H
    replace H : (some t279) = some r := H
    have A20 := AM_ A200
    clear A200
    obtain rfl := Option.some.inj H
    have hcz21_0 : wc.cell? ⟨gb274, 0, none⟩ = some (.int .i64 a0_0) := (blk_cell BK274.out 0).trans rfl
    have hcz21_1 : wc.cell? ⟨gb274, 1, none⟩ = some (.int .i64 a0_1) := (blk_cell BK274.out 1).trans rfl
    have hcz21_2 : wc.cell? ⟨gb274, 2, none⟩ = some (.int .i64 a0_2) := (blk_cell BK274.out 2).trans rfl
    have hcz21_3 : wc.cell? ⟨gb274, 3, none⟩ = some (.int .i64 a0_3) := (blk_cell BK274.out 3).trans rfl
    have hcz21_4 : wc.cell? ⟨gb274, 4, none⟩ = some (.int .i64 a0_4) := (blk_cell BK274.out 4).trans rfl
    have hfz21_0 := blk_frozen BK274.out 0
    have hfz21_1 := blk_frozen BK274.out 1
    have hfz21_2 := blk_frozen BK274.out 2
    have hfz21_3 := blk_frozen BK274.out 3
    have hfz21_4 := blk_frozen BK274.out 4
    go_wp2_with (first | ((with_reducible refine gate_callee (f := 96) rfl ?_); refine goesL_ (some 40) rfl rfl Try.func96 (by kernel_rfl) rfl #[.int .i64 a0_0, .int .i64 1, .int .i64 9] rfl (by (try simp only [List.map_toArray, List.map_cons, List.map_nil]); first | done | rfl | (simp only [List.length_drop, List.length_take]; rfl)) ?_; (with_reducible refine (spec_l1In.calls a0_0 1 9 t279 _ A20.out).mono ?_); rintro e w' ⟨rfl, ⟨nd, rfl⟩⟩; refine ⟨_, rfl, ?_⟩))
    go_ret
    exact ⟨by first | rfl | (simp [errW_none, errW_some] <;> rfl) | (simp [*, errW_none, errW_some] <;> rfl), by repeat (first | (with_reducible first | exact HB.out | apply below_alloc | apply pw_below_drewN | apply below_drew1 | refine below_set ?_ GE274.out) | exact HB.out)⟩
   rw [if_pos c16] at H
   have c16b0 : (a0_2 == 0) = true := beq_iff_eq.mpr c16
   have c16b1 : (a0_2 != 0) = false := bne_eq_false_iff_eq.mpr c16
   clear c16
   by_cases c17 : a0_0 = 0
   rotate_left
   ·rw [if_neg c17] at H
    have c17b0 : (a0_0 == 0) = false := beq_eq_false_iff_ne.mpr c17
    have c17b1 : (a0_0 != 0) = true := bne_iff_ne.mpr c17
    obtain rfl := Option.some.inj H
    have hcz19_0 : wc.cell? ⟨gb274, 0, none⟩ = some (.int .i64 a0_0) := (blk_cell BK274.out 0).trans rfl
    have hcz19_1 : wc.cell? ⟨gb274, 1, none⟩ = some (.int .i64 a0_1) := (blk_cell BK274.out 1).trans rfl
    have hcz19_2 : wc.cell? ⟨gb274, 2, none⟩ = some (.int .i64 a0_2) := (blk_cell BK274.out 2).trans rfl
    have hcz19_3 : wc.cell? ⟨gb274, 3, none⟩ = some (.int .i64 a0_3) := (blk_cell BK274.out 3).trans rfl
    have hcz19_4 : wc.cell? ⟨gb274, 4, none⟩ = some (.int .i64 a0_4) := (blk_cell BK274.out 4).trans rfl
    have hfz19_0 := blk_frozen BK274.out 0
    have hfz19_1 := blk_frozen BK274.out 1
    have hfz19_2 := blk_frozen BK274.out 2
    have hfz19_3 := blk_frozen BK274.out 3
    have hfz19_4 := blk_frozen BK274.out 4
    go_wp2
    go_ret
    exact ⟨by first | rfl | (simp [errW_none, errW_some] <;> rfl) | (simp [*, errW_none, errW_some] <;> rfl), by repeat (first | (with_reducible first | exact HB.out | apply below_alloc | apply pw_below_drewN | apply below_drew1 | refine below_set ?_ GE274.out) | exact HB.out)⟩
   rw [if_pos c17] at H
   have c17b0 : (a0_0 == 0) = true := beq_iff_eq.mpr c17
   have c17b1 : (a0_0 != 0) = false := bne_eq_false_iff_eq.mpr c17
   clear c17
   obtain rfl := Option.some.inj H
   have hcz18_0 : wc.cell? ⟨gb274, 0, none⟩ = some (.int .i64 a0_0) := (blk_cell BK274.out 0).trans rfl
   have hcz18_1 : wc.cell? ⟨gb274, 1, none⟩ = some (.int .i64 a0_1) := (blk_cell BK274.out 1).trans rfl
   have hcz18_2 : wc.cell? ⟨gb274, 2, none⟩ = some (.int .i64 a0_2) := (blk_cell BK274.out 2).trans rfl
   have hcz18_3 : wc.cell? ⟨gb274, 3, none⟩ = some (.int .i64 a0_3) := (blk_cell BK274.out 3).trans rfl
   have hcz18_4 : wc.cell? ⟨gb274, 4, none⟩ = some (.int .i64 a0_4) := (blk_cell BK274.out 4).trans rfl
   have hfz18_0 := blk_frozen BK274.out 0
   have hfz18_1 := blk_frozen BK274.out 1
   have hfz18_2 := blk_frozen BK274.out 2
   have hfz18_3 := blk_frozen BK274.out 3
   have hfz18_4 := blk_frozen BK274.out 4
   go_wp2
   go_ret
   exact ⟨by first | rfl | (simp [errW_none, errW_some] <;> rfl) | (simp [*, errW_none, errW_some] <;> rfl), by repeat (first | (with_reducible first | exact HB.out | apply below_alloc | apply pw_below_drewN | apply below_drew1 | refine below_set ?_ GE274.out) | exact HB.out)⟩

/-! ### spec_IsValidChain: function 124 -/
def spec_IsValidChain.l0 : Nat → List (S160) → Int → Option (Bool)
 | 0, _, _ => none
 | k + 1, x0, x3 => if x3 < (x0.length : Int) then (if 0 ≤ x3 then ((spec_IsValidVersion.f k ((rd_T160 x0 x3).f0) ((rd_T160 x0 x3).f1) ((rd_T160 x0 x3).f2) ((rd_T160 x0 x3).f3) ((rd_T160 x0 x3).f4)).bind fun t282 => (if t282 = true then (if (wrap64 (x3 + 1)) < (x0.length : Int) then (if 0 ≤ (wrap64 (x3 + 1)) then (if ((rd_T160 x0 x3).f2) ≥ ((rd_T160 x0 (wrap64 (x3 + 1))).f2) then (some false) else (if ((rd_T160 x0 x3).f4) > ((rd_T160 x0 (wrap64 (x3 + 1))).f2) then (some false) else (spec_IsValidChain.l0 k x0 (wrap64 (x3 + 1))))) else (none)) else (spec_IsValidChain.l0 k x0 (wrap64 (x3 + 1)))) else (some false))) else (none)) else (if (x0.length : Int) > 0 then (if 0 ≤ (wrap64 ((x0.length : Int) - 1)) then (if (wrap64 ((x0.length : Int) - 1)) < (x0.length : Int) then (some (((rd_T160 x0 (wrap64 ((x0.length : Int) - 1))).f4) == 1000)) else (none)) else (none)) else (some false))
def spec_IsValidChain.f (k : Nat) (l0 : List (S160)) : Option (Bool) := spec_IsValidChain.l0 k l0 0
theorem spec_IsValidChain.mono_l : ∀ k, (∀ y0 y1, LeO (spec_IsValidChain.l0 k y0 y1) (spec_IsValidChain.l0 (k + 1) y0 y1))
 | 0 => fun _ _ r h => by simp [spec_IsValidChain.l0] at h
 | k + 1 => by
  have ih0 := spec_IsValidChain.mono_l k
  ·intro y0 y1
   unfold spec_IsValidChain.l0
   repeat' first
   | (with_reducible exact ih0 _ _)
   | (with_reducible exact spec_IsValidVersion.mono _ _ _ _ _ _)
   | (with_reducible exact LeO.refl _)
   | (with_reducible exact LeO.none _)
   | (with_reducible refine LeO.ite ?_ ?_)
   | (with_reducible refine LeO.bind ?_ (fun _ => ?_))
   | exact ih0 _ _
   | exact spec_IsValidVersion.mono _ _ _ _ _ _
   | exact LeO.none _
   | refine LeO.ite ?_ ?_
   | refine LeO.bind ?_ (fun _ => ?_)
theorem spec_IsValidChain.mono : ∀ a0 k, LeO (spec_IsValidChain.f k a0) (spec_IsValidChain.f (k + 1) a0) := by
 intro a0 k
 have ih0 := spec_IsValidChain.mono_l k
 unfold spec_IsValidChain.f
 repeat' first
   | (with_reducible exact ih0 _ _)
   | (with_reducible exact spec_IsValidVersion.mono _ _ _ _ _ _)
   | (with_reducible exact LeO.refl _)
   | (with_reducible exact LeO.none _)
   | (with_reducible refine LeO.ite ?_ ?_)
   | (with_reducible refine LeO.bind ?_ (fun _ => ?_))
   | exact ih0 _ _
   | exact spec_IsValidVersion.mono _ _ _ _ _ _
   | exact LeO.none _
   | refine LeO.ite ?_ ?_
   | refine LeO.bind ?_ (fun _ => ?_)
set_option maxHeartbeats 8000000 in
set_option maxRecDepth 100000 in
theorem spec_IsValidChain.calls (k : Nat) (A0 : Option Addr) (c0 : Nat) (l0 : List (S160)) (r : Bool) (w : World) (hr0 : Kd.C k160 w A0 l0.length l0) (hc0 : l0.length ≤ c0) (h : spec_IsValidChain.f k l0 = some r) :
  Calls Try.prog 124 #[.slice A0 l0.length c0] w fun e w' => e = .returned (.bool r) ∧ Below w.heap.size w w' := by
 have hu160 := Try.underlying160
 have HR0 := AM_ hr0
 have HC0 := AM_ hc0
 clear hr0 hc0
 have HB := AM_ (Below.refl w.heap.size w)
 have H : (spec_IsValidChain.l0 k l0 0) = some r := h
 clear h
 have H' := AM_ H
 clear H
 go_enter Try.func124, Try.ntmps124
 go_wp2
 repeat (go_quiet (fail); try go_wp2)
 go_loopg [3] k (fun kq v3 w' => ∃ (x3_1 : Int), v3 = .int .i64 x3_1 ∧ Aside0 (spec_IsValidChain.l0 kq l0 x3_1 = some r) ∧ Aside0 (kq ≤ k) ∧ Aside0 (Below w.heap.size w w'))
 case atStart => exact ⟨(0), (by first | rfl | (simp; done) | (simp [*]; done)), H', ⟨Nat.le_refl _⟩, ⟨by exact BL HB.out rfl rfl rfl rfl⟩⟩
 case round =>
  clear H'
  try clear c1
  obtain ⟨x3_1, rfl, HA, HK1, HB⟩ := hrel
  cases gk with
  | zero => exact absurd HA.out (by simp [spec_IsValidChain.l0])
  | succ k1 =>
   have H := HA.out
   clear HA
   simp only [spec_IsValidChain.l0] at H
   by_cases c2 : x3_1 < (l0.length : Int)
   rotate_left
   ·rw [if_neg c2] at H
    have c2b0 : decide (x3_1 < (l0.length : Int)) = false := decide_eq_false c2
    clear c2
    by_cases c16 : (l0.length : Int) > 0
    rotate_left
    ·rw [if_neg c16] at H
     have c16b0 : decide (0 < (l0.length : Int)) = false := decide_eq_false c16
     have c16b1 : decide (0 < l0.length) = false := decide_eq_false (by omega)
     clear c16
     obtain rfl := Option.some.inj H
     go_wp2
     repeat (go_quiet (fail); try go_wp2)
     go_ret
     exact ⟨by first | rfl | (simp [errW_none, errW_some] <;> rfl) | (simp [*, errW_none, errW_some] <;> rfl), by exact BL HB.out rfl rfl rfl rfl⟩
    rw [if_pos c16] at H
    have c16b0 : decide (0 < (l0.length : Int)) = true := decide_eq_true c16
    have c16b1 : decide (0 < l0.length) = true := decide_eq_true (by omega)
    clear c16
    obtain ⟨ji17, hji17⟩ : ∃ j_ : Int, (wrap64 ((l0.length : Int) - 1)) = j_ := ⟨_, rfl⟩
    replace H : (if 0 ≤ (ji17) then (if (ji17) < (l0.length : Int) then (some (((rd_T160 l0 (ji17)).f4) == 1000)) else (none)) else (none)) = some r := by first | (rw [hji17] at H; exact H) | (simp only [hji17] at H ⊢; exact H)
    have hji17w : (IntKind.i64.wrap ((l0.length : Int) - 1)) = ji17 := (i64_w _).trans hji17
    by_cases c18 : 0 ≤ (ji17)
    rotate_left
    ·rw [if_neg c18] at H
     exact absurd H (by simp)
    rw [if_pos c18] at H
    have c18b0 : decide (0 ≤ (ji17)) = true := decide_eq_true c18
    clear c18
    by_cases c19 : (ji17) < (l0.length : Int)
    rotate_left
    ·rw [if_neg c19] at H
     exact absurd H (by simp)
    rw [if_pos c19] at H
    have c19b0 : decide ((ji17) < (l0.length : Int)) = true := decide_eq_true c19
    clear c19
    obtain rfl := Option.some.inj H
    have p280 : 0 ≤ ((ji17) : Int) := of_decide_eq_true (by first | (with_reducible assumption) | assumption)
    have q280 : (ji17) < (l0.length : Int) := of_decide_eq_true (by first | (with_reducible assumption) | assumption)
    obtain ⟨ad280, e280, hx280_0, hx280_1, hx280_2, hx280_3, hx280_4⟩ := at_T160 HR0.out (ji17) p280 q280
    cases e280
    replace hx280_0 := BC HB.out hx280_0
    replace hx280_1 := BC HB.out hx280_1
    replace hx280_2 := BC HB.out hx280_2
    replace hx280_3 := BC HB.out hx280_3
    replace hx280_4 := BC HB.out hx280_4
    replace p280 := eq_true p280
    replace q280 := eq_true q280
    go_wp2
    repeat (go_quiet (fail); try go_wp2)
    go_ret
    exact ⟨by first | rfl | (simp [errW_none, errW_some] <;> rfl) | (simp only [← hji17]; first | rfl | (simp [errW_none, errW_some] <;> rfl)) | (simp [*, errW_none, errW_some] <;> rfl), by exact BL HB.out rfl rfl rfl rfl⟩
   rw [if_pos c2] at H
   have c2b0 : decide (x3_1 < (l0.length : Int)) = true := decide_eq_true c2
   clear c2
   by_cases c3 : 0 ≤ x3_1
   rotate_left
   ·rw [if_neg c3] at H
    exact absurd H (by simp)
   rw [if_pos c3] at H
   have c3b0 : decide (0 ≤ x3_1) = true := decide_eq_true c3
   clear c3
   replace H := Option.bind_eq_some_iff.mp H
   obtain ⟨t282, A40, H⟩ := H
   replace H : (if t282 = true then (if (wrap64 (x3_1 + 1)) < (l0.length : Int) then (if 0 ≤ (wrap64 (x3_1 + 1)) then (if ((rd_T160 l0 x3_1).f2) ≥ ((rd_T160 l0 (wrap64 (x3_1 + 1))).f2) then (some false) else (if ((rd_T160 l0 x3_1).f4) > ((rd_T160 l0 (wrap64 (x3_1 + 1))).f2) then (some false) else (spec_IsValidChain.l0 k1 l0 (wrap64 (x3_1 + 1))))) else (none)) else (spec_IsValidChain.l0 k1 l0 (wrap64 (x3_1 + 1)))) else (some false)) = some r := H
   have A4 := AM_ A40
   clear A40
   by_cases c5 : t282 = true
   rotate_left
   ·replace c5 := Bool.eq_false_iff.mpr c5
    subst c5
    have H1 : (some false) = some r := by rw [if_neg (show ¬ (false = true) by decide)] at H; exact H
    clear H
    have H := H1
    clear H1
    obtain rfl := Option.some.inj H
    have p281 : 0 ≤ (x3_1 : Int) := of_decide_eq_true (by first | (with_reducible assumption) | assumption)
    have q281 : x3_1 < (l0.length : Int) := of_decide_eq_true (by first | (with_reducible assumption) | assumption)
    obtain ⟨ad281, e281, hx281_0, hx281_1, hx281_2, hx281_3, hx281_4⟩ := at_T160 HR0.out x3_1 p281 q281
    cases e281
    replace hx281_0 := BC HB.out hx281_0
    replace hx281_1 := BC HB.out hx281_1
    replace hx281_2 := BC HB.out hx281_2
    replace hx281_3 := BC HB.out hx281_3
    replace hx281_4 := BC HB.out hx281_4
    replace p281 := eq_true p281
    replace q281 := eq_true q281
    go_wp2_with (first | (go_at_call 187; (with_reducible refine (spec_IsValidVersion.calls k1 ((rd_T160 l0 x3_1).f0) ((rd_T160 l0 x3_1).f1) ((rd_T160 l0 x3_1).f2) ((rd_T160 l0 x3_1).f3) ((rd_T160 l0 x3_1).f4) false _ A4.out).mono ?_); rintro e w15 ⟨rfl, hb⟩; have n0_ := AM_ (below_step (by exact BL HB.out rfl rfl rfl rfl) hb); clear HB; have HB := n0_; clear n0_; (try clear hb); (try clear hb2); (try clear hk); (try clear hi)))
    repeat (go_quiet (first | (go_at_call 187; (with_reducible refine (spec_IsValidVersion.calls k1 ((rd_T160 l0 x3_1).f0) ((rd_T160 l0 x3_1).f1) ((rd_T160 l0 x3_1).f2) ((rd_T160 l0 x3_1).f3) ((rd_T160 l0 x3_1).f4) false _ A4.out).mono ?_); rintro e w15 ⟨rfl, hb⟩; have n0_ := AM_ (below_step (by exact BL HB.out rfl rfl rfl rfl) hb); clear HB; have HB := n0_; clear n0_; (try clear hb); (try clear hb2); (try clear hk); (try clear hi))); try go_wp2_with (first | (go_at_call 187; (with_reducible refine (spec_IsValidVersion.calls k1 ((rd_T160 l0 x3_1).f0) ((rd_T160 l0 x3_1).f1) ((rd_T160 l0 x3_1).f2) ((rd_T160 l0 x3_1).f3) ((rd_T160 l0 x3_1).f4) false _ A4.out).mono ?_); rintro e w15 ⟨rfl, hb⟩; have n0_ := AM_ (below_step (by exact BL HB.out rfl rfl rfl rfl) hb); clear HB; have HB := n0_; clear n0_; (try clear hb); (try clear hb2); (try clear hk); (try clear hi))))
    go_ret
    exact ⟨by first | rfl | (simp [errW_none, errW_some] <;> rfl) | (simp [*, errW_none, errW_some] <;> rfl), by exact BL HB.out rfl rfl rfl rfl⟩
   subst c5
   have H1 : (if (wrap64 (x3_1 + 1)) < (l0.length : Int) then (if 0 ≤ (wrap64 (x3_1 + 1)) then (if ((rd_T160 l0 x3_1).f2) ≥ ((rd_T160 l0 (wrap64 (x3_1 + 1))).f2) then (some false) else (if ((rd_T160 l0 x3_1).f4) > ((rd_T160 l0 (wrap64 (x3_1 + 1))).f2) then (some false) else (spec_IsValidChain.l0 k1 l0 (wrap64 (x3_1 + 1))))) else (none)) else (spec_IsValidChain.l0 k1 l0 (wrap64 (x3_1 + 1)))) = some r := by rw [if_pos rfl] at H; exact H
   clear H
   have H := H1
   clear H1
   by_cases c6 : (wrap64 (x3_1 + 1)) < (l0.length : Int)
   rotate_left
   ·rw [if_neg c6] at H
    have c6b0 : decide ((wrap64 (x3_1 + 1)) < (l0.length : Int)) = false := decide_eq_false c6
    clear c6
    have H' := AM_ H
    clear H
    have p281 : 0 ≤ (x3_1 : Int) := of_decide_eq_true (by first | (with_reducible assumption) | assumption)
    have q281 : x3_1 < (l0.length : Int) := of_decide_eq_true (by first | (with_reducible assumption) | assumption)
    obtain ⟨ad281, e281, hx281_0, hx281_1, hx281_2, hx281_3, hx281_4⟩ := at_T160 HR0.out x3_1 p281 q281
    cases e281
    replace hx281_0 := BC HB.out hx281_0
    replace hx281_1 := BC HB.out hx281_1
    replace hx281_2 := BC HB.out hx281_2
    replace hx281_3 := BC HB.out hx281_3
    replace hx281_4 := BC HB.out hx281_4
    replace p281 := eq_true p281
    replace q281 := eq_true q281
    go_wp2_with (first | (go_at_call 187; (with_reducible refine (spec_IsValidVersion.calls k1 ((rd_T160 l0 x3_1).f0) ((rd_T160 l0 x3_1).f1) ((rd_T160 l0 x3_1).f2) ((rd_T160 l0 x3_1).f3) ((rd_T160 l0 x3_1).f4) true _ A4.out).mono ?_); rintro e w14 ⟨rfl, hb⟩; have n0_ := AM_ (below_step (by exact BL HB.out rfl rfl rfl rfl) hb); clear HB; have HB := n0_; clear n0_; (try clear hb); (try clear hb2); (try clear hk); (try clear hi)))
    repeat (go_quiet (first | (go_at_call 187; (with_reducible refine (spec_IsValidVersion.calls k1 ((rd_T160 l0 x3_1).f0) ((rd_T160 l0 x3_1).f1) ((rd_T160 l0 x3_1).f2) ((rd_T160 l0 x3_1).f3) ((rd_T160 l0 x3_1).f4) true _ A4.out).mono ?_); rintro e w14 ⟨rfl, hb⟩; have n0_ := AM_ (below_step (by exact BL HB.out rfl rfl rfl rfl) hb); clear HB; have HB := n0_; clear n0_; (try clear hb); (try clear hb2); (try clear hk); (try clear hi))); try go_wp2_with (first | (go_at_call 187; (with_reducible refine (spec_IsValidVersion.calls k1 ((rd_T160 l0 x3_1).f0) ((rd_T160 l0 x3_1).f1) ((rd_T160 l0 x3_1).f2) ((rd_T160 l0 x3_1).f3) ((rd_T160 l0 x3_1).f4) true _ A4.out).mono ?_); rintro e w14 ⟨rfl, hb⟩; have n0_ := AM_ (below_step (by exact BL HB.out rfl rfl rfl rfl) hb); clear HB; have HB := n0_; clear n0_; (try clear hb); (try clear hb2); (try clear hk); (try clear hi))))
    go_roundg k1
    case measure => have := HK1.out; omega
    case rel => exact ⟨(wrap64 (x3_1 + 1)), (by first | rfl | (simp; done) | (simp [*]; done)), H', ⟨by have := HK1.out; omega⟩, ⟨by exact BL HB.out rfl rfl rfl rfl⟩⟩
   rw [if_pos c6] at H
   have c6b0 : decide ((wrap64 (x3_1 + 1)) < (l0.length : Int)) = true := decide_eq_true c6
   clear c6
   obtain ⟨ji7, hji7⟩ : ∃ j_ : Int, (wrap64 (x3_1 + 1)) = j_ := ⟨_, rfl⟩
   replace H : (if 0 ≤ (ji7) then (if ((rd_T160 l0 x3_1).f2) ≥ ((rd_T160 l0 (ji7)).f2) then (some false) else (if ((rd_T160 l0 x3_1).f4) > ((rd_T160 l0 (ji7)).f2) then (some false) else (spec_IsValidChain.l0 k1 l0 ji7))) else (none)) = some r := by first | (rw [hji7] at H; exact H) | (simp only [hji7] at H ⊢; exact H)
   (try rw [hji7] at c6b0)
   (try rw [hji7] at A4)
   have hji7w : (IntKind.i64.wrap (x3_1 + 1)) = ji7 := (i64_w _).trans hji7
   by_cases c8 : 0 ≤ (ji7)
   rotate_left
   ·rw [if_neg c8] at H
    exact absurd H (by simp)
   rw [if_pos c8] at H
   have c8b0 : decide (0 ≤ (ji7)) = true := decide_eq_true c8
   clear c8
   by_cases c9 : ((rd_T160 l0 x3_1).f2) ≥ ((rd_T160 l0 (ji7)).f2)
   ·rw [if_pos c9] at H
    have c9b0 : decide (((rd_T160 l0 (ji7)).f2) ≤ ((rd_T160 l0 x3_1).f2)) = true := decide_eq_true c9
    clear c9
    obtain rfl := Option.some.inj H
    have p281 : 0 ≤ (x3_1 : Int) := of_decide_eq_true (by first | (with_reducible assumption) | assumption)
    have q281 : x3_1 < (l0.length : Int) := of_decide_eq_true (by first | (with_reducible assumption) | assumption)
    obtain ⟨ad281, e281, hx281_0, hx281_1, hx281_2, hx281_3, hx281_4⟩ := at_T160 HR0.out x3_1 p281 q281
    cases e281
    replace hx281_0 := BC HB.out hx281_0
    replace hx281_1 := BC HB.out hx281_1
    replace hx281_2 := BC HB.out hx281_2
    replace hx281_3 := BC HB.out hx281_3
    replace hx281_4 := BC HB.out hx281_4
    replace p281 := eq_true p281
    replace q281 := eq_true q281
    go_wp2_with (first | (go_at_call 187; (with_reducible refine (spec_IsValidVersion.calls k1 ((rd_T160 l0 x3_1).f0) ((rd_T160 l0 x3_1).f1) ((rd_T160 l0 x3_1).f2) ((rd_T160 l0 x3_1).f3) ((rd_T160 l0 x3_1).f4) true _ A4.out).mono ?_); rintro e w10 ⟨rfl, hb⟩; have n0_ := AM_ (below_step (by exact BL HB.out rfl rfl rfl rfl) hb); clear HB; have HB := n0_; clear n0_; (try clear hb); (try clear hb2); (try clear hk); (try clear hi); have p283 : 0 ≤ (x3_1 : Int) := of_decide_eq_true (by first | (with_reducible assumption) | assumption); have q283 : x3_1 < (l0.length : Int) := of_decide_eq_true (by first | (with_reducible assumption) | assumption); obtain ⟨ad283, e283, hx283_0, hx283_1, hx283_2, hx283_3, hx283_4⟩ := at_T160 HR0.out x3_1 p283 q283; obtain rfl : ad281 = ad283 := (by injection e283); replace hx283_0 := BD HB.out hx283_0; replace hx283_1 := BD HB.out hx283_1; replace hx283_2 := BD HB.out hx283_2; replace hx283_3 := BD HB.out hx283_3; replace hx283_4 := BD HB.out hx283_4; replace p283 := eq_true p283; replace q283 := eq_true q283; have p284 : 0 ≤ ((ji7) : Int) := of_decide_eq_true (by first | (with_reducible assumption) | assumption); have q284 : (ji7) < (l0.length : Int) := of_decide_eq_true (by first | (with_reducible assumption) | assumption); obtain ⟨ad284, e284, hx284_0, hx284_1, hx284_2, hx284_3, hx284_4⟩ := at_T160 HR0.out (ji7) p284 q284; obtain rfl : ad281 = ad284 := (by injection e284); replace hx284_0 := BD HB.out hx284_0; replace hx284_1 := BD HB.out hx284_1; replace hx284_2 := BD HB.out hx284_2; replace hx284_3 := BD HB.out hx284_3; replace hx284_4 := BD HB.out hx284_4; replace p284 := eq_true p284; replace q284 := eq_true q284))
    repeat (go_quiet (first | (go_at_call 187; (with_reducible refine (spec_IsValidVersion.calls k1 ((rd_T160 l0 x3_1).f0) ((rd_T160 l0 x3_1).f1) ((rd_T160 l0 x3_1).f2) ((rd_T160 l0 x3_1).f3) ((rd_T160 l0 x3_1).f4) true _ A4.out).mono ?_); rintro e w10 ⟨rfl, hb⟩; have n0_ := AM_ (below_step (by exact BL HB.out rfl rfl rfl rfl) hb); clear HB; have HB := n0_; clear n0_; (try clear hb); (try clear hb2); (try clear hk); (try clear hi); have p283 : 0 ≤ (x3_1 : Int) := of_decide_eq_true (by first | (with_reducible assumption) | assumption); have q283 : x3_1 < (l0.length : Int) := of_decide_eq_true (by first | (with_reducible assumption) | assumption); obtain ⟨ad283, e283, hx283_0, hx283_1, hx283_2, hx283_3, hx283_4⟩ := at_T160 HR0.out x3_1 p283 q283; obtain rfl : ad281 = ad283 := (by injection e283); replace hx283_0 := BD HB.out hx283_0; replace hx283_1 := BD HB.out hx283_1; replace hx283_2 := BD HB.out hx283_2; replace hx283_3 := BD HB.out hx283_3; replace hx283_4 := BD HB.out hx283_4; replace p283 := eq_true p283; replace q283 := eq_true q283; have p284 : 0 ≤ ((ji7) : Int) := of_decide_eq_true (by first | (with_reducible assumption) | assumption); have q284 : (ji7) < (l0.length : Int) := of_decide_eq_true (by first | (with_reducible assumption) | assumption); obtain ⟨ad284, e284, hx284_0, hx284_1, hx284_2, hx284_3, hx284_4⟩ := at_T160 HR0.out (ji7) p284 q284; obtain rfl : ad281 = ad284 := (by injection e284); replace hx284_0 := BD HB.out hx284_0; replace hx284_1 := BD HB.out hx284_1; replace hx284_2 := BD HB.out hx284_2; replace hx284_3 := BD HB.out hx284_3; replace hx284_4 := BD HB.out hx284_4; replace p284 := eq_true p284; replace q284 := eq_true q284)); try go_wp2_with (first | (go_at_call 187; (with_reducible refine (spec_IsValidVersion.calls k1 ((rd_T160 l0 x3_1).f0) ((rd_T160 l0 x3_1).f1) ((rd_T160 l0 x3_1).f2) ((rd_T160 l0 x3_1).f3) ((rd_T160 l0 x3_1).f4) true _ A4.out).mono ?_); rintro e w10 ⟨rfl, hb⟩; have n0_ := AM_ (below_step (by exact BL HB.out rfl rfl rfl rfl) hb); clear HB; have HB := n0_; clear n0_; (try clear hb); (try clear hb2); (try clear hk); (try clear hi); have p283 : 0 ≤ (x3_1 : Int) := of_decide_eq_true (by first | (with_reducible assumption) | assumption); have q283 : x3_1 < (l0.length : Int) := of_decide_eq_true (by first | (with_reducible assumption) | assumption); obtain ⟨ad283, e283, hx283_0, hx283_1, hx283_2, hx283_3, hx283_4⟩ := at_T160 HR0.out x3_1 p283 q283; obtain rfl : ad281 = ad283 := (by injection e283); replace hx283_0 := BD HB.out hx283_0; replace hx283_1 := BD HB.out hx283_1; replace hx283_2 := BD HB.out hx283_2; replace hx283_3 := BD HB.out hx283_3; replace hx283_4 := BD HB.out hx283_4; replace p283 := eq_true p283; replace q283 := eq_true q283; have p284 : 0 ≤ ((ji7) : Int) := of_decide_eq_true (by first | (with_reducible assumption) | assumption); have q284 : (ji7) < (l0.length : Int) := of_decide_eq_true (by first | (with_reducible assumption) | assumption); obtain ⟨ad284, e284, hx284_0, hx284_1, hx284_2, hx284_3, hx284_4⟩ := at_T160 HR0.out (ji7) p284 q284; obtain rfl : ad281 = ad284 := (by injection e284); replace hx284_0 := BD HB.out hx284_0; replace hx284_1 := BD HB.out hx284_1; replace hx284_2 := BD HB.out hx284_2; replace hx284_3 := BD HB.out hx284_3; replace hx284_4 := BD HB.out hx284_4; replace p284 := eq_true p284; replace q284 := eq_true q284)))
    go_ret
    exact ⟨by first | rfl | (simp [errW_none, errW_some] <;> rfl) | (simp only [← hji7]; first | rfl | (simp [errW_none, errW_some] <;> rfl)) | (simp [*, errW_none, errW_some] <;> rfl), by exact BL HB.out rfl rfl rfl rfl⟩
   rw [if_neg c9] at H
   have c9b0 : decide (((rd_T160 l0 (ji7)).f2) ≤ ((rd_T160 l0 x3_1).f2)) = false := decide_eq_false c9
   clear c9
   by_cases c11 : ((rd_T160 l0 x3_1).f4) > ((rd_T160 l0 (ji7)).f2)
   ·rw [if_pos c11] at H
    have c11b0 : decide (((rd_T160 l0 (ji7)).f2) < ((rd_T160 l0 x3_1).f4)) = true := decide_eq_true c11
    clear c11
    obtain rfl := Option.some.inj H
    have p281 : 0 ≤ (x3_1 : Int) := of_decide_eq_true (by first | (with_reducible assumption) | assumption)
    have q281 : x3_1 < (l0.length : Int) := of_decide_eq_true (by first | (with_reducible assumption) | assumption)
    obtain ⟨ad281, e281, hx281_0, hx281_1, hx281_2, hx281_3, hx281_4⟩ := at_T160 HR0.out x3_1 p281 q281
    cases e281
    replace hx281_0 := BC HB.out hx281_0
    replace hx281_1 := BC HB.out hx281_1
    replace hx281_2 := BC HB.out hx281_2
    replace hx281_3 := BC HB.out hx281_3
    replace hx281_4 := BC HB.out hx281_4
    replace p281 := eq_true p281
    replace q281 := eq_true q281
    go_wp2_with (first | (go_at_call 187; (with_reducible refine (spec_IsValidVersion.calls k1 ((rd_T160 l0 x3_1).f0) ((rd_T160 l0 x3_1).f1) ((rd_T160 l0 x3_1).f2) ((rd_T160 l0 x3_1).f3) ((rd_T160 l0 x3_1).f4) true _ A4.out).mono ?_); rintro e w12 ⟨rfl, hb⟩; have n0_ := AM_ (below_step (by exact BL HB.out rfl rfl rfl rfl) hb); clear HB; have HB := n0_; clear n0_; (try clear hb); (try clear hb2); (try clear hk); (try clear hi); have p283 : 0 ≤ (x3_1 : Int) := of_decide_eq_true (by first | (with_reducible assumption) | assumption); have q283 : x3_1 < (l0.length : Int) := of_decide_eq_true (by first | (with_reducible assumption) | assumption); obtain ⟨ad283, e283, hx283_0, hx283_1, hx283_2, hx283_3, hx283_4⟩ := at_T160 HR0.out x3_1 p283 q283; obtain rfl : ad281 = ad283 := (by injection e283); replace hx283_0 := BD HB.out hx283_0; replace hx283_1 := BD HB.out hx283_1; replace hx283_2 := BD HB.out hx283_2; replace hx283_3 := BD HB.out hx283_3; replace hx283_4 := BD HB.out hx283_4; replace p283 := eq_true p283; replace q283 := eq_true q283; have p284 : 0 ≤ ((ji7) : Int) := of_decide_eq_true (by first | (with_reducible assumption) | assumption); have q284 : (ji7) < (l0.length : Int) := of_decide_eq_true (by first | (with_reducible assumption) | assumption); obtain ⟨ad284, e284, hx284_0, hx284_1, hx284_2, hx284_3, hx284_4⟩ := at_T160 HR0.out (ji7) p284 q284; obtain rfl : ad281 = ad284 := (by injection e284); replace hx284_0 := BD HB.out hx284_0; replace hx284_1 := BD HB.out hx284_1; replace hx284_2 := BD HB.out hx284_2; replace hx284_3 := BD HB.out hx284_3; replace hx284_4 := BD HB.out hx284_4; replace p284 := eq_true p284; replace q284 := eq_true q284; have p285 : 0 ≤ (x3_1 : Int) := of_decide_eq_true (by first | (with_reducible assumption) | assumption); have q285 : x3_1 < (l0.length : Int) := of_decide_eq_true (by first | (with_reducible assumption) | assumption); obtain ⟨ad285, e285, hx285_0, hx285_1, hx285_2, hx285_3, hx285_4⟩ := at_T160 HR0.out x3_1 p285 q285; obtain rfl : ad281 = ad285 := (by injection e285); replace hx285_0 := BD HB.out hx285_0; replace hx285_1 := BD HB.out hx285_1; replace hx285_2 := BD HB.out hx285_2; replace hx285_3 := BD HB.out hx285_3; replace hx285_4 := BD HB.out hx285_4; replace p285 := eq_true p285; replace q285 := eq_true q285; have p286 : 0 ≤ ((ji7) : Int) := of_decide_eq_true (by first | (with_reducible assumption) | assumption); have q286 : (ji7) < (l0.length : Int) := of_decide_eq_true (by first | (with_reducible assumption) | assumption); obtain ⟨ad286, e286, hx286_0, hx286_1, hx286_2, hx286_3, hx286_4⟩ := at_T160 HR0.out (ji7) p286 q286; obtain rfl : ad281 = ad286 := (by injection e286); replace hx286_0 := BD HB.out hx286_0; replace hx286_1 := BD HB.out hx286_1; replace hx286_2 := BD HB.out hx286_2; replace hx286_3 := BD HB.out hx286_3; replace hx286_4 := BD HB.out hx286_4; replace p286 := eq_true p286; replace q286 := eq_true q286))
    repeat (go_quiet (first | (go_at_call 187; (with_reducible refine (spec_IsValidVersion.calls k1 ((rd_T160 l0 x3_1).f0) ((rd_T160 l0 x3_1).f1) ((rd_T160 l0 x3_1).f2) ((rd_T160 l0 x3_1).f3) ((rd_T160 l0 x3_1).f4) true _ A4.out).mono ?_); rintro e w12 ⟨rfl, hb⟩; have n0_ := AM_ (below_step (by exact BL HB.out rfl rfl rfl rfl) hb); clear HB; have HB := n0_; clear n0_; (try clear hb); (try clear hb2); (try clear hk); (try clear hi); have p283 : 0 ≤ (x3_1 : Int) := of_decide_eq_true (by first | (with_reducible assumption) | assumption); have q283 : x3_1 < (l0.length : Int) := of_decide_eq_true (by first | (with_reducible assumption) | assumption); obtain ⟨ad283, e283, hx283_0, hx283_1, hx283_2, hx283_3, hx283_4⟩ := at_T160 HR0.out x3_1 p283 q283; obtain rfl : ad281 = ad283 := (by injection e283); replace hx283_0 := BD HB.out hx283_0; replace hx283_1 := BD HB.out hx283_1; replace hx283_2 := BD HB.out hx283_2; replace hx283_3 := BD HB.out hx283_3; replace hx283_4 := BD HB.out hx283_4; replace p283 := eq_true p283; replace q283 := eq_true q283; have p284 : 0 ≤ ((ji7) : Int) := of_decide_eq_true (by first | (with_reducible assumption) | assumption); have q284 : (ji7) < (l0.length : Int) := of_decide_eq_true (by first | (with_reducible assumption) | assumption); obtain ⟨ad284, e284, hx284_0, hx284_1, hx284_2, hx284_3, hx284_4⟩ := at_T160 HR0.out (ji7) p284 q284; obtain rfl : ad281 = ad284 := (by injection e284); replace hx284_0 := BD HB.out hx284_0; replace hx284_1 := BD HB.out hx284_1; replace hx284_2 := BD HB.out hx284_2; replace hx284_3 := BD HB.out hx284_3; replace hx284_4 := BD HB.out hx284_4; replace p284 := eq_true p284; replace q284 := eq_true q284; have p285 : 0 ≤ (x3_1 : Int) := of_decide_eq_true (by first | (with_reducible assumption) | assumption); have q285 : x3_1 < (l0.length : Int) := of_decide_eq_true (by first | (with_reducible assumption) | assumption); obtain ⟨ad285, e285, hx285_0, hx285_1, hx285_2, hx285_3, hx285_4⟩ := at_T160 HR0.out x3_1 p285 q285; obtain rfl : ad281 = ad285 := (by injection e285); replace hx285_0 := BD HB.out hx285_0; replace hx285_1 := BD HB.out hx285_1; replace hx285_2 := BD HB.out hx285_2; replace hx285_3 := BD HB.out hx285_3; replace hx285_4 := BD HB.out hx285_4; replace p285 := eq_true p285; replace q285 := eq_true q285; have p286 : 0 ≤ ((ji7) : Int) := of_decide_eq_true (by first | (with_reducible assumption) | assumption); have q286 : (ji7) < (l0.length : Int) := of_decide_eq_true (by first | (with_reducible assumption) | assumption); obtain ⟨ad286, e286, hx286_0, hx286_1, hx286_2, hx286_3, hx286_4⟩ := at_T160 HR0.out (ji7) p286 q286; obtain rfl : ad281 = ad286 := (by injection e286); replace hx286_0 := BD HB.out hx286_0; replace hx286_1 := BD HB.out hx286_1; replace hx286_2 := BD HB.out hx286_2; replace hx286_3 := BD HB.out hx286_3; replace hx286_4 := BD HB.out hx286_4; replace p286 := eq_true p286; replace q286 := eq_true q286)); try go_wp2_with (first | (go_at_call 187; (with_reducible refine (spec_IsValidVersion.calls k1 ((rd_T160 l0 x3_1).f0) ((rd_T160 l0 x3_1).f1) ((rd_T160 l0 x3_1).f2) ((rd_T160 l0 x3_1).f3) ((rd_T160 l0 x3_1).f4) true _ A4.out).mono ?_); rintro e w12 ⟨rfl, hb⟩; have n0_ := AM_ (below_step (by exact BL HB.out rfl rfl rfl rfl) hb); clear HB; have HB := n0_; clear n0_; (try clear hb); (try clear hb2); (try clear hk); (try clear hi); have p283 : 0 ≤ (x3_1 : Int) := of_decide_eq_true (by first | (with_reducible assumption) | assumption); have q283 : x3_1 < (l0.length : Int) := of_decide_eq_true (by first | (with_reducible assumption) | assumption); obtain ⟨ad283, e283, hx283_0, hx283_1, hx283_2, hx283_3, hx283_4⟩ := at_T160 HR0.out x3_1 p283 q283; obtain rfl : ad281 = ad283 := (by injection e283); replace hx283_0 := BD HB.out hx283_0; replace hx283_1 := BD HB.out hx283_1; replace hx283_2 := BD HB.out hx283_2; replace hx283_3 := BD HB.out hx283_3; replace hx283_4 := BD HB.out hx283_4; replace p283 := eq_true p283; replace q283 := eq_true q283; have p284 : 0 ≤ ((ji7) : Int) := of_decide_eq_true (by first | (with_reducible assumption) | assumption); have q284 : (ji7) < (l0.length : Int) := of_decide_eq_true (by first | (with_reducible assumption) | assumption); obtain ⟨ad284, e284, hx284_0, hx284_1, hx284_2, hx284_3, hx284_4⟩ := at_T160 HR0.out (ji7) p284 q284; obtain rfl : ad281 = ad284 := (by injection e284); replace hx284_0 := BD HB.out hx284_0; replace hx284_1 := BD HB.out hx284_1; replace hx284_2 := BD HB.out hx284_2; replace hx284_3 := BD HB.out hx284_3; replace hx284_4 := BD HB.out hx284_4; replace p284 := eq_true p284; replace q284 := eq_true q284; have p285 : 0 ≤ (x3_1 : Int) := of_decide_eq_true (by first | (with_reducible assumption) | assumption); have q285 : x3_1 < (l0.length : Int) := of_decide_eq_true (by first | (with_reducible assumption) | assumption); obtain ⟨ad285, e285, hx285_0, hx285_1, hx285_2, hx285_3, hx285_4⟩ := at_T160 HR0.out x3_1 p285 q285; obtain rfl : ad281 = ad285 := (by injection e285); replace hx285_0 := BD HB.out hx285_0; replace hx285_1 := BD HB.out hx285_1; replace hx285_2 := BD HB.out hx285_2; replace hx285_3 := BD HB.out hx285_3; replace hx285_4 := BD HB.out hx285_4; replace p285 := eq_true p285; replace q285 := eq_true q285; have p286 : 0 ≤ ((ji7) : Int) := of_decide_eq_true (by first | (with_reducible assumption) | assumption); have q286 : (ji7) < (l0.length : Int) := of_decide_eq_true (by first | (with_reducible assumption) | assumption); obtain ⟨ad286, e286, hx286_0, hx286_1, hx286_2, hx286_3, hx286_4⟩ := at_T160 HR0.out (ji7) p286 q286; obtain rfl : ad281 = ad286 := (by injection e286); replace hx286_0 := BD HB.out hx286_0; replace hx286_1 := BD HB.out hx286_1; replace hx286_2 := BD HB.out hx286_2; replace hx286_3 := BD HB.out hx286_3; replace hx286_4 := BD HB.out hx286_4; replace p286 := eq_true p286; replace q286 := eq_true q286)))
    go_ret
    exact ⟨by first | rfl | (simp [errW_none, errW_some] <;> rfl) | (simp only [← hji7]; first | rfl | (simp [errW_none, errW_some] <;> rfl)) | (simp [*, errW_none, errW_some] <;> rfl), by exact BL HB.out rfl rfl rfl rfl⟩
   rw [if_neg c11] at H
   have c11b0 : decide (((rd_T160 l0 (ji7)).f2) < ((rd_T160 l0 x3_1).f4)) = false := decide_eq_false c11
   clear c11
   have H' := AM_ H
   clear H
   have p281 : 0 ≤ (x3_1 : Int) := of_decide_eq_true (by first | (with_reducible assumption) | assumption)
   have q281 : x3_1 < (l0.length : Int) := of_decide_eq_true (by first | (with_reducible assumption) | assumption)
   obtain ⟨ad281, e281, hx281_0, hx281_1, hx281_2, hx281_3, hx281_4⟩ := at_T160 HR0.out x3_1 p281 q281
   cases e281
   replace hx281_0 := BC HB.out hx281_0
   replace hx281_1 := BC HB.out hx281_1
   replace hx281_2 := BC HB.out hx281_2
   replace hx281_3 := BC HB.out hx281_3
   replace hx281_4 := BC HB.out hx281_4
   replace p281 := eq_true p281
   replace q281 := eq_true q281
   go_wp2_with (first | (go_at_call 187; (with_reducible refine (spec_IsValidVersion.calls k1 ((rd_T160 l0 x3_1).f0) ((rd_T160 l0 x3_1).f1) ((rd_T160 l0 x3_1).f2) ((rd_T160 l0 x3_1).f3) ((rd_T160 l0 x3_1).f4) true _ A4.out).mono ?_); rintro e w13 ⟨rfl, hb⟩; have n0_ := AM_ (below_step (by exact BL HB.out rfl rfl rfl rfl) hb); clear HB; have HB := n0_; clear n0_; (try clear hb); (try clear hb2); (try clear hk); (try clear hi); have p283 : 0 ≤ (x3_1 : Int) := of_decide_eq_true (by first | (with_reducible assumption) | assumption); have q283 : x3_1 < (l0.length : Int) := of_decide_eq_true (by first | (with_reducible assumption) | assumption); obtain ⟨ad283, e283, hx283_0, hx283_1, hx283_2, hx283_3, hx283_4⟩ := at_T160 HR0.out x3_1 p283 q283; obtain rfl : ad281 = ad283 := (by injection e283); replace hx283_0 := BD HB.out hx283_0; replace hx283_1 := BD HB.out hx283_1; replace hx283_2 := BD HB.out hx283_2; replace hx283_3 := BD HB.out hx283_3; replace hx283_4 := BD HB.out hx283_4; replace p283 := eq_true p283; replace q283 := eq_true q283; have p284 : 0 ≤ ((ji7) : Int) := of_decide_eq_true (by first | (with_reducible assumption) | assumption); have q284 : (ji7) < (l0.length : Int) := of_decide_eq_true (by first | (with_reducible assumption) | assumption); obtain ⟨ad284, e284, hx284_0, hx284_1, hx284_2, hx284_3, hx284_4⟩ := at_T160 HR0.out (ji7) p284 q284; obtain rfl : ad281 = ad284 := (by injection e284); replace hx284_0 := BD HB.out hx284_0; replace hx284_1 := BD HB.out hx284_1; replace hx284_2 := BD HB.out hx284_2; replace hx284_3 := BD HB.out hx284_3; replace hx284_4 := BD HB.out hx284_4; replace p284 := eq_true p284; replace q284 := eq_true q284; have p285 : 0 ≤ (x3_1 : Int) := of_decide_eq_true (by first | (with_reducible assumption) | assumption); have q285 : x3_1 < (l0.length : Int) := of_decide_eq_true (by first | (with_reducible assumption) | assumption); obtain ⟨ad285, e285, hx285_0, hx285_1, hx285_2, hx285_3, hx285_4⟩ := at_T160 HR0.out x3_1 p285 q285; obtain rfl : ad281 = ad285 := (by injection e285); replace hx285_0 := BD HB.out hx285_0; replace hx285_1 := BD HB.out hx285_1; replace hx285_2 := BD HB.out hx285_2; replace hx285_3 := BD HB.out hx285_3; replace hx285_4 := BD HB.out hx285_4; replace p285 := eq_true p285; replace q285 := eq_true q285; have p286 : 0 ≤ ((ji7) : Int) := of_decide_eq_true (by first | (with_reducible assumption) | assumption); have q286 : (ji7) < (l0.length : Int) := of_decide_eq_true (by first | (with_reducible assumption) | assumption); obtain ⟨ad286, e286, hx286_0, hx286_1, hx286_2, hx286_3, hx286_4⟩ := at_T160 HR0.out (ji7) p286 q286; obtain rfl : ad281 = ad286 := (by injection e286); replace hx286_0 := BD HB.out hx286_0; replace hx286_1 := BD HB.out hx286_1; replace hx286_2 := BD HB.out hx286_2; replace hx286_3 := BD HB.out hx286_3; replace hx286_4 := BD HB.out hx286_4; replace p286 := eq_true p286; replace q286 := eq_true q286))
   repeat (go_quiet (first | (go_at_call 187; (with_reducible refine (spec_IsValidVersion.calls k1 ((rd_T160 l0 x3_1).f0) ((rd_T160 l0 x3_1).f1) ((rd_T160 l0 x3_1).f2) ((rd_T160 l0 x3_1).f3) ((rd_T160 l0 x3_1).f4) true _ A4.out).mono ?_); rintro e w13 ⟨rfl, hb⟩; have n0_ := AM_ (below_step (by exact BL HB.out rfl rfl rfl rfl) hb); clear HB; have HB := n0_; clear n0_; (try clear hb); (try clear hb2); (try clear hk); (try clear hi); have p283 : 0 ≤ (x3_1 : Int) := of_decide_eq_true (by first | (with_reducible assumption) | assumption); have q283 : x3_1 < (l0.length : Int) := of_decide_eq_true (by first | (with_reducible assumption) | assumption); obtain ⟨ad283, e283, hx283_0, hx283_1, hx283_2, hx283_3, hx283_4⟩ := at_T160 HR0.out x3_1 p283 q283; obtain rfl : ad281 = ad283 := (by injection e283); replace hx283_0 := BD HB.out hx283_0; replace hx283_1 := BD HB.out hx283_1; replace hx283_2 := BD HB.out hx283_2; replace hx283_3 := BD HB.out hx283_3; replace hx283_4 := BD HB.out hx283_4; replace p283 := eq_true p283; replace q283 := eq_true q283; have p284 : 0 ≤ ((ji7) : Int) := of_decide_eq_true (by first | (with_reducible assumption) | assumption); have q284 : (ji7) < (l0.length : Int) := of_decide_eq_true (by first | (with_reducible assumption) | assumption); obtain ⟨ad284, e284, hx284_0, hx284_1, hx284_2, hx284_3, hx284_4⟩ := at_T160 HR0.out (ji7) p284 q284; obtain rfl : ad281 = ad284 := (by injection e284); replace hx284_0 := BD HB.out hx284_0; replace hx284_1 := BD HB.out hx284_1; replace hx284_2 := BD HB.out hx284_2; replace hx284_3 := BD HB.out hx284_3; replace hx284_4 := BD HB.out hx284_4; replace p284 := eq_true p284; replace q284 := eq_true q284; have p285 : 0 ≤ (x3_1 : Int) := of_decide_eq_true (by first | (with_reducible assumption) | assumption); have q285 : x3_1 < (l0.length : Int) := of_decide_eq_true (by first | (with_reducible assumption) | assumption); obtain ⟨ad285, e285, hx285_0, hx285_1, hx285_2, hx285_3, hx285_4⟩ := at_T160 HR0.out x3_1 p285 q285; obtain rfl : ad281 = ad285 := (by injection e285); replace hx285_0 := BD HB.out hx285_0; replace hx285_1 := BD HB.out hx285_1; replace hx285_2 := BD HB.out hx285_2; replace hx285_3 := BD HB.out hx285_3; replace hx285_4 := BD HB.out hx285_4; replace p285 := eq_true p285; replace q285 := eq_true q285; have p286 : 0 ≤ ((ji7) : Int) := of_decide_eq_true (by first | (with_reducible assumption) | assumption); have q286 : (ji7) < (l0.length : Int) := of_decide_eq_true (by first | (with_reducible assumption) | assumption); obtain ⟨ad286, e286, hx286_0, hx286_1, hx286_2, hx286_3, hx286_4⟩ := at_T160 HR0.out (ji7) p286 q286; obtain rfl : ad281 = ad286 := (by injection e286); replace hx286_0 := BD HB.out hx286_0; replace hx286_1 := BD HB.out hx286_1; replace hx286_2 := BD HB.out hx286_2; replace hx286_3 := BD HB.out hx286_3; replace hx286_4 := BD HB.out hx286_4; replace p286 := eq_true p286; replace q286 := eq_true q286)); try go_wp2_with (first | (go_at_call 187; (with_reducible refine (spec_IsValidVersion.calls k1 ((rd_T160 l0 x3_1).f0) ((rd_T160 l0 x3_1).f1) ((rd_T160 l0 x3_1).f2) ((rd_T160 l0 x3_1).f3) ((rd_T160 l0 x3_1).f4) true _ A4.out).mono ?_); rintro e w13 ⟨rfl, hb⟩; have n0_ := AM_ (below_step (by exact BL HB.out rfl rfl rfl rfl) hb); clear HB; have HB := n0_; clear n0_; (try clear hb); (try clear hb2); (try clear hk); (try clear hi); have p283 : 0 ≤ (x3_1 : Int) := of_decide_eq_true (by first | (with_reducible assumption) | assumption); have q283 : x3_1 < (l0.length : Int) := of_decide_eq_true (by first | (with_reducible assumption) | assumption); obtain ⟨ad283, e283, hx283_0, hx283_1, hx283_2, hx283_3, hx283_4⟩ := at_T160 HR0.out x3_1 p283 q283; obtain rfl : ad281 = ad283 := (by injection e283); replace hx283_0 := BD HB.out hx283_0; replace hx283_1 := BD HB.out hx283_1; replace hx283_2 := BD HB.out hx283_2; replace hx283_3 := BD HB.out hx283_3; replace hx283_4 := BD HB.out hx283_4; replace p283 := eq_true p283; replace q283 := eq_true q283; have p284 : 0 ≤ ((ji7) : Int) := of_decide_eq_true (by first | (with_reducible assumption) | assumption); have q284 : (ji7) < (l0.length : Int) := of_decide_eq_true (by first | (with_reducible assumption) | assumption); obtain ⟨ad284, e284, hx284_0, hx284_1, hx284_2, hx284_3, hx284_4⟩ := at_T160 HR0.out (ji7) p284 q284; obtain rfl : ad281 = ad284 := (by injection e284); replace hx284_0 := BD HB.out hx284_0; replace hx284_1 := BD HB.out hx284_1; replace hx284_2 := BD HB.out hx284_2; replace hx284_3 := BD HB.out hx284_3; replace hx284_4 := BD HB.out hx284_4; replace p284 := eq_true p284; replace q284 := eq_true q284; have p285 : 0 ≤ (x3_1 : Int) := of_decide_eq_true (by first | (with_reducible assumption) | assumption); have q285 : x3_1 < (l0.length : Int) := of_decide_eq_true (by first | (with_reducible assumption) | assumption); obtain ⟨ad285, e285, hx285_0, hx285_1, hx285_2, hx285_3, hx285_4⟩ := at_T160 HR0.out x3_1 p285 q285; obtain rfl : ad281 = ad285 := (by injection e285); replace hx285_0 := BD HB.out hx285_0; replace hx285_1 := BD HB.out hx285_1; replace hx285_2 := BD HB.out hx285_2; replace hx285_3 := BD HB.out hx285_3; replace hx285_4 := BD HB.out hx285_4; replace p285 := eq_true p285; replace q285 := eq_true q285; have p286 : 0 ≤ ((ji7) : Int) := of_decide_eq_true (by first | (with_reducible assumption) | assumption); have q286 : (ji7) < (l0.length : Int) := of_decide_eq_true (by first | (with_reducible assumption) | assumption); obtain ⟨ad286, e286, hx286_0, hx286_1, hx286_2, hx286_3, hx286_4⟩ := at_T160 HR0.out (ji7) p286 q286; obtain rfl : ad281 = ad286 := (by injection e286); replace hx286_0 := BD HB.out hx286_0; replace hx286_1 := BD HB.out hx286_1; replace hx286_2 := BD HB.out hx286_2; replace hx286_3 := BD HB.out hx286_3; replace hx286_4 := BD HB.out hx286_4; replace p286 := eq_true p286; replace q286 := eq_true q286)))
   go_roundg k1
   case measure => have := HK1.out; omega
   case rel => exact ⟨(ji7), (by first | rfl | (simp; done) | (simp only [← hji7] <;> (first | rfl | simp)) | (simp [*]; done)), H', ⟨by have := HK1.out; omega⟩, ⟨by exact BL HB.out rfl rfl rfl rfl⟩⟩

/-! ### spec_IsValidStore: function 51 -/
def spec_IsValidStore.l0 : Nat → Int → List (List (S160)) → Option (Bool)
 | 0, _, _ => none
 | k + 1, x3, x288000 => if x3 < (x288000.length : Int) then (if 0 ≤ x3 then ((spec_IsValidChain.f k (rd_L3 x288000 x3)).bind fun t289 => (if t289 = true then (if 0 < ((rd_L3 x288000 x3).length : Int) then (if ((rd_T160 (rd_L3 x288000 x3) 0).f2) > 0 then (if ((rd_L3 x288000 x3).length : Int) > 50 then (some false) else (spec_IsValidStore.l0 k (wrap64 (x3 + 1)) x288000)) else (if ((rd_L3 x288000 x3).length : Int) > 50 then (some false) else (spec_IsValidStore.l0 k (wrap64 (x3 + 1)) x288000))) else (none)) else (some false))) else (none)) else (some ((x288000.length : Int) == 6))
def spec_IsValidStore.f (k : Nat) (l0_0 : List (List (S160))) : Option (Bool) := spec_IsValidStore.l0 k 0 l0_0
theorem spec_IsValidStore.mono_l : ∀ k, (∀ y0 y1, LeO (spec_IsValidStore.l0 k y0 y1) (spec_IsValidStore.l0 (k + 1) y0 y1))
 | 0 => fun _ _ r h => by simp [spec_IsValidStore.l0] at h
 | k + 1 => by
  have ih0 := spec_IsValidStore.mono_l k
  ·intro y0 y1
   unfold spec_IsValidStore.l0
   repeat' first
   | (with_reducible exact ih0 _ _)
   | (with_reducible exact spec_IsValidChain.mono _ _)
   | (with_reducible exact LeO.refl _)
   | (with_reducible exact LeO.none _)
   | (with_reducible refine LeO.ite ?_ ?_)
   | (with_reducible refine LeO.bind ?_ (fun _ => ?_))
   | exact ih0 _ _
   | exact spec_IsValidChain.mono _ _
   | exact LeO.none _
   | refine LeO.ite ?_ ?_
   | refine LeO.bind ?_ (fun _ => ?_)
theorem spec_IsValidStore.mono : ∀ a0 k, LeO (spec_IsValidStore.f k a0) (spec_IsValidStore.f (k + 1) a0) := by
 intro a0 k
 have ih0 := spec_IsValidStore.mono_l k
 unfold spec_IsValidStore.f
 repeat' first
   | (with_reducible exact ih0 _ _)
   | (with_reducible exact spec_IsValidChain.mono _ _)
   | (with_reducible exact LeO.refl _)
   | (with_reducible exact LeO.none _)
   | (with_reducible refine LeO.ite ?_ ?_)
   | (with_reducible refine LeO.bind ?_ (fun _ => ?_))
   | exact ih0 _ _
   | exact spec_IsValidChain.mono _ _
   | exact LeO.none _
   | refine LeO.ite ?_ ?_
   | refine LeO.bind ?_ (fun _ => ?_)
set_option maxHeartbeats 8000000 in
set_option maxRecDepth 100000 in
theorem spec_IsValidStore.calls (k : Nat) (A0_0 : Option Addr) (c0_0 : Nat) (l0_0 : List (List (S160))) (r : Bool) (w : World) (hr0_0 : Kd.C (Kd.slice 160 k160) w A0_0 l0_0.length l0_0) (hc0_0 : l0_0.length ≤ c0_0) (h : spec_IsValidStore.f k l0_0 = some r) :
  Calls Try.prog 51 #[.agg #[.slice A0_0 l0_0.length c0_0]] w fun e w' => e = .returned (.bool r) ∧ Below w.heap.size w w' := by
 have hu72 := Try.underlying72
 have HR0_0 := AM_ hr0_0
 have HC0_0 := AM_ hc0_0
 clear hr0_0 hc0_0
 have HB := AM_ (Below.refl w.heap.size w)
 have H : (spec_IsValidStore.l0 k 0 l0_0) = some r := h
 clear h
 have H' := AM_ H
 clear H
 go_enter Try.func51, Try.ntmps51
 go_wp2_with (first | ((with_reducible refine gate_dst (N := 1) rfl ?_); (try (refine gate_guard (by rfl) ?_; dsimp only)); refine box_event ?hg (N := 1) ?hd (cs := #[.slice A0_0 l0_0.length c0_0]) (t := 72) ?hr ?_; (case hd => rfl); (case hg => rfl); (case hr => first | (go_simp; done) | (go_simp; rfl)); intro gb287 hg w2 hbox hb; have n0_ := AM_ (below_step (by exact BL HB.out rfl rfl rfl rfl) hb); have n1_ := AM_ (hbox); have n2_ := AM_ ((by rw [hg]; exact (below_size (by exact BL HB.out rfl rfl rfl rfl)) : w.heap.size ≤ gb287)); have n3_ := AM_ ((by rw [hg]; exact (below_size (by exact BL HB.out rfl rfl rfl rfl)) : w.heap.size ≤ gb287)); clear HB; have HB := n0_; have BK287 := n1_; have GW287 := n2_; have GE287 := n3_; clear n0_ n1_ n2_ n3_; clear hb hbox hg))
 go_loopg [3] k (fun kq v3 w' => ∃ (x3_1 : Int), v3 = .int .i64 x3_1 ∧ Aside0 (spec_IsValidStore.l0 kq x3_1 l0_0 = some r) ∧ Aside0 (kq ≤ k) ∧ Aside0 (w'.heap[gb287]? = some (.cells #[(.slice A0_0 l0_0.length c0_0)] 72 (0, 0))) ∧ Aside0 (Below w.heap.size w w'))
 case atStart => exact ⟨(0), (by first | rfl | (simp; done) | (simp [*]; done)), H', ⟨Nat.le_refl _⟩, ⟨by (with_reducible repeat (first | refine blk_drewN ?_ _ | refine blk_drew ?_ | refine blk_alloc ?_ _)); exact BK287.out⟩, ⟨by repeat (first | (with_reducible first | exact HB.out | apply below_alloc | apply pw_below_drewN | apply below_drew1 | refine below_set ?_ GE287.out) | exact HB.out)⟩⟩
 case round =>
  clear H'
  try clear p2
  obtain ⟨x3_1, rfl, HA, HK1, BK287, HB⟩ := hrel
  cases gk with
  | zero => exact absurd HA.out (by simp [spec_IsValidStore.l0])
  | succ k1 =>
   have H := HA.out
   clear HA
   simp only [spec_IsValidStore.l0] at H
   by_cases c3 : x3_1 < (l0_0.length : Int)
   rotate_left
   ·rw [if_neg c3] at H
    have c3b0 : decide (x3_1 < (l0_0.length : Int)) = false := decide_eq_false c3
    clear c3
    obtain rfl := Option.some.inj H
    have hcz25_0 : wr.cell? ⟨gb287, 0, none⟩ = some (.slice A0_0 l0_0.length c0_0) := (blk_cell BK287.out 0).trans rfl
    have hfz25_0 := blk_frozen BK287.out 0
    go_wp2
    go_ret
    exact ⟨by first | rfl | (simp [errW_none, errW_some] <;> rfl) | (simp [*, errW_none, errW_some] <;> rfl), by repeat (first | (with_reducible first | exact HB.out | apply below_alloc | apply pw_below_drewN | apply below_drew1 | refine below_set ?_ GE287.out) | exact HB.out)⟩
   rw [if_pos c3] at H
   have c3b0 : decide (x3_1 < (l0_0.length : Int)) = true := decide_eq_true c3
   clear c3
   by_cases c4 : 0 ≤ x3_1
   rotate_left
   ·rw [if_neg c4] at H
    exact absurd H (by simp)
   rw [if_pos c4] at H
   have c4b0 : decide (0 ≤ x3_1) = true := decide_eq_true c4
   clear c4
   replace H := Option.bind_eq_some_iff.mp H
   obtain ⟨t289, A50, H⟩ := H
   replace H : (if t289 = true then (if 0 < ((rd_L3 l0_0 x3_1).length : Int) then (if ((rd_T160 (rd_L3 l0_0 x3_1) 0).f2) > 0 then (if ((rd_L3 l0_0 x3_1).length : Int) > 50 then (some false) else (spec_IsValidStore.l0 k1 (wrap64 (x3_1 + 1)) l0_0)) else (if ((rd_L3 l0_0 x3_1).length : Int) > 50 then (some false) else (spec_IsValidStore.l0 k1 (wrap64 (x3_1 + 1)) l0_0))) else (none)) else (some false)) = some r := H
   have A5 := AM_ A50
   clear A50
   by_cases c6 : t289 = true
   rotate_left
   ·replace c6 := Bool.eq_false_iff.mpr c6
    subst c6
    have H1 : (some false) = some r := by rw [if_neg (show ¬ (false = true) by decide)] at H; exact H
    clear H
    have H := H1
    clear H1
    obtain rfl := Option.some.inj H
    have hcz23_0 : wr.cell? ⟨gb287, 0, none⟩ = some (.slice A0_0 l0_0.length c0_0) := (blk_cell BK287.out 0).trans rfl
    have hfz23_0 := blk_frozen BK287.out 0
    have p288 : 0 ≤ (x3_1 : Int) := of_decide_eq_true (by first | (with_reducible assumption) | assumption)
    have q288 : x3_1 < (l0_0.length : Int) := of_decide_eq_true (by first | (with_reducible assumption) | assumption)
    obtain ⟨ad288, A288_0, c288_0, e288, hx288_0, hl288_0, hi288_0⟩ := at_L3 HR0_0.out x3_1 p288 q288
    cases e288
    replace hx288_0 := BC HB.out hx288_0
    have HR288_0 := AM_ hi288_0
    have HC288_0 := AM_ hl288_0
    clear hi288_0 hl288_0
    replace p288 := eq_true p288
    replace q288 := eq_true q288
    go_wp2_with (first | ((with_reducible refine gate_callee (f := 124) rfl ?_); refine goesL_ (some 16) rfl rfl Try.func124 (by kernel_rfl) rfl #[.slice A288_0 (rd_L3 l0_0 x3_1).length c288_0] rfl (by (try simp only [List.map_toArray, List.map_cons, List.map_nil]); first | done | rfl | (simp only [List.length_drop, List.length_take]; rfl)) ?_; (with_reducible refine (spec_IsValidChain.calls k1 _ _ (rd_L3 l0_0 x3_1) false _ ?side1 ?side2 A5.out).mono ?_); (case side1 => exact Kd.C_below (Kd.C_below HR288_0.out HB.out) (BL (Below.refl _ _) rfl rfl rfl rfl)); (case side2 => exact HC288_0.out); rintro e w24 ⟨rfl, hb⟩; refine ⟨_, rfl, ?_⟩; have n0_ := AM_ (blk_below (g := gb287) (o := .cells #[.slice (some ad288) l0_0.length c0_0] 72 (0, 0)) (by (with_reducible repeat (first | refine blk_drewN ?_ _ | refine blk_drew ?_ | refine blk_alloc ?_ _)); exact BK287.out) hb); have n1_ := AM_ (below_step (by repeat (first | (with_reducible first | exact HB.out | apply below_alloc | apply pw_below_drewN | apply below_drew1 | refine below_set ?_ GE287.out) | exact HB.out)) hb); clear BK287; clear HB; have BK287 := n0_; have HB := n1_; clear n0_ n1_; (try clear hb); (try clear hb2); (try clear hk); (try clear hi)))
    go_ret
    exact ⟨by first | rfl | (simp [errW_none, errW_some] <;> rfl) | (simp [*, errW_none, errW_some] <;> rfl), by repeat (first | (with_reducible first | exact HB.out | apply below_alloc | apply pw_below_drewN | apply below_drew1 | refine below_set ?_ GE287.out) | exact HB.out)⟩
   subst c6
   have H1 : (if 0 < ((rd_L3 l0_0 x3_1).length : Int) then (if ((rd_T160 (rd_L3 l0_0 x3_1) 0).f2) > 0 then (if ((rd_L3 l0_0 x3_1).length : Int) > 50 then (some false) else (spec_IsValidStore.l0 k1 (wrap64 (x3_1 + 1)) l0_0)) else (if ((rd_L3 l0_0 x3_1).length : Int) > 50 then (some false) else (spec_IsValidStore.l0 k1 (wrap64 (x3_1 + 1)) l0_0))) else (none)) = some r := by rw [if_pos rfl] at H; exact H
   clear H
   have H := H1
   clear H1
   by_cases c7 : 0 < ((rd_L3 l0_0 x3_1).length : Int)
   rotate_left
   ·rw [if_neg c7] at H
    exact absurd H (by simp)
   rw [if_pos c7] at H
   have c7b0 : decide (0 < ((rd_L3 l0_0 x3_1).length : Int)) = true := decide_eq_true c7
   have c7b1 : decide (0 < (rd_L3 l0_0 x3_1).length) = true := decide_eq_true (by omega)
   clear c7
   by_cases c8 : ((rd_T160 (rd_L3 l0_0 x3_1) 0).f2) > 0
   rotate_left
   ·rw [if_neg c8] at H
    have c8b0 : decide (0 < ((rd_T160 (rd_L3 l0_0 x3_1) 0).f2)) = false := decide_eq_false c8
    clear c8
    by_cases c16 : ((rd_L3 l0_0 x3_1).length : Int) > 50
    ·rw [if_pos c16] at H
     have c16b0 : decide (50 < ((rd_L3 l0_0 x3_1).length : Int)) = true := decide_eq_true c16
     have c16b1 : decide (50 < (rd_L3 l0_0 x3_1).length) = true := decide_eq_true (by omega)
     clear c16
     obtain rfl := Option.some.inj H
     have hcz17_0 : wr.cell? ⟨gb287, 0, none⟩ = some (.slice A0_0 l0_0.length c0_0) := (blk_cell BK287.out 0).trans rfl
     have hfz17_0 := blk_frozen BK287.out 0
     have p288 : 0 ≤ (x3_1 : Int) := of_decide_eq_true (by first | (with_reducible assumption) | assumption)
     have q288 : x3_1 < (l0_0.length : Int) := of_decide_eq_true (by first | (with_reducible assumption) | assumption)
     obtain ⟨ad288, A288_0, c288_0, e288, hx288_0, hl288_0, hi288_0⟩ := at_L3 HR0_0.out x3_1 p288 q288
     cases e288
     replace hx288_0 := BC HB.out hx288_0
     have HR288_0 := AM_ hi288_0
     have HC288_0 := AM_ hl288_0
     clear hi288_0 hl288_0
     replace p288 := eq_true p288
     replace q288 := eq_true q288
     go_wp2_with (first | ((with_reducible refine gate_callee (f := 124) rfl ?_); refine goesL_ (some 16) rfl rfl Try.func124 (by kernel_rfl) rfl #[.slice A288_0 (rd_L3 l0_0 x3_1).length c288_0] rfl (by (try simp only [List.map_toArray, List.map_cons, List.map_nil]); first | done | rfl | (simp only [List.length_drop, List.length_take]; rfl)) ?_; (with_reducible refine (spec_IsValidChain.calls k1 _ _ (rd_L3 l0_0 x3_1) true _ ?side1 ?side2 A5.out).mono ?_); (case side1 => exact Kd.C_below (Kd.C_below HR288_0.out HB.out) (BL (Below.refl _ _) rfl rfl rfl rfl)); (case side2 => exact HC288_0.out); rintro e w18 ⟨rfl, hb⟩; refine ⟨_, rfl, ?_⟩; have n0_ := AM_ (blk_below (g := gb287) (o := .cells #[.slice (some ad288) l0_0.length c0_0] 72 (0, 0)) (by (with_reducible repeat (first | refine blk_drewN ?_ _ | refine blk_drew ?_ | refine blk_alloc ?_ _)); exact BK287.out) hb); have n1_ := AM_ (below_step (by repeat (first | (with_reducible first | exact HB.out | apply below_alloc | apply pw_below_drewN | apply below_drew1 | refine below_set ?_ GE287.out) | exact HB.out)) hb); clear BK287; clear HB; have BK287 := n0_; have HB := n1_; clear n0_ n1_; (try clear hb); (try clear hb2); (try clear hk); (try clear hi); have hcz19_0 : w18.cell? ⟨gb287, 0, none⟩ = some (.slice (some ad288) l0_0.length c0_0) := (blk_cell BK287.out 0).trans rfl; have hfz19_0 := blk_frozen BK287.out 0; have p290 : 0 ≤ (x3_1 : Int) := of_decide_eq_true (by first | (with_reducible assumption) | assumption); have q290 : x3_1 < (l0_0.length : Int) := of_decide_eq_true (by first | (with_reducible assumption) | assumption); obtain ⟨ad290, A290_0, c290_0, e290, hx290_0, hl290_0, hi290_0⟩ := at_L3 HR0_0.out x3_1 p290 q290; obtain rfl : ad288 = ad290 := (by injection e290); replace hx290_0 := BD HB.out hx290_0; have HR290_0 := AM_ hi290_0; have HC290_0 := AM_ hl290_0; clear hi290_0 hl290_0; replace p290 := eq_true p290; replace q290 := eq_true q290; have p291 : 0 ≤ (0 : Int) := (by omega); have q291 : 0 < ((rd_L3 l0_0 x3_1).length : Int) := of_decide_eq_true (by first | (with_reducible assumption) | assumption); obtain ⟨ad291, e291, hx291_0, hx291_1, hx291_2, hx291_3, hx291_4⟩ := at_T160 HR290_0.out 0 p291 q291; cases e291; have qi291 : (0 < (rd_L3 l0_0 x3_1).length) = True := eq_true (by omega); (try rw [show ((0 : Int)).toNat = 0 from rfl] at hx291_0); (try rw [show 0 * 5 = 0 from rfl] at hx291_0); (try rw [Addr.add_zero'] at hx291_0); (try rw [show ((0 : Int)).toNat = 0 from rfl] at hx291_1); (try rw [show 0 * 5 = 0 from rfl] at hx291_1); (try rw [Addr.add_zero'] at hx291_1); (try rw [show ((0 : Int)).toNat = 0 from rfl] at hx291_2); (try rw [show 0 * 5 = 0 from rfl] at hx291_2); (try rw [Addr.add_zero'] at hx291_2); (try rw [show ((0 : Int)).toNat = 0 from rfl] at hx291_3); (try rw [show 0 * 5 = 0 from rfl] at hx291_3); (try rw [Addr.add_zero'] at hx291_3); (try rw [show ((0 : Int)).toNat = 0 from rfl] at hx291_4); (try rw [show 0 * 5 = 0 from rfl] at hx291_4); (try rw [Addr.add_zero'] at hx291_4); replace hx291_0 := BD HB.out hx291_0; replace hx291_1 := BD HB.out hx291_1; replace hx291_2 := BD HB.out hx291_2; replace hx291_3 := BD HB.out hx291_3; replace hx291_4 := BD HB.out hx291_4; replace p291 := eq_true p291; replace q291 := eq_true q291; have p294 : 0 ≤ (x3_1 : Int) := of_decide_eq_true (by first | (with_reducible assumption) | assumption); have q294 : x3_1 < (l0_0.length : Int) := of_decide_eq_true (by first | (with_reducible assumption) | assumption); obtain ⟨ad294, A294_0, c294_0, e294, hx294_0, hl294_0, hi294_0⟩ := at_L3 HR0_0.out x3_1 p294 q294; obtain rfl : ad288 = ad294 := (by injection e294); replace hx294_0 := BD HB.out hx294_0; have HR294_0 := AM_ hi294_0; have HC294_0 := AM_ hl294_0; clear hi294_0 hl294_0; replace p294 := eq_true p294; replace q294 := eq_true q294; have ea_ := Option.some.inj (hx290_0.symm.trans hx294_0); injection ea_ with ea_ en_ ec_; subst ea_; subst ec_; clear en_))
     go_ret
     exact ⟨by first | rfl | (simp [errW_none, errW_some] <;> rfl) | (simp [*, errW_none, errW_some] <;> rfl), by repeat (first | (with_reducible first | exact HB.out | apply below_alloc | apply pw_below_drewN | apply below_drew1 | refine below_set ?_ GE287.out) | exact HB.out)⟩
    rw [if_neg c16] at H
    have c16b0 : decide (50 < ((rd_L3 l0_0 x3_1).length : Int)) = false := decide_eq_false c16
    have c16b1 : decide (50 < (rd_L3 l0_0 x3_1).length) = false := decide_eq_false (by omega)
    clear c16
    have H' := AM_ H
    clear H
    have hcz20_0 : wr.cell? ⟨gb287, 0, none⟩ = some (.slice A0_0 l0_0.length c0_0) := (blk_cell BK287.out 0).trans rfl
    have hfz20_0 := blk_frozen BK287.out 0
    have p288 : 0 ≤ (x3_1 : Int) := of_decide_eq_true (by first | (with_reducible assumption) | assumption)
    have q288 : x3_1 < (l0_0.length : Int) := of_decide_eq_true (by first | (with_reducible assumption) | assumption)
    obtain ⟨ad288, A288_0, c288_0, e288, hx288_0, hl288_0, hi288_0⟩ := at_L3 HR0_0.out x3_1 p288 q288
    cases e288
    replace hx288_0 := BC HB.out hx288_0
    have HR288_0 := AM_ hi288_0
    have HC288_0 := AM_ hl288_0
    clear hi288_0 hl288_0
    replace p288 := eq_true p288
    replace q288 := eq_true q288
    go_wp2_with (first | ((with_reducible refine gate_callee (f := 124) rfl ?_); refine goesL_ (some 16) rfl rfl Try.func124 (by kernel_rfl) rfl #[.slice A288_0 (rd_L3 l0_0 x3_1).length c288_0] rfl (by (try simp only [List.map_toArray, List.map_cons, List.map_nil]); first | done | rfl | (simp only [List.length_drop, List.length_take]; rfl)) ?_; (with_reducible refine (spec_IsValidChain.calls k1 _ _ (rd_L3 l0_0 x3_1) true _ ?side1 ?side2 A5.out).mono ?_); (case side1 => exact Kd.C_below (Kd.C_below HR288_0.out HB.out) (BL (Below.refl _ _) rfl rfl rfl rfl)); (case side2 => exact HC288_0.out); rintro e w21 ⟨rfl, hb⟩; refine ⟨_, rfl, ?_⟩; have n0_ := AM_ (blk_below (g := gb287) (o := .cells #[.slice (some ad288) l0_0.length c0_0] 72 (0, 0)) (by (with_reducible repeat (first | refine blk_drewN ?_ _ | refine blk_drew ?_ | refine blk_alloc ?_ _)); exact BK287.out) hb); have n1_ := AM_ (below_step (by repeat (first | (with_reducible first | exact HB.out | apply below_alloc | apply pw_below_drewN | apply below_drew1 | refine below_set ?_ GE287.out) | exact HB.out)) hb); clear BK287; clear HB; have BK287 := n0_; have HB := n1_; clear n0_ n1_; (try clear hb); (try clear hb2); (try clear hk); (try clear hi); have hcz22_0 : w21.cell? ⟨gb287, 0, none⟩ = some (.slice (some ad288) l0_0.length c0_0) := (blk_cell BK287.out 0).trans rfl; have hfz22_0 := blk_frozen BK287.out 0; have p290 : 0 ≤ (x3_1 : Int) := of_decide_eq_true (by first | (with_reducible assumption) | assumption); have q290 : x3_1 < (l0_0.length : Int) := of_decide_eq_true (by first | (with_reducible assumption) | assumption); obtain ⟨ad290, A290_0, c290_0, e290, hx290_0, hl290_0, hi290_0⟩ := at_L3 HR0_0.out x3_1 p290 q290; obtain rfl : ad288 = ad290 := (by injection e290); replace hx290_0 := BD HB.out hx290_0; have HR290_0 := AM_ hi290_0; have HC290_0 := AM_ hl290_0; clear hi290_0 hl290_0; replace p290 := eq_true p290; replace q290 := eq_true q290; have p291 : 0 ≤ (0 : Int) := (by omega); have q291 : 0 < ((rd_L3 l0_0 x3_1).length : Int) := of_decide_eq_true (by first | (with_reducible assumption) | assumption); obtain ⟨ad291, e291, hx291_0, hx291_1, hx291_2, hx291_3, hx291_4⟩ := at_T160 HR290_0.out 0 p291 q291; cases e291; have qi291 : (0 < (rd_L3 l0_0 x3_1).length) = True := eq_true (by omega); (try rw [show ((0 : Int)).toNat = 0 from rfl] at hx291_0); (try rw [show 0 * 5 = 0 from rfl] at hx291_0); (try rw [Addr.add_zero'] at hx291_0); (try rw [show ((0 : Int)).toNat = 0 from rfl] at hx291_1); (try rw [show 0 * 5 = 0 from rfl] at hx291_1); (try rw [Addr.add_zero'] at hx291_1); (try rw [show ((0 : Int)).toNat = 0 from rfl] at hx291_2); (try rw [show 0 * 5 = 0 from rfl] at hx291_2); (try rw [Addr.add_zero'] at hx291_2); (try rw [show ((0 : Int)).toNat = 0 from rfl] at hx291_3); (try rw [show 0 * 5 = 0 from rfl] at hx291_3); (try rw [Addr.add_zero'] at hx291_3); (try rw [show ((0 : Int)).toNat = 0 from rfl] at hx291_4); (try rw [show 0 * 5 = 0 from rfl] at hx291_4); (try rw [Addr.add_zero'] at hx291_4); replace hx291_0 := BD HB.out hx291_0; replace hx291_1 := BD HB.out hx291_1; replace hx291_2 := BD HB.out hx291_2; replace hx291_3 := BD HB.out hx291_3; replace hx291_4 := BD HB.out hx291_4; replace p291 := eq_true p291; replace q291 := eq_true q291; have p294 : 0 ≤ (x3_1 : Int) := of_decide_eq_true (by first | (with_reducible assumption) | assumption); have q294 : x3_1 < (l0_0.length : Int) := of_decide_eq_true (by first | (with_reducible assumption) | assumption); obtain ⟨ad294, A294_0, c294_0, e294, hx294_0, hl294_0, hi294_0⟩ := at_L3 HR0_0.out x3_1 p294 q294; obtain rfl : ad288 = ad294 := (by injection e294); replace hx294_0 := BD HB.out hx294_0; have HR294_0 := AM_ hi294_0; have HC294_0 := AM_ hl294_0; clear hi294_0 hl294_0; replace p294 := eq_true p294; replace q294 := eq_true q294; have ea_ := Option.some.inj (hx290_0.symm.trans hx294_0); injection ea_ with ea_ en_ ec_; subst ea_; subst ec_; clear en_))
    go_roundg k1
    case measure => have := HK1.out; omega
    case rel => exact ⟨(wrap64 (x3_1 + 1)), (by first | rfl | (simp; done) | (simp [*]; done)), H', ⟨by have := HK1.out; omega⟩, ⟨by (with_reducible repeat (first | refine blk_drewN ?_ _ | refine blk_drew ?_ | refine blk_alloc ?_ _)); exact BK287.out⟩, ⟨by repeat (first | (with_reducible first | exact HB.out | apply below_alloc | apply pw_below_drewN | apply below_drew1 | refine below_set ?_ GE287.out) | exact HB.out)⟩⟩
   rw [if_pos c8] at H
   have c8b0 : decide (0 < ((rd_T160 (rd_L3 l0_0 x3_1) 0).f2)) = true := decide_eq_true c8
   clear c8
   by_cases c9 : ((rd_L3 l0_0 x3_1).length : Int) > 50
   ·rw [if_pos c9] at H
    have c9b0 : decide (50 < ((rd_L3 l0_0 x3_1).length : Int)) = true := decide_eq_true c9
    have c9b1 : decide (50 < (rd_L3 l0_0 x3_1).length) = true := decide_eq_true (by omega)
    clear c9
    obtain rfl := Option.some.inj H
    have hcz10_0 : wr.cell? ⟨gb287, 0, none⟩ = some (.slice A0_0 l0_0.length c0_0) := (blk_cell BK287.out 0).trans rfl
    have hfz10_0 := blk_frozen BK287.out 0
    have p288 : 0 ≤ (x3_1 : Int) := of_decide_eq_true (by first | (with_reducible assumption) | assumption)
    have q288 : x3_1 < (l0_0.length : Int) := of_decide_eq_true (by first | (with_reducible assumption) | assumption)
    obtain ⟨ad288, A288_0, c288_0, e288, hx288_0, hl288_0, hi288_0⟩ := at_L3 HR0_0.out x3_1 p288 q288
    cases e288
    replace hx288_0 := BC HB.out hx288_0
    have HR288_0 := AM_ hi288_0
    have HC288_0 := AM_ hl288_0
    clear hi288_0 hl288_0
    replace p288 := eq_true p288
    replace q288 := eq_true q288
    go_wp2_with (first | ((with_reducible refine gate_callee (f := 124) rfl ?_); refine goesL_ (some 16) rfl rfl Try.func124 (by kernel_rfl) rfl #[.slice A288_0 (rd_L3 l0_0 x3_1).length c288_0] rfl (by (try simp only [List.map_toArray, List.map_cons, List.map_nil]); first | done | rfl | (simp only [List.length_drop, List.length_take]; rfl)) ?_; (with_reducible refine (spec_IsValidChain.calls k1 _ _ (rd_L3 l0_0 x3_1) true _ ?side1 ?side2 A5.out).mono ?_); (case side1 => exact Kd.C_below (Kd.C_below HR288_0.out HB.out) (BL (Below.refl _ _) rfl rfl rfl rfl)); (case side2 => exact HC288_0.out); rintro e w11 ⟨rfl, hb⟩; refine ⟨_, rfl, ?_⟩; have n0_ := AM_ (blk_below (g := gb287) (o := .cells #[.slice (some ad288) l0_0.length c0_0] 72 (0, 0)) (by (with_reducible repeat (first | refine blk_drewN ?_ _ | refine blk_drew ?_ | refine blk_alloc ?_ _)); exact BK287.out) hb); have n1_ := AM_ (below_step (by repeat (first | (with_reducible first | exact HB.out | apply below_alloc | apply pw_below_drewN | apply below_drew1 | refine below_set ?_ GE287.out) | exact HB.out)) hb); clear BK287; clear HB; have BK287 := n0_; have HB := n1_; clear n0_ n1_; (try clear hb); (try clear hb2); (try clear hk); (try clear hi); have hcz12_0 : w11.cell? ⟨gb287, 0, none⟩ = some (.slice (some ad288) l0_0.length c0_0) := (blk_cell BK287.out 0).trans rfl; have hfz12_0 := blk_frozen BK287.out 0; have p290 : 0 ≤ (x3_1 : Int) := of_decide_eq_true (by first | (with_reducible assumption) | assumption); have q290 : x3_1 < (l0_0.length : Int) := of_decide_eq_true (by first | (with_reducible assumption) | assumption); obtain ⟨ad290, A290_0, c290_0, e290, hx290_0, hl290_0, hi290_0⟩ := at_L3 HR0_0.out x3_1 p290 q290; obtain rfl : ad288 = ad290 := (by injection e290); replace hx290_0 := BD HB.out hx290_0; have HR290_0 := AM_ hi290_0; have HC290_0 := AM_ hl290_0; clear hi290_0 hl290_0; replace p290 := eq_true p290; replace q290 := eq_true q290; have p291 : 0 ≤ (0 : Int) := (by omega); have q291 : 0 < ((rd_L3 l0_0 x3_1).length : Int) := of_decide_eq_true (by first | (with_reducible assumption) | assumption); obtain ⟨ad291, e291, hx291_0, hx291_1, hx291_2, hx291_3, hx291_4⟩ := at_T160 HR290_0.out 0 p291 q291; cases e291; have qi291 : (0 < (rd_L3 l0_0 x3_1).length) = True := eq_true (by omega); (try rw [show ((0 : Int)).toNat = 0 from rfl] at hx291_0); (try rw [show 0 * 5 = 0 from rfl] at hx291_0); (try rw [Addr.add_zero'] at hx291_0); (try rw [show ((0 : Int)).toNat = 0 from rfl] at hx291_1); (try rw [show 0 * 5 = 0 from rfl] at hx291_1); (try rw [Addr.add_zero'] at hx291_1); (try rw [show ((0 : Int)).toNat = 0 from rfl] at hx291_2); (try rw [show 0 * 5 = 0 from rfl] at hx291_2); (try rw [Addr.add_zero'] at hx291_2); (try rw [show ((0 : Int)).toNat = 0 from rfl] at hx291_3); (try rw [show 0 * 5 = 0 from rfl] at hx291_3); (try rw [Addr.add_zero'] at hx291_3); (try rw [show ((0 : Int)).toNat = 0 from rfl] at hx291_4); (try rw [show 0 * 5 = 0 from rfl] at hx291_4); (try rw [Addr.add_zero'] at hx291_4); replace hx291_0 := BD HB.out hx291_0; replace hx291_1 := BD HB.out hx291_1; replace hx291_2 := BD HB.out hx291_2; replace hx291_3 := BD HB.out hx291_3; replace hx291_4 := BD HB.out hx291_4; replace p291 := eq_true p291; replace q291 := eq_true q291; have p292 : 0 ≤ (x3_1 : Int) := of_decide_eq_true (by first | (with_reducible assumption) | assumption); have q292 : x3_1 < (l0_0.length : Int) := of_decide_eq_true (by first | (with_reducible assumption) | assumption); obtain ⟨ad292, A292_0, c292_0, e292, hx292_0, hl292_0, hi292_0⟩ := at_L3 HR0_0.out x3_1 p292 q292; obtain rfl : ad288 = ad292 := (by injection e292); replace hx292_0 := BD HB.out hx292_0; have HR292_0 := AM_ hi292_0; have HC292_0 := AM_ hl292_0; clear hi292_0 hl292_0; replace p292 := eq_true p292; replace q292 := eq_true q292; have ea_ := Option.some.inj (hx290_0.symm.trans hx292_0); injection ea_ with ea_ en_ ec_; subst ea_; subst ec_; clear en_))
    go_ret
    exact ⟨by first | rfl | (simp [errW_none, errW_some] <;> rfl) | (simp [*, errW_none, errW_some] <;> rfl), by repeat (first | (with_reducible first | exact HB.out | apply below_alloc | apply pw_below_drewN | apply below_drew1 | refine below_set ?_ GE287.out) | exact HB.out)⟩
   rw [if_neg c9] at H
   have c9b0 : decide (50 < ((rd_L3 l0_0 x3_1).length : Int)) = false := decide_eq_false c9
   have c9b1 : decide (50 < (rd_L3 l0_0 x3_1).length) = false := decide_eq_false (by omega)
   clear c9
   have H' := AM_ H
   clear H
   have hcz13_0 : wr.cell? ⟨gb287, 0, none⟩ = some (.slice A0_0 l0_0.length c0_0) := (blk_cell BK287.out 0).trans rfl
   have hfz13_0 := blk_frozen BK287.out 0
   have p288 : 0 ≤ (x3_1 : Int) := of_decide_eq_true (by first | (with_reducible assumption) | assumption)
   have q288 : x3_1 < (l0_0.length : Int) := of_decide_eq_true (by first | (with_reducible assumption) | assumption)
   obtain ⟨ad288, A288_0, c288_0, e288, hx288_0, hl288_0, hi288_0⟩ := at_L3 HR0_0.out x3_1 p288 q288
   cases e288
   replace hx288_0 := BC HB.out hx288_0
   have HR288_0 := AM_ hi288_0
   have HC288_0 := AM_ hl288_0
   clear hi288_0 hl288_0
   replace p288 := eq_true p288
   replace q288 := eq_true q288
   go_wp2_with (first | ((with_reducible refine gate_callee (f := 124) rfl ?_); refine goesL_ (some 16) rfl rfl Try.func124 (by kernel_rfl) rfl #[.slice A288_0 (rd_L3 l0_0 x3_1).length c288_0] rfl (by (try simp only [List.map_toArray, List.map_cons, List.map_nil]); first | done | rfl | (simp only [List.length_drop, List.length_take]; rfl)) ?_; (with_reducible refine (spec_IsValidChain.calls k1 _ _ (rd_L3 l0_0 x3_1) true _ ?side1 ?side2 A5.out).mono ?_); (case side1 => exact Kd.C_below (Kd.C_below HR288_0.out HB.out) (BL (Below.refl _ _) rfl rfl rfl rfl)); (case side2 => exact HC288_0.out); rintro e w14 ⟨rfl, hb⟩; refine ⟨_, rfl, ?_⟩; have n0_ := AM_ (blk_below (g := gb287) (o := .cells #[.slice (some ad288) l0_0.length c0_0] 72 (0, 0)) (by (with_reducible repeat (first | refine blk_drewN ?_ _ | refine blk_drew ?_ | refine blk_alloc ?_ _)); exact BK287.out) hb); have n1_ := AM_ (below_step (by repeat (first | (with_reducible first | exact HB.out | apply below_alloc | apply pw_below_drewN | apply below_drew1 | refine below_set ?_ GE287.out) | exact HB.out)) hb); clear BK287; clear HB; have BK287 := n0_; have HB := n1_; clear n0_ n1_; (try clear hb); (try clear hb2); (try clear hk); (try clear hi); have hcz15_0 : w14.cell? ⟨gb287, 0, none⟩ = some (.slice (some ad288) l0_0.length c0_0) := (blk_cell BK287.out 0).trans rfl; have hfz15_0 := blk_frozen BK287.out 0; have p290 : 0 ≤ (x3_1 : Int) := of_decide_eq_true (by first | (with_reducible assumption) | assumption); have q290 : x3_1 < (l0_0.length : Int) := of_decide_eq_true (by first | (with_reducible assumption) | assumption); obtain ⟨ad290, A290_0, c290_0, e290, hx290_0, hl290_0, hi290_0⟩ := at_L3 HR0_0.out x3_1 p290 q290; obtain rfl : ad288 = ad290 := (by injection e290); replace hx290_0 := BD HB.out hx290_0; have HR290_0 := AM_ hi290_0; have HC290_0 := AM_ hl290_0; clear hi290_0 hl290_0; replace p290 := eq_true p290; replace q290 := eq_true q290; have p291 : 0 ≤ (0 : Int) := (by omega); have q291 : 0 < ((rd_L3 l0_0 x3_1).length : Int) := of_decide_eq_true (by first | (with_reducible assumption) | assumption); obtain ⟨ad291, e291, hx291_0, hx291_1, hx291_2, hx291_3, hx291_4⟩ := at_T160 HR290_0.out 0 p291 q291; cases e291; have qi291 : (0 < (rd_L3 l0_0 x3_1).length) = True := eq_true (by omega); (try rw [show ((0 : Int)).toNat = 0 from rfl] at hx291_0); (try rw [show 0 * 5 = 0 from rfl] at hx291_0); (try rw [Addr.add_zero'] at hx291_0); (try rw [show ((0 : Int)).toNat = 0 from rfl] at hx291_1); (try rw [show 0 * 5 = 0 from rfl] at hx291_1); (try rw [Addr.add_zero'] at hx291_1); (try rw [show ((0 : Int)).toNat = 0 from rfl] at hx291_2); (try rw [show 0 * 5 = 0 from rfl] at hx291_2); (try rw [Addr.add_zero'] at hx291_2); (try rw [show ((0 : Int)).toNat = 0 from rfl] at hx291_3); (try rw [show 0 * 5 = 0 from rfl] at hx291_3); (try rw [Addr.add_zero'] at hx291_3); (try rw [show ((0 : Int)).toNat = 0 from rfl] at hx291_4); (try rw [show 0 * 5 = 0 from rfl] at hx291_4); (try rw [Addr.add_zero'] at hx291_4); replace hx291_0 := BD HB.out hx291_0; replace hx291_1 := BD HB.out hx291_1; replace hx291_2 := BD HB.out hx291_2; replace hx291_3 := BD HB.out hx291_3; replace hx291_4 := BD HB.out hx291_4; replace p291 := eq_true p291; replace q291 := eq_true q291; have p292 : 0 ≤ (x3_1 : Int) := of_decide_eq_true (by first | (with_reducible assumption) | assumption); have q292 : x3_1 < (l0_0.length : Int) := of_decide_eq_true (by first | (with_reducible assumption) | assumption); obtain ⟨ad292, A292_0, c292_0, e292, hx292_0, hl292_0, hi292_0⟩ := at_L3 HR0_0.out x3_1 p292 q292; obtain rfl : ad288 = ad292 := (by injection e292); replace hx292_0 := BD HB.out hx292_0; have HR292_0 := AM_ hi292_0; have HC292_0 := AM_ hl292_0; clear hi292_0 hl292_0; replace p292 := eq_true p292; replace q292 := eq_true q292; have ea_ := Option.some.inj (hx290_0.symm.trans hx292_0); injection ea_ with ea_ en_ ec_; subst ea_; subst ec_; clear en_; have p293 : 0 ≤ (x3_1 : Int) := of_decide_eq_true (by first | (with_reducible assumption) | assumption); have q293 : x3_1 < (l0_0.length : Int) := of_decide_eq_true (by first | (with_reducible assumption) | assumption); obtain ⟨ad293, A293_0, c293_0, e293, hx293_0, hl293_0, hi293_0⟩ := at_L3 HR0_0.out x3_1 p293 q293; obtain rfl : ad288 = ad293 := (by injection e293); replace hx293_0 := BD HB.out hx293_0; have HR293_0 := AM_ hi293_0; have HC293_0 := AM_ hl293_0; clear hi293_0 hl293_0; replace p293 := eq_true p293; replace q293 := eq_true q293; have ea_ := Option.some.inj (hx290_0.symm.trans hx293_0); injection ea_ with ea_ en_ ec_; subst ea_; subst ec_; clear en_))
   go_roundg k1
   case measure => have := HK1.out; omega
   case rel => exact ⟨(wrap64 (x3_1 + 1)), (by first | rfl | (simp; done) | (simp [*]; done)), H', ⟨by have := HK1.out; omega⟩, ⟨by (with_reducible repeat (first | refine blk_drewN ?_ _ | refine blk_drew ?_ | refine blk_alloc ?_ _)); exact BK287.out⟩, ⟨by repeat (first | (with_reducible first | exact HB.out | apply below_alloc | apply pw_below_drewN | apply below_drew1 | refine below_set ?_ GE287.out) | exact HB.out)⟩⟩

end Go.Proofs.Ytpiaeinfneoioaa.PFnPhantoms
