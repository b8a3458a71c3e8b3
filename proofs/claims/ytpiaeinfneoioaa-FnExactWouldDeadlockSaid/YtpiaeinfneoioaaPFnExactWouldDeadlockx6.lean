-- Printed by a program of mine (wip/myprint.py), which runs the printer of the kit with contracts of mine beside it.
import Derived.Test.YtpiaeinfneoioaaPFnExactWouldDeadlockx0
import Derived.Test.YtpiaeinfneoioaaPFnExactWouldDeadlockx4
import Derived.Test.YtpiaeinfneoioaaPFnExactWouldDeadlockx5
namespace Go.Proofs.Ytpiaeinfneoioaa.PFnExactWouldDeadlock
open Go.RowKit Go.Proofs.YtpiaeinfneoioaaW.PrintWords Go.Proofs.YtpiaeinfneoioaaW.PrintLast Go.Proofs.YtpiaeinfneoioaaW.PrintMore
attribute [local go_sem] max2_int min2_int max_two min_two max_three min_three max_four min_four   -- for this text's walks alone
set_option linter.unusedVariables false
set_option linter.unusedSimpArgs false

/-! ### cmp_isNaN_int: function 189 -/
def cmp_isNaN_int.f (a0 : Int) : Option (Bool) := some (a0 != a0)
set_option maxHeartbeats 8000000 in
set_option maxRecDepth 100000 in
theorem cmp_isNaN_int.calls (a0 : Int) (r : Bool) (w : World) (h : cmp_isNaN_int.f a0 = some r) :
    Calls Try.prog 189 #[.int .i64 a0] w fun e w' => e = .returned (.bool r) ∧ Drawn0 w w' := by
  have H : (some (a0 != a0)) = some r := h
  clear h
  obtain rfl := Option.some.inj H
  go_enter Try.func189, Try.ntmps189
  go_wp2
  go_ret
  exact ⟨by first | rfl | (simp; done) | (simp [*]; done), by repeat (first | exact Drawn0.refl _ | apply Drawn0.step)⟩

/-! ### cmp_Compare_int: function 135 -/
def cmp_Compare_int.f (a0 : Int) (a1 : Int) : Option (Int) := (cmp_isNaN_int.f a0).bind fun t211 => ((cmp_isNaN_int.f a1).bind fun t212 => (if t211 = true then (if t212 = true then (some 0) else (some (-1))) else (if t212 = true then (some 1) else (if a0 < a1 then (some (-1)) else (if a0 > a1 then (some 1) else (some 0))))))
set_option maxHeartbeats 8000000 in
set_option maxRecDepth 100000 in
theorem cmp_Compare_int.calls (a0 : Int) (a1 : Int) (r : Int) (w : World) (h : cmp_Compare_int.f a0 a1 = some r) :
    Calls Try.prog 135 #[.int .i64 a0, .int .i64 a1] w fun e w' => e = .returned (.int .i64 r) ∧ Drawn0 w w' := by
  have H : ((cmp_isNaN_int.f a0).bind fun t211 => ((cmp_isNaN_int.f a1).bind fun t212 => (if t211 = true then (if t212 = true then (some 0) else (some (-1))) else (if t212 = true then (some 1) else (if a0 < a1 then (some (-1)) else (if a0 > a1 then (some 1) else (some 0))))))) = some r := h
  clear h
  replace H := Option.bind_eq_some_iff.mp H
  obtain ⟨t211, A30, H⟩ := H
  replace H : ((cmp_isNaN_int.f a1).bind fun t212 => (if t211 = true then (if t212 = true then (some 0) else (some (-1))) else (if t212 = true then (some 1) else (if a0 < a1 then (some (-1)) else (if a0 > a1 then (some 1) else (some 0)))))) = some r := H
  have A3 := Aside0.mk A30
  clear A30
  replace H := Option.bind_eq_some_iff.mp H
  obtain ⟨t212, A40, H⟩ := H
  replace H : (if t211 = true then (if t212 = true then (some 0) else (some (-1))) else (if t212 = true then (some 1) else (if a0 < a1 then (some (-1)) else (if a0 > a1 then (some 1) else (some 0))))) = some r := H
  have A4 := Aside0.mk A40
  clear A40
  by_cases c5 : t211 = true
  · subst c5
    have H1 : (if t212 = true then (some 0) else (some (-1))) = some r := by rw [if_pos rfl] at H; exact H
    clear H
    have H := H1
    clear H1
    by_cases c6 : t212 = true
    · subst c6
      have H1 : (some 0) = some r := by rw [if_pos rfl] at H; exact H
      clear H
      have H := H1
      clear H1
      obtain rfl := Option.some.inj H
      go_enter Try.func135, Try.ntmps135
      go_wp2_with (first | ((with_reducible refine gate_callee (f := 189) rfl ?_); refine goesL_ (some 8) rfl rfl Try.func189 (by kernel_rfl) rfl #[.int .i64 a0] rfl (by (try simp only [List.map_toArray, List.map_cons, List.map_nil]); first | done | rfl | (simp only [List.length_drop, List.length_take]; rfl)) ?_; (with_reducible refine (cmp_isNaN_int.calls a0 true _ A3.out).mono ?_); rintro e w' ⟨rfl, ⟨nd, rfl⟩⟩; refine ⟨_, rfl, ?_⟩) | ((with_reducible refine gate_callee (f := 189) rfl ?_); refine goesL_ (some 10) rfl rfl Try.func189 (by kernel_rfl) rfl #[.int .i64 a1] rfl (by (try simp only [List.map_toArray, List.map_cons, List.map_nil]); first | done | rfl | (simp only [List.length_drop, List.length_take]; rfl)) ?_; (with_reducible refine (cmp_isNaN_int.calls a1 true _ A4.out).mono ?_); rintro e w' ⟨rfl, ⟨nd, rfl⟩⟩; refine ⟨_, rfl, ?_⟩))
      go_ret
      exact ⟨by first | rfl | (simp; done) | (simp [*]; done), by repeat (first | exact Drawn0.refl _ | apply Drawn0.step)⟩
    · replace c6 := Bool.eq_false_iff.mpr c6
      subst c6
      have H1 : (some (-1)) = some r := by rw [if_neg (show ¬ (false = true) by decide)] at H; exact H
      clear H
      have H := H1
      clear H1
      obtain rfl := Option.some.inj H
      go_enter Try.func135, Try.ntmps135
      go_wp2_with (first | ((with_reducible refine gate_callee (f := 189) rfl ?_); refine goesL_ (some 8) rfl rfl Try.func189 (by kernel_rfl) rfl #[.int .i64 a0] rfl (by (try simp only [List.map_toArray, List.map_cons, List.map_nil]); first | done | rfl | (simp only [List.length_drop, List.length_take]; rfl)) ?_; (with_reducible refine (cmp_isNaN_int.calls a0 true _ A3.out).mono ?_); rintro e w' ⟨rfl, ⟨nd, rfl⟩⟩; refine ⟨_, rfl, ?_⟩) | ((with_reducible refine gate_callee (f := 189) rfl ?_); refine goesL_ (some 10) rfl rfl Try.func189 (by kernel_rfl) rfl #[.int .i64 a1] rfl (by (try simp only [List.map_toArray, List.map_cons, List.map_nil]); first | done | rfl | (simp only [List.length_drop, List.length_take]; rfl)) ?_; (with_reducible refine (cmp_isNaN_int.calls a1 false _ A4.out).mono ?_); rintro e w' ⟨rfl, ⟨nd, rfl⟩⟩; refine ⟨_, rfl, ?_⟩))
      go_ret
      exact ⟨by first | rfl | (simp; done) | (simp [*]; done), by repeat (first | exact Drawn0.refl _ | apply Drawn0.step)⟩
  · replace c5 := Bool.eq_false_iff.mpr c5
    subst c5
    have H1 : (if t212 = true then (some 1) else (if a0 < a1 then (some (-1)) else (if a0 > a1 then (some 1) else (some 0)))) = some r := by rw [if_neg (show ¬ (false = true) by decide)] at H; exact H
    clear H
    have H := H1
    clear H1
    by_cases c7 : t212 = true
    · subst c7
      have H1 : (some 1) = some r := by rw [if_pos rfl] at H; exact H
      clear H
      have H := H1
      clear H1
      obtain rfl := Option.some.inj H
      go_enter Try.func135, Try.ntmps135
      go_wp2_with (first | ((with_reducible refine gate_callee (f := 189) rfl ?_); refine goesL_ (some 8) rfl rfl Try.func189 (by kernel_rfl) rfl #[.int .i64 a0] rfl (by (try simp only [List.map_toArray, List.map_cons, List.map_nil]); first | done | rfl | (simp only [List.length_drop, List.length_take]; rfl)) ?_; (with_reducible refine (cmp_isNaN_int.calls a0 false _ A3.out).mono ?_); rintro e w' ⟨rfl, ⟨nd, rfl⟩⟩; refine ⟨_, rfl, ?_⟩) | ((with_reducible refine gate_callee (f := 189) rfl ?_); refine goesL_ (some 10) rfl rfl Try.func189 (by kernel_rfl) rfl #[.int .i64 a1] rfl (by (try simp only [List.map_toArray, List.map_cons, List.map_nil]); first | done | rfl | (simp only [List.length_drop, List.length_take]; rfl)) ?_; (with_reducible refine (cmp_isNaN_int.calls a1 true _ A4.out).mono ?_); rintro e w' ⟨rfl, ⟨nd, rfl⟩⟩; refine ⟨_, rfl, ?_⟩))
      go_ret
      exact ⟨by first | rfl | (simp; done) | (simp [*]; done), by repeat (first | exact Drawn0.refl _ | apply Drawn0.step)⟩
    · replace c7 := Bool.eq_false_iff.mpr c7
      subst c7
      have H1 : (if a0 < a1 then (some (-1)) else (if a0 > a1 then (some 1) else (some 0))) = some r := by rw [if_neg (show ¬ (false = true) by decide)] at H; exact H
      clear H
      have H := H1
      clear H1
      by_cases c8 : a0 < a1
      · rw [if_pos c8] at H
        have c8b0 : decide (a0 < a1) = true := decide_eq_true c8
        clear c8
        obtain rfl := Option.some.inj H
        go_enter Try.func135, Try.ntmps135
        go_wp2_with (first | ((with_reducible refine gate_callee (f := 189) rfl ?_); refine goesL_ (some 8) rfl rfl Try.func189 (by kernel_rfl) rfl #[.int .i64 a0] rfl (by (try simp only [List.map_toArray, List.map_cons, List.map_nil]); first | done | rfl | (simp only [List.length_drop, List.length_take]; rfl)) ?_; (with_reducible refine (cmp_isNaN_int.calls a0 false _ A3.out).mono ?_); rintro e w' ⟨rfl, ⟨nd, rfl⟩⟩; refine ⟨_, rfl, ?_⟩) | ((with_reducible refine gate_callee (f := 189) rfl ?_); refine goesL_ (some 10) rfl rfl Try.func189 (by kernel_rfl) rfl #[.int .i64 a1] rfl (by (try simp only [List.map_toArray, List.map_cons, List.map_nil]); first | done | rfl | (simp only [List.length_drop, List.length_take]; rfl)) ?_; (with_reducible refine (cmp_isNaN_int.calls a1 false _ A4.out).mono ?_); rintro e w' ⟨rfl, ⟨nd, rfl⟩⟩; refine ⟨_, rfl, ?_⟩))
        go_ret
        exact ⟨by first | rfl | (simp; done) | (simp [*]; done), by repeat (first | exact Drawn0.refl _ | apply Drawn0.step)⟩
      · rw [if_neg c8] at H
        have c8b0 : decide (a0 < a1) = false := decide_eq_false c8
        clear c8
        by_cases c9 : a0 > a1
        · rw [if_pos c9] at H
          have c9b0 : decide (a1 < a0) = true := decide_eq_true c9
          clear c9
          obtain rfl := Option.some.inj H
          go_enter Try.func135, Try.ntmps135
          go_wp2_with (first | ((with_reducible refine gate_callee (f := 189) rfl ?_); refine goesL_ (some 8) rfl rfl Try.func189 (by kernel_rfl) rfl #[.int .i64 a0] rfl (by (try simp only [List.map_toArray, List.map_cons, List.map_nil]); first | done | rfl | (simp only [List.length_drop, List.length_take]; rfl)) ?_; (with_reducible refine (cmp_isNaN_int.calls a0 false _ A3.out).mono ?_); rintro e w' ⟨rfl, ⟨nd, rfl⟩⟩; refine ⟨_, rfl, ?_⟩) | ((with_reducible refine gate_callee (f := 189) rfl ?_); refine goesL_ (some 10) rfl rfl Try.func189 (by kernel_rfl) rfl #[.int .i64 a1] rfl (by (try simp only [List.map_toArray, List.map_cons, List.map_nil]); first | done | rfl | (simp only [List.length_drop, List.length_take]; rfl)) ?_; (with_reducible refine (cmp_isNaN_int.calls a1 false _ A4.out).mono ?_); rintro e w' ⟨rfl, ⟨nd, rfl⟩⟩; refine ⟨_, rfl, ?_⟩))
          go_ret
          exact ⟨by first | rfl | (simp; done) | (simp [*]; done), by repeat (first | exact Drawn0.refl _ | apply Drawn0.step)⟩
        · rw [if_neg c9] at H
          have c9b0 : decide (a1 < a0) = false := decide_eq_false c9
          clear c9
          obtain rfl := Option.some.inj H
          go_enter Try.func135, Try.ntmps135
          go_wp2_with (first | ((with_reducible refine gate_callee (f := 189) rfl ?_); refine goesL_ (some 8) rfl rfl Try.func189 (by kernel_rfl) rfl #[.int .i64 a0] rfl (by (try simp only [List.map_toArray, List.map_cons, List.map_nil]); first | done | rfl | (simp only [List.length_drop, List.length_take]; rfl)) ?_; (with_reducible refine (cmp_isNaN_int.calls a0 false _ A3.out).mono ?_); rintro e w' ⟨rfl, ⟨nd, rfl⟩⟩; refine ⟨_, rfl, ?_⟩) | ((with_reducible refine gate_callee (f := 189) rfl ?_); refine goesL_ (some 10) rfl rfl Try.func189 (by kernel_rfl) rfl #[.int .i64 a1] rfl (by (try simp only [List.map_toArray, List.map_cons, List.map_nil]); first | done | rfl | (simp only [List.length_drop, List.length_take]; rfl)) ?_; (with_reducible refine (cmp_isNaN_int.calls a1 false _ A4.out).mono ?_); rintro e w' ⟨rfl, ⟨nd, rfl⟩⟩; refine ⟨_, rfl, ?_⟩))
          go_ret
          exact ⟨by first | rfl | (simp; done) | (simp [*]; done), by repeat (first | exact Drawn0.refl _ | apply Drawn0.step)⟩

/-! ### impl_SetWait_1: function 201 -/
def impl_SetWait_1.f (a0_0 : Int) (a0_1 : Int) (a1 : Int) : Option (Int) := (cmp_Compare_int.f a0_0 a1).bind fun t214 => (some t214)
set_option maxHeartbeats 8000000 in
set_option maxRecDepth 100000 in
theorem impl_SetWait_1.calls (a0_0 : Int) (a0_1 : Int) (a1 : Int) (r : Int) (w : World) (h : impl_SetWait_1.f a0_0 a0_1 a1 = some r) :
    Calls Try.prog 201 #[.agg #[.int .i64 a0_0, .int .i64 a0_1], .int .i64 a1] w fun e w' => e = .returned (.int .i64 r) ∧ Below w.heap.size w w' := by
  have hu187 := Try.underlying187
  have HB := Aside0.mk (Below.refl w.heap.size w)
  have H : ((cmp_Compare_int.f a0_0 a1).bind fun t214 => (some t214)) = some r := h
  clear h
  replace H := Option.bind_eq_some_iff.mp H
  obtain ⟨t214, A30, H⟩ := H
  replace H : (some t214) = some r := H
  have A3 := Aside0.mk A30
  clear A30
  obtain rfl := Option.some.inj H
  go_enter Try.func201, Try.ntmps201
  go_wp2_with (first | ((with_reducible refine gate_dst (N := 2) rfl ?_); refine box_event ?hg (N := 2) ?hd (cs := #[.int .i64 a0_0, .int .i64 a0_1]) (t := 187) ?hr ?_; (case hd => rfl); (case hg => rfl); (case hr => first | (go_simp; done) | (go_simp; rfl)); intro gb213 hg w4 hbox hb; have n0_ := Aside0.mk (below_step (by repeat (first | (with_reducible first | exact HB.out | apply below_alloc | apply pw_below_drewN | apply below_drew1) | exact HB.out)) hb); have n1_ := Aside0.mk (hbox); have n2_ := Aside0.mk ((by rw [hg]; exact (below_size (by repeat (first | (with_reducible first | exact HB.out | apply below_alloc | apply pw_below_drewN | apply below_drew1) | exact HB.out))) : w.heap.size ≤ gb213)); have n3_ := Aside0.mk ((by rw [hg]; exact (below_size (by repeat (first | (with_reducible first | exact HB.out | apply below_alloc | apply pw_below_drewN | apply below_drew1) | exact HB.out))) : w.heap.size ≤ gb213)); clear HB; have HB := n0_; have BK213 := n1_; have GW213 := n2_; have GE213 := n3_; clear n0_ n1_ n2_ n3_; clear hb hbox hg; have hcz5_0 : w4.cell? ⟨gb213, 0, none⟩ = some (.int .i64 a0_0) := (blk_cell BK213.out 0).trans rfl; have hcz5_1 : w4.cell? ⟨gb213, 1, none⟩ = some (.int .i64 a0_1) := (blk_cell BK213.out 1).trans rfl; have hfz5_0 := blk_frozen BK213.out 0; have hfz5_1 := blk_frozen BK213.out 1) | ((with_reducible refine gate_callee (f := 135) rfl ?_); refine goesL_ (some 8) rfl rfl Try.func135 (by kernel_rfl) rfl #[.int .i64 a0_0, .int .i64 a1] rfl (by (try simp only [List.map_toArray, List.map_cons, List.map_nil]); first | done | rfl | (simp only [List.length_drop, List.length_take]; rfl)) ?_; (with_reducible refine (cmp_Compare_int.calls a0_0 a1 t214 _ A3.out).mono ?_); rintro e w' ⟨rfl, ⟨nd, rfl⟩⟩; refine ⟨_, rfl, ?_⟩))
  go_ret
  exact ⟨by first | rfl | (simp [errW_none, errW_some] <;> rfl) | (simp [*, errW_none, errW_some] <;> rfl), by repeat (first | (with_reducible first | exact HB.out | apply below_alloc | apply pw_below_drewN | apply below_drew1 | refine below_set ?_ GE213.out) | exact HB.out)⟩

/-! ### impl_Wait_int: function 200 -/
def impl_Wait_int.l0 : Nat → List (S187) → Int → Int → Int → Int → Option (Int × Bool)
  | 0, _, _, _, _, _ => none
  | k + 1, x0, x1, x8, x9, x10 => if x9 < x10 then (if 0 ≤ (wrap64 ((IntKind.u64.wrap (wrap64 (x9 + x10))) / 2)) then (if (wrap64 ((IntKind.u64.wrap (wrap64 (x9 + x10))) / 2)) < (x0.length : Int) then ((impl_SetWait_1.f ((rd_T187 x0 (wrap64 ((IntKind.u64.wrap (wrap64 (x9 + x10))) / 2))).f0) ((rd_T187 x0 (wrap64 ((IntKind.u64.wrap (wrap64 (x9 + x10))) / 2))).f1) x1).bind fun t216 => (if t216 < 0 then (impl_Wait_int.l0 k x0 x1 x8 (wrap64 ((wrap64 ((IntKind.u64.wrap (wrap64 (x9 + x10))) / 2)) + 1)) x10) else (impl_Wait_int.l0 k x0 x1 x8 x9 (wrap64 ((IntKind.u64.wrap (wrap64 (x9 + x10))) / 2))))) else (none)) else (none)) else (if x9 < x8 then (if 0 ≤ x9 then (if x9 < (x0.length : Int) then ((impl_SetWait_1.f ((rd_T187 x0 x9).f0) ((rd_T187 x0 x9).f1) x1).bind fun t218 => (some (x9, (t218 == 0)))) else (none)) else (none)) else (some (x9, false)))
def impl_Wait_int.f (k : Nat) (l0 : List (S187)) (a1 : Int)  : Option (Int × Bool) := impl_Wait_int.l0 k l0 a1 (l0.length : Int) 0 (l0.length : Int)
theorem impl_Wait_int.mono_l : ∀ k, (∀ y0 y1 y2 y3 y4, LeO (impl_Wait_int.l0 k y0 y1 y2 y3 y4) (impl_Wait_int.l0 (k + 1) y0 y1 y2 y3 y4))
  | 0 => fun _ _ _ _ _ r h => by simp [impl_Wait_int.l0] at h
  | k + 1 => by
    have ih0 := impl_Wait_int.mono_l k
    · intro y0 y1 y2 y3 y4
      unfold impl_Wait_int.l0
      repeat' first
      | (with_reducible exact ih0 _ _ _ _ _)
      | (with_reducible exact LeO.refl _)
      | (with_reducible exact LeO.none _)
      | (with_reducible refine LeO.ite ?_ ?_)
      | (with_reducible refine LeO.bind ?_ (fun _ => ?_))
      | exact ih0 _ _ _ _ _
      | exact LeO.none _
      | refine LeO.ite ?_ ?_
      | refine LeO.bind ?_ (fun _ => ?_)
theorem impl_Wait_int.mono : ∀ a0 a1 k, LeO (impl_Wait_int.f k a0 a1) (impl_Wait_int.f (k + 1) a0 a1) := by
  intro a0 a1 k
  have ih0 := impl_Wait_int.mono_l k
  unfold impl_Wait_int.f
  repeat' first
      | (with_reducible exact ih0 _ _ _ _ _)
      | (with_reducible exact LeO.refl _)
      | (with_reducible exact LeO.none _)
      | (with_reducible refine LeO.ite ?_ ?_)
      | (with_reducible refine LeO.bind ?_ (fun _ => ?_))
      | exact ih0 _ _ _ _ _
      | exact LeO.none _
      | refine LeO.ite ?_ ?_
      | refine LeO.bind ?_ (fun _ => ?_)
set_option maxHeartbeats 8000000 in
set_option maxRecDepth 100000 in
theorem impl_Wait_int.calls (k : Nat) (A0 : Option Addr) (c0 : Nat) (l0 : List (S187)) (a1 : Int)  (r1 : Int) (r2 : Bool) (w : World) (hr0 : Kd.C k187 w A0 l0.length l0) (hc0 : l0.length ≤ c0) (h : impl_Wait_int.f k l0 a1 = some (r1, r2)) :
    Calls Try.prog 200 #[.slice A0 l0.length c0, .int .i64 a1, .func (.func 201) #[] #[]] w fun e w' => e = .returned (.tuple #[.int .i64 r1, .bool r2]) ∧ Below w.heap.size w w' := by
  have hu187 := Try.underlying187
  have HR0 := Aside0.mk hr0
  have HC0 := Aside0.mk hc0
  clear hr0 hc0
  have HB := Aside0.mk (Below.refl w.heap.size w)
  have H : (impl_Wait_int.l0 k l0 a1 (l0.length : Int) 0 (l0.length : Int)) = some (r1, r2) := h
  clear h
  have H' := Aside0.mk H
  clear H
  go_enter Try.func200, Try.ntmps200
  go_wp2
  go_loopg [9, 10] k (fun kq v9 v10 w' => ∃ (x9_1 : Int) (x10_1 : Int), v9 = .int .i64 x9_1 ∧ v10 = .int .i64 x10_1 ∧ Aside0 (impl_Wait_int.l0 kq l0 a1 (l0.length : Int) x9_1 x10_1 = some (r1, r2)) ∧ Aside0 (kq ≤ k) ∧ Aside0 (Below w.heap.size w w'))
  case atStart => exact ⟨(0), ((l0.length : Int)), (by first | rfl | (simp; done) | (simp [*]; done)), (by first | rfl | (simp; done) | (simp [*]; done)), H', ⟨Nat.le_refl _⟩, ⟨by repeat (first | (with_reducible first | exact HB.out | apply below_alloc | apply pw_below_drewN | apply below_drew1) | exact HB.out)⟩⟩
  case round =>
    clear H'
    try clear c2
    try clear p2
    obtain ⟨x9_1, x10_1, rfl, rfl, HA, HK1, HB⟩ := hrel
    cases gk with
    | zero => exact absurd HA.out (by simp [impl_Wait_int.l0])
    | succ k1 =>
      have H := HA.out
      clear HA
      simp only [impl_Wait_int.l0] at H
      by_cases c4 : x9_1 < x10_1
      · rw [if_pos c4] at H
        have c4b0 : decide (x9_1 < x10_1) = true := decide_eq_true c4
        clear c4
        obtain ⟨ji5, hji5⟩ : ∃ j_ : Int, (wrap64 ((IntKind.u64.wrap (wrap64 (x9_1 + x10_1))) / 2)) = j_ := ⟨_, rfl⟩
        replace H : (if 0 ≤ (ji5) then (if (ji5) < (l0.length : Int) then ((impl_SetWait_1.f ((rd_T187 l0 (ji5)).f0) ((rd_T187 l0 (ji5)).f1) a1).bind fun t216 => (if t216 < 0 then (impl_Wait_int.l0 k1 l0 a1 (l0.length : Int) (wrap64 ((ji5) + 1)) x10_1) else (impl_Wait_int.l0 k1 l0 a1 (l0.length : Int) x9_1 ji5))) else (none)) else (none)) = some (r1, r2) := by first | (rw [hji5] at H; exact H) | (simp only [hji5] at H ⊢; exact H)
        have hji5w : (IntKind.i64.wrap ((IntKind.u64.wrap (wrap64 (x9_1 + x10_1))) / 2)) = ji5 := (i64_w _).trans hji5
        by_cases c6 : 0 ≤ (ji5)
        · rw [if_pos c6] at H
          have c6b0 : decide (0 ≤ (ji5)) = true := decide_eq_true c6
          clear c6
          by_cases c7 : (ji5) < (l0.length : Int)
          · rw [if_pos c7] at H
            have c7b0 : decide ((ji5) < (l0.length : Int)) = true := decide_eq_true c7
            clear c7
            replace H := Option.bind_eq_some_iff.mp H
            obtain ⟨t216, A80, H⟩ := H
            replace H : (if t216 < 0 then (impl_Wait_int.l0 k1 l0 a1 (l0.length : Int) (wrap64 ((ji5) + 1)) x10_1) else (impl_Wait_int.l0 k1 l0 a1 (l0.length : Int) x9_1 ji5)) = some (r1, r2) := H
            have A8 := Aside0.mk A80
            clear A80
            by_cases c9 : t216 < 0
            · rw [if_pos c9] at H
              have c9b0 : decide (t216 < 0) = true := decide_eq_true c9
              clear c9
              have H' := Aside0.mk H
              clear H
              have p215 : 0 ≤ ((ji5) : Int) := of_decide_eq_true (by first | (with_reducible assumption) | assumption)
              have q215 : (ji5) < (l0.length : Int) := of_decide_eq_true (by first | (with_reducible assumption) | assumption)
              obtain ⟨ad215, e215, hx215_0, hx215_1⟩ := at_T187 HR0.out (ji5) p215 q215
              cases e215
              replace hx215_0 := (HB.out.cell (World.block_lt_of_cell? w _ hx215_0)).trans hx215_0
              replace hx215_1 := (HB.out.cell (World.block_lt_of_cell? w _ hx215_1)).trans hx215_1
              replace p215 := eq_true p215
              replace q215 := eq_true q215
              go_wp2_with (first | ((with_reducible refine gate_dst (N := 30) rfl ?_); refine goesF_ (some 30) rfl rfl Try.func201 (by kernel_rfl) rfl (lb := #[]) #[.agg #[.int .i64 ((rd_T187 l0 (ji5)).f0), .int .i64 ((rd_T187 l0 (ji5)).f1)], .int .i64 a1] rfl rfl (by (try simp only [List.map_toArray, List.map_cons, List.map_nil]); first | done | rfl) ?_; (with_reducible refine (impl_SetWait_1.calls ((rd_T187 l0 (ji5)).f0) ((rd_T187 l0 (ji5)).f1) a1 t216 _ A8.out).mono ?_); rintro e w10 ⟨rfl, hb⟩; refine ⟨_, rfl, ?_⟩; have n0_ := Aside0.mk (below_step (by repeat (first | (with_reducible first | exact HB.out | apply below_alloc | apply pw_below_drewN | apply below_drew1) | exact HB.out)) hb); clear HB; have HB := n0_; clear n0_; (try clear hb); (try clear hb2); (try clear hk); (try clear hi)))
              go_roundg k1
              case measure => have := HK1.out; omega
              case rel => exact ⟨(wrap64 ((ji5) + 1)), (x10_1), (by first | rfl | (simp; done) | (simp only [← hji5] <;> (first | rfl | simp)) | (simp [*]; done)), (by first | rfl | (simp; done) | (simp [*]; done)), H', ⟨by have := HK1.out; omega⟩, ⟨by repeat (first | (with_reducible first | exact HB.out | apply below_alloc | apply pw_below_drewN | apply below_drew1) | exact HB.out)⟩⟩
            · rw [if_neg c9] at H
              have c9b0 : decide (t216 < 0) = false := decide_eq_false c9
              clear c9
              have H' := Aside0.mk H
              clear H
              have p215 : 0 ≤ ((ji5) : Int) := of_decide_eq_true (by first | (with_reducible assumption) | assumption)
              have q215 : (ji5) < (l0.length : Int) := of_decide_eq_true (by first | (with_reducible assumption) | assumption)
              obtain ⟨ad215, e215, hx215_0, hx215_1⟩ := at_T187 HR0.out (ji5) p215 q215
              cases e215
              replace hx215_0 := (HB.out.cell (World.block_lt_of_cell? w _ hx215_0)).trans hx215_0
              replace hx215_1 := (HB.out.cell (World.block_lt_of_cell? w _ hx215_1)).trans hx215_1
              replace p215 := eq_true p215
              replace q215 := eq_true q215
              go_wp2_with (first | ((with_reducible refine gate_dst (N := 30) rfl ?_); refine goesF_ (some 30) rfl rfl Try.func201 (by kernel_rfl) rfl (lb := #[]) #[.agg #[.int .i64 ((rd_T187 l0 (ji5)).f0), .int .i64 ((rd_T187 l0 (ji5)).f1)], .int .i64 a1] rfl rfl (by (try simp only [List.map_toArray, List.map_cons, List.map_nil]); first | done | rfl) ?_; (with_reducible refine (impl_SetWait_1.calls ((rd_T187 l0 (ji5)).f0) ((rd_T187 l0 (ji5)).f1) a1 t216 _ A8.out).mono ?_); rintro e w11 ⟨rfl, hb⟩; refine ⟨_, rfl, ?_⟩; have n0_ := Aside0.mk (below_step (by repeat (first | (with_reducible first | exact HB.out | apply below_alloc | apply pw_below_drewN | apply below_drew1) | exact HB.out)) hb); clear HB; have HB := n0_; clear n0_; (try clear hb); (try clear hb2); (try clear hk); (try clear hi)))
              go_roundg k1
              case measure => have := HK1.out; omega
              case rel => exact ⟨(x9_1), (ji5), (by first | rfl | (simp; done) | (simp [*]; done)), (by first | rfl | (simp; done) | (simp only [← hji5] <;> (first | rfl | simp)) | (simp [*]; done)), H', ⟨by have := HK1.out; omega⟩, ⟨by repeat (first | (with_reducible first | exact HB.out | apply below_alloc | apply pw_below_drewN | apply below_drew1) | exact HB.out)⟩⟩
          · rw [if_neg c7] at H
            exact absurd H (by simp)
        · rw [if_neg c6] at H
          exact absurd H (by simp)
      · rw [if_neg c4] at H
        have c4b0 : decide (x9_1 < x10_1) = false := decide_eq_false c4
        clear c4
        by_cases c12 : x9_1 < (l0.length : Int)
        · rw [if_pos c12] at H
          have c12b0 : decide (x9_1 < (l0.length : Int)) = true := decide_eq_true c12
          clear c12
          by_cases c13 : 0 ≤ x9_1
          · rw [if_pos c13] at H
            have c13b0 : decide (0 ≤ x9_1) = true := decide_eq_true c13
            clear c13
            by_cases c14 : x9_1 < (l0.length : Int)
            · rw [if_pos c14] at H
              have c14b0 : decide (x9_1 < (l0.length : Int)) = true := decide_eq_true c14
              clear c14
              replace H := Option.bind_eq_some_iff.mp H
              obtain ⟨t218, A150, H⟩ := H
              replace H : (some (x9_1, (t218 == 0))) = some (r1, r2) := H
              have A15 := Aside0.mk A150
              clear A150
              simp only [Option.some.injEq, Prod.mk.injEq] at H
              obtain ⟨rfl, rfl⟩ := H
              have p217 : 0 ≤ (x9_1 : Int) := of_decide_eq_true (by first | (with_reducible assumption) | assumption)
              have q217 : x9_1 < (l0.length : Int) := of_decide_eq_true (by first | (with_reducible assumption) | assumption)
              obtain ⟨ad217, e217, hx217_0, hx217_1⟩ := at_T187 HR0.out x9_1 p217 q217
              cases e217
              replace hx217_0 := (HB.out.cell (World.block_lt_of_cell? w _ hx217_0)).trans hx217_0
              replace hx217_1 := (HB.out.cell (World.block_lt_of_cell? w _ hx217_1)).trans hx217_1
              replace p217 := eq_true p217
              replace q217 := eq_true q217
              go_wp2_with (first | (go_at_call 201; (with_reducible refine (impl_SetWait_1.calls ((rd_T187 l0 x9_1).f0) ((rd_T187 l0 x9_1).f1) a1 t218 _ A15.out).mono ?_); rintro e w16 ⟨rfl, hb⟩; have n0_ := Aside0.mk (below_step (by repeat (first | (with_reducible first | exact HB.out | apply below_alloc | apply pw_below_drewN | apply below_drew1) | exact HB.out)) hb); clear HB; have HB := n0_; clear n0_; (try clear hb); (try clear hb2); (try clear hk); (try clear hi)))
              go_ret2
              exact ⟨by first | rfl | (simp [errW_none, errW_some] <;> rfl) | (simp [*, errW_none, errW_some] <;> rfl), by repeat (first | (with_reducible first | exact HB.out | apply below_alloc | apply pw_below_drewN | apply below_drew1) | exact HB.out)⟩
            · rw [if_neg c14] at H
              exact absurd H (by simp)
          · rw [if_neg c13] at H
            exact absurd H (by simp)
        · rw [if_neg c12] at H
          have c12b0 : decide (x9_1 < (l0.length : Int)) = false := decide_eq_false c12
          clear c12
          simp only [Option.some.injEq, Prod.mk.injEq] at H
          obtain ⟨rfl, rfl⟩ := H
          go_wp2
          go_ret2
          exact ⟨by first | rfl | (simp [errW_none, errW_some] <;> rfl) | (simp [*, errW_none, errW_some] <;> rfl), by repeat (first | (with_reducible first | exact HB.out | apply below_alloc | apply pw_below_drewN | apply below_drew1) | exact HB.out)⟩

/-! ### impl_Wait_202: function 202 -/
section
open Go.Lib
set_option maxHeartbeats 4000000 in
set_option maxRecDepth 100000 in
theorem impl_Wait_202_shift (b n c i vb vc : Nat) (cur cv : Array Value) (w : World) (hi : i < n) (hroom : n + 1 ≤ c) (hc63 : c ≤ 9223372036854775807) (hvb : vb ≠ b)
    (hb : w.heap[b]? = some (.cells cur 187 (0, 0))) (hv : w.heap[vb]? = some (.cells cv 187 (0, 0))) (hcs : cur.size = c * 2) (hcv : 2 ≤ cv.size)
    (h1c : ∀ u ∈ cur.toList.take (n * 2), u.oneCell' = true) (h1v : ∀ u ∈ cv.toList.take 2, u.oneCell' = true) :
    Calls Try.prog 202 #[.slice (some ⟨b, 0, none⟩) n c, .int .i64 i, .slice (some ⟨vb, 0, none⟩) 1 vc] w fun e w' =>
      e = .returned (.slice (some ⟨b, 0, none⟩) (n + 1) c) ∧ w' = w.drew.setRow b ((cur.toList.take (n * 2)).take (i * 2) ++ cv.toList.take 2 ++ (cur.toList.take (n * 2)).drop (i * 2) ++ cur.toList.drop (n * 2 + 2)).toArray := by
  have hu93 := Try.underlying187
  have hz1 : ¬ ((1 : Int) = 0) := by omega
  have hz2 : ¬ ((i : Int) = (n : Int)) := by omega
  have hin : i ≤ n := by omega
  have hw1 : IntKind.i64.wrap ((i : Int) + 1) = (i : Int) + 1 := by rw [IntKind.wrap_i64]; omega
  have hw2 : IntKind.i64.wrap ((n : Int) + 1) = (n : Int) + 1 := by rw [IntKind.wrap_i64]; omega
  have hw1' : wrap64 ((i : Int) + 1) = (i : Int) + 1 := by unfold wrap64; omega
  have hw2' : wrap64 ((n : Int) + 1) = (n : Int) + 1 := by unfold wrap64; omega
  have hb1 : (0 : Int) ≤ (i : Int) + 1 := by omega
  have htn : ((i : Int) + 1).toNat = i + 1 := by omega
  have htn2 : ((n : Int) + 1).toNat = n + 1 := by omega
  have hb2 : ¬ (c = i + 1) := by omega
  have hb3 : (i : Int) ≤ (n : Int) + 1 := by omega
  have hb3' : (i : Int) + 1 ≤ (n : Int) + 1 := by omega
  have hb4 : ¬ (c = i) := by omega
  have hb5 : (n : Int) + 1 ≤ (c : Int) := by omega
  have hb6 : ¬ ((n : Int) + 1 > (c : Int)) := by omega
  have hb7 : (0 : Int) ≤ (n : Int) + 1 := by omega
  have hz93 : ∀ w, (Go.sizeOf 187).run Try.prog w = .ok 2 w := fun w => by
    obtain ⟨i0, hi0, h0, h1, h2⟩ := info_parts info187
    simp [sizeOf, typeInfo, hi0, h1]
  have hov : ∀ lb cb, (callFunc 217 #[.slice (some ⟨vb, 0, none⟩) 1 vc, .slice (some ⟨b, (i + 1) * 2, none⟩) lb cb]).run Try.prog w = .ok (.value (.bool false)) w := fun lb cb => by
    rw [run_callFunc_extern Try.func217 (by kernel_rfl) (by kernel_rfl) (by kernel_rfl) (e := Extern.SlicesOverlaps.overlaps #[109, 109] #[4]) (by kernel_rfl),
      run_overlaps_apart w 109 4 187 Try.underlying109 2 hz93 ⟨vb, 0, none⟩ ⟨b, (i + 1) * 2, none⟩ 1 vc lb cb hvb 187 187 cv.size cur.size (by unfold World.shape?; rw [hv]) (by unfold World.shape?; rw [hb]) (by rw [hcs]; omega) (by simp [World.frozen?, hv]) (by simp [World.frozen?, hv])]
    rfl
  have hdl : ((cur.toList.take (n * 2)).drop (i * 2)).length = (n - i) * 2 := by rw [List.length_drop, List.length_take, Array.length_toList, hcs]; omega
  have hvl : (cv.toList.take 2).length = 2 := by rw [List.length_take, Array.length_toList]; omega
  have hsz : (Try.prog.info? 187).map (·.size) = some 2 := by
    obtain ⟨i0, hi0, h0, h1, h2⟩ := info_parts info187
    rw [hi0]; simp [h1]
  have hcb : ∀ (W : World), W.heap = w.heap → ∀ j v, ((cur.toList.take (n * 2)).drop (i * 2))[j]? = some v → W.cell? ((⟨b, i * 2, none⟩ : Addr).add j) = some v := fun W hW j v hj => by
    rw [Addr.add_lit]
    rw [List.getElem?_drop, List.getElem?_take] at hj
    split at hj
    · simp only [World.cell?, hW, hb]
      rw [← Array.getElem?_toList]; simpa using hj
    · cases hj
  obtain ⟨cur1, hcur1⟩ : ∃ c1, c1 = (cur.toList.take ((i + 1) * 2) ++ (cur.toList.take (n * 2)).drop (i * 2) ++ cur.toList.drop ((i + 1) * 2 + ((cur.toList.take (n * 2)).drop (i * 2)).length)) := ⟨_, rfl⟩
  have hcp1 : ∀ ty dc sc, (Builtin.copy_ #[109, 109] ty #[.slice (some ⟨b, (i + 1) * 2, none⟩) (n - i) dc, .slice (some ⟨b, i * 2, none⟩) (n + 1 - i) sc]).run Try.prog w.drew = .ok (goInt (Nat.min (n + 1 - i) (n - i))) (w.drew.setRow b cur1.toArray) := fun ty dc sc => by
    rw [hcur1]
    exact run_copy_rowN w.drew 109 109 ty 187 2 b ((i + 1) * 2) (n - i) dc ⟨b, i * 2, none⟩ (n + 1 - i) sc cur 187 ((cur.toList.take (n * 2)).drop (i * 2)) Try.underlying109 hsz hb (by rw [hdl]; simp only [Nat.min_def]; split <;> omega)
      (hcb _ rfl) (by rw [hdl, hcs]; omega) (fun v hv => h1c v (List.mem_of_mem_drop hv))
  have hl1 : cur1.length = cur.size := by
    rw [hcur1, List.length_append, List.length_append, hdl, List.length_drop, List.length_take, Array.length_toList, hcs]; omega
  have hcp2 : ∀ (W : World), W.heap = (w.drew.setRow b cur1.toArray).heap → ∀ ty dc, (Builtin.copy_ #[109, 109] ty #[.slice (some ⟨b, i * 2, none⟩) (n + 1 - i) dc, .slice (some ⟨vb, 0, none⟩) 1 vc]).run Try.prog W = .ok (goInt (Nat.min 1 (n + 1 - i))) (W.setRow b (cur1.take (i * 2) ++ cv.toList.take 2 ++ cur1.drop (i * 2 + (cv.toList.take 2).length)).toArray) := fun W hW ty dc => by
    have hWb : W.heap[b]? = some (.cells cur1.toArray 187 (0, 0)) := by rw [hW]; exact setRow_heap w.drew b cur cur1.toArray 187 (0, 0) hb
    have hWv : W.heap[vb]? = some (.cells cv 187 (0, 0)) := by
      rw [hW]
      simp only [World.setRow]
      rw [Array.getElem?_modify, if_neg (fun h => hvb h.symm)]
      exact hv
    have h := run_copy_rowN W 109 109 ty 187 2 b (i * 2) (n + 1 - i) dc ⟨vb, 0, none⟩ 1 vc cur1.toArray 187 (cv.toList.take 2) Try.underlying109 hsz hWb (by rw [hvl]; simp only [Nat.min_def]; split <;> omega)
      (fun j v hj => by
        rw [Addr.add_lit]
        rw [List.getElem?_take] at hj
        split at hj
        · simp only [World.cell?, hWv]
          rw [← Array.getElem?_toList]; simpa using hj
        · cases hj) (by rw [hvl]; simp only [List.size_toArray, hl1, hcs]; omega) h1v
    simpa using h
  have hfin : (w.drew.setRow b cur1.toArray).setRow b (cur1.take (i * 2) ++ cv.toList.take 2 ++ cur1.drop (i * 2 + (cv.toList.take 2).length)).toArray = w.drew.setRow b ((cur.toList.take (n * 2)).take (i * 2) ++ cv.toList.take 2 ++ (cur.toList.take (n * 2)).drop (i * 2) ++ cur.toList.drop (n * 2 + 2)).toArray := by
    rw [setRow_setRow, hcur1]
    congr 1
    congr 1
    have h := shift_cells cur.toList (cv.toList.take 2) (i * 2) 2 (n * 2) (by omega) (by rw [Array.length_toList, hcs]; omega) hvl
    simpa [Nat.add_mul] using h
  rw [← hfin]
  clear hcur1 hfin
  have mixed : Try.prog.follows Departure.mixedOrders = true := by kernel_rfl
  go_enter Try.func202, Try.ntmps202
  go_wp2_with (simp only [hov])
  go_region_law_o (refine step_copy_runI rfl _ _ 109 109 rfl _ _ (by simp [Act.eval, Act.put]) (by simp [Act.eval, Act.put]) (hcp1 _ _ _) ?_)
  go_wp2_with (at_builtin; refine wpList_copy_runI _ rfl _ _ 109 109 rfl _ _ rfl rfl (hcp2 _ rfl _ _) ?_)
  go_ret
  exact ⟨rfl, by rw [hvl, List.append_assoc]⟩
set_option maxHeartbeats 4000000 in
set_option maxRecDepth 100000 in
theorem impl_Wait_202_grow (b n c i vb vc : Nat) (cur cv : Array Value) (w : World) (hi : i < n) (hnc : n ≤ c) (hroom : c < n + 1) (hbig : (n + 1) * 16 ≤ 140737488355328)
    (hb : w.heap[b]? = some (.cells cur 187 (0, 0))) (hv : w.heap[vb]? = some (.cells cv 187 (0, 0))) (hcs : cur.size = c * 2) (hcv : 2 ≤ cv.size)
    (h1c : ∀ u ∈ cur.toList.take (n * 2), u.oneCell' = true) (h1v : ∀ u ∈ cv.toList.take 2, u.oneCell' = true) (z : Value) (hz : z = .agg #[.int .i64 0, .int .i64 0])
    (ROW : Array Value) (hROW : ROW = (cur.toList.take (i * 2)).toArray ++ Builtin.zeroCells z.cells (n + 1 - i) ++ Builtin.zeroCells z.cells (grownCap w (n + 1) c 187 - (n + 1))) :
    Calls Try.prog 202 #[.slice (some ⟨b, 0, none⟩) n c, .int .i64 i, .slice (some ⟨vb, 0, none⟩) 1 vc] w fun e w' =>
      e = .returned (.slice (some ⟨w.heap.size, 0, none⟩) (n + 1) (grownCap w (n + 1) c 187)) ∧
      w' = (((w.alloc (.cells ROW 187)).drew.setRow w.heap.size (ROW.toList.take (i * 2) ++ cv.toList.take 2 ++ ROW.toList.drop (i * 2 + 2)).toArray).drew).setRow w.heap.size
        ((ROW.toList.take (i * 2) ++ cv.toList.take 2 ++ ROW.toList.drop (i * 2 + 2)).take ((i + 1) * 2) ++ (cur.toList.take (n * 2)).drop (i * 2) ++ (ROW.toList.take (i * 2) ++ cv.toList.take 2 ++ ROW.toList.drop (i * 2 + 2)).drop ((i + 1) * 2 + (n - i) * 2)).toArray := by
  have hu93 := Try.underlying187
  obtain ⟨i0, hi0, hz0, hzs, hzb⟩ := info_parts info187
  rw [← hz] at hz0
  have hz1 : ¬ ((1 : Int) = 0) := by omega
  have hz2 : ¬ ((i : Int) = (n : Int)) := by omega
  have hz3 : (c : Int) < (n : Int) + 1 := by omega
  have hz3' : (n : Int) + 1 > (c : Int) := by omega
  have hin : i ≤ n := by omega
  have hw1 : IntKind.i64.wrap ((i : Int) + 1) = (i : Int) + 1 := by rw [IntKind.wrap_i64]; omega
  have hw2 : IntKind.i64.wrap ((n : Int) + 1) = (n : Int) + 1 := by rw [IntKind.wrap_i64]; omega
  have hw3 : IntKind.i64.wrap ((n : Int) + 1 - (i : Int)) = (n : Int) + 1 - (i : Int) := by rw [IntKind.wrap_i64]; omega
  have hb1 : (0 : Int) ≤ (i : Int) + 1 := by omega
  have htn : ((i : Int) + 1).toNat = i + 1 := by omega
  have hb3 : (i : Int) ≤ (n : Int) := by omega
  have hb3' : (i : Int) + 1 ≤ (n : Int) + 1 := by omega
  have hci : ¬ (c = i) := by omega
  have hbw : b < w.heap.size := (Array.getElem?_eq_some_iff.1 hb).1
  have hvw : vb < w.heap.size := (Array.getElem?_eq_some_iff.1 hv).1
  have hsz : (Try.prog.info? 187).map (·.size) = some 2 := by rw [hi0]; simp [hzs]
  have hkk : (n : Int) + 1 - (i : Int) = ((n + 1 - i : Nat) : Int) := by omega
  have hik : i + (n + 1 - i) = n + 1 := by omega
  have hdl : ((cur.toList.take (n * 2)).drop (i * 2)).length = (n - i) * 2 := by rw [List.length_drop, List.length_take, Array.length_toList, hcs]; omega
  have hvl : (cv.toList.take 2).length = 2 := by rw [List.length_take, Array.length_toList]; omega
  have htl : (cur.toList.take (i * 2)).length = i * 2 := by rw [List.length_take, Array.length_toList, hcs]; omega
  have hold : (Builtin.firstCells i0.size i (.slice (some ⟨b, 0, none⟩) i c)).run Try.prog w.drew = .ok (cur.toList.take (i * 2)).toArray w.drew := by
    rw [hzs]
    exact run_firstCells_some w.drew 2 i ⟨b, 0, none⟩ i c (cur.toList.take (i * 2)) htl (fun j v hj => by
      rw [Addr.add_lit, Nat.zero_add]
      rw [List.getElem?_take] at hj
      split at hj
      · show w.drew.cell? ⟨b, j, none⟩ = some v
        have hb' : w.drew.heap[b]? = some (.cells cur 187 (0, 0)) := hb
        simp only [World.cell?, hb']
        rw [← Array.getElem?_toList]; exact hj
      · cases hj)
  obtain ⟨G, hG⟩ : ∃ G, G = grownCap w (n + 1) c 187 := ⟨_, rfl⟩
  rw [← hG] at hROW ⊢
  have hrz : ∀ ty, (Builtin.append_ #[109, 3] ty #[.slice (some ⟨b, 0, none⟩) i c, .int .i64 ((n : Int) + 1 - (i : Int))]).run Try.prog w =
      .ok (.slice (some ⟨w.heap.size, 0, none⟩) (n + 1) G) (w.drew.alloc (.cells ROW 187)) := fun ty => by
    have h := Go.Lib.run_append_grow_zeros w 109 3 ty 187 i0 z .i64 .i64 Try.underlying109 Try.underlying3 hi0 hz0 (some ⟨b, 0, none⟩) i c (cur.toList.take (i * 2)) hold (n + 1 - i) (by omega) (by omega) (by omega) (by omega) (by rw [hzb]; omega) (by rw [hzb, hik]; exact growslice_fits (by omega) (by omega))
    rw [hik, ← hG, ← hROW] at h
    rw [hkk]
    exact h
  have hGn : n + 1 ≤ G := by rw [hG]; exact grownCap_ge w _ _ _
  have hG63 : G ≤ 9223372036854775807 := by
    have := grownCap_le_maxLen w (n + 1) c 187 (by unfold maxLen; omega)
    rw [← hG] at this
    unfold maxLen at this
    omega
  have hGi : ¬ (G = i) := by omega
  have hGim : ¬ (G = i + 1) := by omega
  have hRl : ROW.size = G * 2 := by
    rw [hROW, hz]
    simp [Builtin.zeroCells, Value.cells, htl]
    omega
  obtain ⟨r1, hr1⟩ : ∃ r1, r1 = ROW.toList.take (i * 2) ++ cv.toList.take 2 ++ ROW.toList.drop (i * 2 + 2) := ⟨_, rfl⟩
  rw [← hr1]
  have hl1 : r1.length = G * 2 := by
    rw [hr1, List.length_append, List.length_append, hvl, List.length_drop, List.length_take, Array.length_toList, hRl]; omega
  have hcpA : ∀ (W : World), W.heap = (w.drew.alloc (.cells ROW 187)).heap → ∀ ty dc, (Builtin.copy_ #[109, 109] ty #[.slice (some ⟨w.heap.size, i * 2, none⟩) (n + 1 - i) dc, .slice (some ⟨vb, 0, none⟩) 1 vc]).run Try.prog W = .ok (goInt (Nat.min 1 (n + 1 - i))) (W.setRow w.heap.size r1.toArray) := fun W hW ty dc => by
    have hWb : W.heap[w.heap.size]? = some (.cells ROW 187 (0, 0)) := by rw [hW]; show (w.heap.push _)[w.heap.size]? = _; simp
    have hWv : W.heap[vb]? = some (.cells cv 187 (0, 0)) := by
      rw [hW]
      show (w.heap.push _)[vb]? = _
      rw [Array.getElem?_push_lt hvw]
      exact (Array.getElem?_eq_getElem hvw).symm.trans hv
    have h := run_copy_rowN W 109 109 ty 187 2 w.heap.size (i * 2) (n + 1 - i) dc ⟨vb, 0, none⟩ 1 vc ROW 187 (cv.toList.take 2) Try.underlying109 hsz hWb (by rw [hvl]; simp only [Nat.min_def]; split <;> omega)
      (fun j v hj => by
        rw [Addr.add_lit]
        rw [List.getElem?_take] at hj
        split at hj
        · simp only [World.cell?, hWv]
          rw [← Array.getElem?_toList]; simpa using hj
        · cases hj) (by rw [hvl, hRl]; omega) h1v
    rw [hr1]
    rw [hvl] at h
    exact h
  have hcpB : ∀ (W : World), W.heap = ((w.drew.alloc (.cells ROW 187)).setRow w.heap.size r1.toArray).heap → ∀ ty dc sc, (Builtin.copy_ #[109, 109] ty #[.slice (some ⟨w.heap.size, (i + 1) * 2, none⟩) (n - i) dc, .slice (some ⟨b, i * 2, none⟩) (n - i) sc]).run Try.prog W = .ok (goInt (Nat.min (n - i) (n - i))) (W.setRow w.heap.size (r1.take ((i + 1) * 2) ++ (cur.toList.take (n * 2)).drop (i * 2) ++ r1.drop ((i + 1) * 2 + (n - i) * 2)).toArray) := fun W hW ty dc sc => by
    have hWb : W.heap[w.heap.size]? = some (.cells r1.toArray 187 (0, 0)) := by rw [hW]; exact setRow_heap _ _ ROW r1.toArray 187 (0, 0) (by show (w.heap.push _)[w.heap.size]? = _; simp)
    have hWo : W.heap[b]? = some (.cells cur 187 (0, 0)) := by
      rw [hW]
      simp only [World.setRow]
      rw [Array.getElem?_modify, if_neg (by omega)]
      show (w.heap.push _)[b]? = _
      rw [Array.getElem?_push_lt hbw]
      exact (Array.getElem?_eq_getElem hbw).symm.trans hb
    have h := run_copy_rowN W 109 109 ty 187 2 w.heap.size ((i + 1) * 2) (n - i) dc ⟨b, i * 2, none⟩ (n - i) sc r1.toArray 187 ((cur.toList.take (n * 2)).drop (i * 2)) Try.underlying109 hsz hWb (by rw [hdl]; simp only [Nat.min_def]; split <;> omega)
      (fun j v hj => by
        rw [Addr.add_lit]
        rw [List.getElem?_drop, List.getElem?_take] at hj
        split at hj
        · simp only [World.cell?, hWo]
          rw [← Array.getElem?_toList]; simpa using hj
        · cases hj) (by rw [hdl]; simp only [List.size_toArray, hl1]; omega) (fun v hv => h1c v (List.mem_of_mem_drop hv))
    rw [hdl] at h
    exact h
  have mixed : Try.prog.follows Departure.mixedOrders = true := by kernel_rfl
  clear hkk hik hold hROW hRl hr1 hl1 hG
  go_enter Try.func202, Try.ntmps202
  go_wp2_with (first
    | (at_builtin; refine Go.Lib.wpList_append_run _ rfl _ _ _ _ rfl _ _ rfl rfl _ _ (hrz _) ?_)
    | ((with_reducible refine gate_builtin (b := .copy) rfl ?_); refine wpList_copy_runI _ rfl _ _ 109 109 rfl _ _ rfl rfl (hcpA _ (by rfl) _ _) ?_)
    | ((with_reducible refine gate_builtin (b := .copy) rfl ?_); refine wpList_copy_runI _ rfl _ _ 109 109 rfl _ _ rfl rfl (hcpB _ (by rfl) _ _ _) ?_))
  go_region_law_o (refine step_copy_runI rfl _ _ 109 109 rfl (.slice (some ⟨w.heap.size, (i + 1) * 2, none⟩) (n - i) (G - (i + 1))) (.slice (some ⟨b, i * 2, none⟩) (n - i) (c - i)) (by simp [Act.eval, Act.put]) (by simp [Act.eval, Act.put]) (hcpB _ (by rfl) _ _ _) ?_)
  go_wp2
  go_ret
  exact ⟨rfl, by rw [List.append_assoc]⟩
set_option maxHeartbeats 4000000 in
set_option maxRecDepth 100000 in
theorem impl_Wait_202_end (P0_ : Nat → Prop) (u0 : Value) (l0 : List S187) (A2 : Option Addr) (c2 : Nat) (l2 : List S187) (w0 w : World) (hB : Below w0.heap.size w0 w) (ho0 : Kd.R k187 187 w w0.heap.size P0_ u0 l0)
    (hr2 : Kd.C k187 w A2 1 l2) (h2 : l2.length = 1) (hlim : l0.length < 8796093022207) :
    Calls Try.prog 202 #[u0, .int .i64 (l0.length : Int), .slice A2 1 c2] w fun e w' => ∃ v1, e = .returned v1 ∧ Kd.R k187 187 w' w0.heap.size (fun k_ => P0_ k_ ∨ w.heap.size ≤ k_) v1 (l0 ++ l2) ∧ Below w0.heap.size w0 w' ∧ w.grownBy w' u0.ownBlock := by
  have hu93 := Try.underlying187
  obtain ⟨A0, c0, e0⟩ := Kd.R_slice ho0
  subst e0
  have hnc := (Kd.R_reads' ho0).2.1
  have hz1 : ¬ ((1 : Int) = 0) := by omega
  have hin : (l0.length : Int) ≤ (l0.length : Int) := by omega
  have hO : Kd.R k187 187 w w0.heap.size (fun k_ => P0_ k_ ∨ w.heap.size ≤ k_) (.slice A0 l0.length c0) l0 := Kd.R_mono ho0 (fun _ h => .inl h)
  go_enter Try.func202, Try.ntmps202
  go_wp2_with ((with_reducible refine gate_builtin (b := .append) rfl ?_); refine Kd.R_append_rows k187 (w0 := w0) w0.heap.size rfl _ _ 109 187 (.agg #[(.int .i64 0), (.int .i64 0)]) 16 rfl Try.underlying109 info187 rfl (by decide) (by omega) (.slice A0 l0.length c0) l0 l2 A2 1 c2 (fun k_ => P0_ k_ ∨ w.heap.size ≤ k_) (fun _ => False) rfl rfl hO hr2 (fun _ _ h => h) (fun _ h => h.elim) (fun _ h => .inr h) hB hB.size (by omega) ?_; intro v1 w1 hR hb hg hat)
  all_goals (go_ret; exact ⟨_, rfl, hR, hb, by cases A0 <;> exact hg⟩)

theorem impl_Wait_202_rowsize (w : World) (g : Nat) (cs : Array Value) : (w.setRow g cs).heap.size = w.heap.size := by simp only [World.setRow, Array.size_modify]
theorem impl_Wait_202_rowne (w : World) (g : Nat) (cs : Array Value) {k : Nat} (h : k ≠ g) : (w.setRow g cs).heap[k]? = w.heap[k]? := by
  simp only [World.setRow]
  rw [Array.getElem?_modify, if_neg (Ne.symm h)]
theorem impl_Wait_202_rowgrown (w : World) (g : Nat) (cs : Array Value) : w.grownBy (w.drew.setRow g cs) (some g) :=
  ⟨rfl, rfl, rfl, by show w.heap.size ≤ (w.heap.modify _ _).size; rw [Array.size_modify]; exact Nat.le_refl _, fun k hk hne => by
    show (w.drew.setRow g cs).heap[k]? = w.heap[k]?
    simp only [World.setRow]
    rw [Array.getElem?_modify, if_neg (fun h => hne (by rw [h]))]
    rfl⟩
def impl_Wait_202.f (l0 : List S187) (a1 : Int) (l2 : List S187) : Option (List S187) :=
  if 0 ≤ a1 ∧ a1 ≤ (l0.length : Int) ∧ l2.length = 1 ∧ l0.length < 8796093022207 then some (l0.take a1.toNat ++ l2 ++ l0.drop a1.toNat) else none
set_option maxHeartbeats 4000000 in
theorem impl_Wait_202.calls (P0_ : Nat → Prop) (u0 : Value) (l0 : List S187) (a1 : Int) (P2_ : Nat → Prop) (u2 : Value) (l2 : List S187) (r : List S187) (w0 w : World) (hB : Below w0.heap.size w0 w)
    (ho0 : Kd.R k187 187 w w0.heap.size P0_ u0 l0) (ha0 : ∀ k, P0_ k → ¬ P2_ k) (ho2 : Kd.R k187 187 w w0.heap.size P2_ u2 l2) (ha2 : ∀ k, P2_ k → ¬ P0_ k) (h : impl_Wait_202.f l0 a1 l2 = some r) :
    Calls Try.prog 202 #[u0, .int .i64 a1, u2] w fun e w' => ∃ v0_ : Value, e = .returned v0_ ∧ Kd.R k187 187 w' w0.heap.size (fun k_ => ((P0_ k_ ∨ P2_ k_) ∨ w.heap.size ≤ k_)) v0_ r ∧ Below w0.heap.size w0 w' ∧ Kept w w' (fun k_ => P0_ k_ ∨ P2_ k_) := by
  unfold impl_Wait_202.f at h
  split at h
  rotate_left 1
  · cases h
  rename_i hp
  obtain ⟨p0, p1, p2, p3⟩ := hp
  injection h with h
  subst h
  obtain ⟨i, rfl⟩ := Int.eq_ofNat_of_zero_le p0
  have hE : k187.E = [] := rfl
  have hsz : k187.sz = 2 := rfl
  rw [Int.toNat_natCast]
  rcases Kd.R_open hE ho2 with ⟨_, rfl⟩ | ⟨vb, vc, cv, rfl, hvb, hPv, hgv, hvn, hvc, hvs, hvr, hv1⟩
  · simp at p2
  have hc2 := (Kd.R_reads' ho2).2.2
  rw [p2] at hc2 ⊢
  rw [p2, hsz] at hvr hv1
  rw [hsz] at hvs
  have hvsz : 2 ≤ cv.size := by omega
  by_cases hin : i = l0.length
  · subst hin
    refine (impl_Wait_202_end P0_ u0 l0 (some ⟨vb, 0, none⟩) vc l2 w0 w hB ho0 hc2 p2 p3).mono fun e w' hh => ?_
    obtain ⟨v1, rfl, hR, hb, hg⟩ := hh
    refine ⟨v1, rfl, ?_, hb, Kept.of_grown hg (Kept.refl w _) (fun k hk => .inl (.inl (ho0.1 k hk)))⟩
    rw [List.take_length, List.drop_length, List.append_nil]
    exact Kd.R_mono hR (fun k hk => hk.elim (fun h => .inl (.inl h)) .inr)
  have hin' : i < l0.length := by omega
  rcases Kd.R_open hE ho0 with ⟨_, rfl⟩ | ⟨b, c, cur, rfl, hb0, hPb, hgb, hnc, hcm, hcs, hcr, hc1⟩
  · simp at hin'
  rw [hsz] at hcs hcr hc1
  have hcl : cur.toList.length = c * 2 := by rw [Array.length_toList, hcs]
  have hvb' : vb ≠ b := fun e => ha0 b hPb (e ▸ hPv)
  have hcm' : c ≤ 9223372036854775807 := by unfold maxLen at hcm; omega
  have hrl : (l0.take i ++ l2 ++ l0.drop i).length = l0.length + 1 := by rw [List.length_append, List.length_append, List.length_take, List.length_drop, p2]; omega
  have hreps : ∀ (W : World) (ok' : Nat → Prop), Reps (k187.M W w0.heap.size ok') 2 (l0.take i ++ l2 ++ l0.drop i) ((cur.toList.take (l0.length * 2)).take (i * 2) ++ cv.toList.take 2 ++ (cur.toList.take (l0.length * 2)).drop (i * 2)) := fun W ok' =>
    Kd.reps_append (Kd.reps_append (Kd.reps_take (hcr W ok') (by omega)) (by have := hvr W ok'; simpa using this)) (Kd.reps_drop (hcr W ok'))
  have htk : ∀ rest : List Value, ((cur.toList.take (l0.length * 2)).take (i * 2) ++ cv.toList.take 2 ++ (cur.toList.take (l0.length * 2)).drop (i * 2) ++ rest).take ((l0.length + 1) * 2) = (cur.toList.take (l0.length * 2)).take (i * 2) ++ cv.toList.take 2 ++ (cur.toList.take (l0.length * 2)).drop (i * 2) := fun rest => by
    have hl := (hreps w (fun _ => True)).1
    rw [hrl] at hl
    exact List.take_left' hl
  have hv1' : ∀ u ∈ cv.toList.take 2, u.oneCell' = true := by simpa using hv1
  by_cases hroom : l0.length + 1 ≤ c
  · refine (impl_Wait_202_shift b l0.length c i vb vc cur cv w hin' hroom hcm' hvb' hgb hgv hcs hvsz hc1 hv1').mono fun e w' hh => ?_
    obtain ⟨rfl, rfl⟩ := hh
    have hg := impl_Wait_202_rowgrown w b ((cur.toList.take (l0.length * 2)).take (i * 2) ++ cv.toList.take 2 ++ (cur.toList.take (l0.length * 2)).drop (i * 2) ++ cur.toList.drop (l0.length * 2 + 2)).toArray
    refine ⟨_, rfl, ?_, pw_below_grown hB (some b) hB.size hg (fun k hk => by injection hk with hk; omega), Kept.of_grown hg (Kept.refl w _) (fun k hk => by injection hk with hk; subst hk; exact .inl (.inl hPb))⟩
    have hR := Kd.R_close (d := k187) (e := 187) (base := w0.heap.size) (ok := fun k_ => ((P0_ k_ ∨ P2_ k_) ∨ w.heap.size ≤ k_)) (xs := l0.take i ++ l2 ++ l0.drop i) (cap := c) hb0 (.inl (.inl hPb))
      (setRow_heap w.drew b cur ((cur.toList.take (l0.length * 2)).take (i * 2) ++ cv.toList.take 2 ++ (cur.toList.take (l0.length * 2)).drop (i * 2) ++ cur.toList.drop (l0.length * 2 + 2)).toArray 187 (0, 0) hgb)
      (by rw [hrl]; exact hroom) hcm (by
        have hl := (hreps w (fun _ => True)).1
        rw [hrl] at hl
        rw [hsz, List.size_toArray, List.length_append, hl, List.length_drop, hcl]; omega) (by rw [hsz, hrl]; show Reps _ _ _ (List.take _ _); rw [htk]; exact hreps _ _)
    rw [hrl] at hR
    exact hR
  · have hG := grownCap_ge w (l0.length + 1) c 187
    have hGm := grownCap_le_maxLen w (l0.length + 1) c 187 (by unfold maxLen; omega)
    obtain ⟨ROW, hROW⟩ : ∃ ROW : Array Value, ROW = (cur.toList.take (i * 2)).toArray ++ Builtin.zeroCells (Value.agg #[.int .i64 0, .int .i64 0]).cells (l0.length + 1 - i) ++ Builtin.zeroCells (Value.agg #[.int .i64 0, .int .i64 0]).cells (grownCap w (l0.length + 1) c 187 - (l0.length + 1)) := ⟨_, rfl⟩
    have htl : (cur.toList.take (i * 2)).length = i * 2 := by rw [List.length_take, hcl]; omega
    have hRl : ROW.toList.length = grownCap w (l0.length + 1) c 187 * 2 := by
      rw [Array.length_toList, hROW]
      simp [Builtin.zeroCells, Value.cells, htl]
      omega
    have hRt : ROW.toList.take (i * 2) = cur.toList.take (i * 2) := by
      rw [hROW, Array.toList_append, Array.toList_append, List.append_assoc]
      exact List.take_left' htl
    have hvl : (cv.toList.take 2).length = 2 := by rw [List.length_take, Array.length_toList]; omega
    have hfin := grow_cells ROW.toList cur.toList (cv.toList.take 2) (i * 2) 2 (l0.length * 2) (by omega) (by rw [hRl]; omega) (by rw [hcl]; omega) hvl hRt
    rw [hvl, show ((cur.toList.take (l0.length * 2)).drop (i * 2)).length = (l0.length - i) * 2 from by rw [List.length_drop, List.length_take, hcl]; omega] at hfin
    refine (impl_Wait_202_grow b l0.length c i vb vc cur cv w hin' hnc (by omega) (by omega) hgb hgv hcs hvsz hc1 hv1' _ rfl ROW hROW).mono fun e w' hh => ?_
    obtain ⟨rfl, rfl⟩ := hh
    rw [show (i + 1) * 2 = i * 2 + 2 from by omega, hfin]
    obtain ⟨NC, hNC⟩ : ∃ NC : List Value, NC = (cur.toList.take (l0.length * 2)).take (i * 2) ++ cv.toList.take 2 ++ (cur.toList.take (l0.length * 2)).drop (i * 2) ++ ROW.toList.drop (l0.length * 2 + 2) := ⟨_, rfl⟩
    rw [← hNC]
    have hb : Below w.heap.size w (((w.alloc (.cells ROW 187)).drew.setRow w.heap.size (ROW.toList.take (i * 2) ++ cv.toList.take 2 ++ ROW.toList.drop (i * 2 + 2)).toArray).drew.setRow w.heap.size NC.toArray) := by
      refine ⟨rfl, rfl, rfl, ?_, fun k hk => ?_⟩
      · rw [impl_Wait_202_rowsize]
        show w.heap.size ≤ ((w.alloc (.cells ROW 187)).drew.setRow w.heap.size _).heap.size
        rw [impl_Wait_202_rowsize]
        show w.heap.size ≤ (w.heap.push _).size
        rw [Array.size_push]; omega
      · rw [impl_Wait_202_rowne _ _ _ (by omega)]
        show ((w.alloc (.cells ROW 187)).drew.setRow w.heap.size _).heap[k]? = w.heap[k]?
        rw [impl_Wait_202_rowne _ _ _ (by omega)]
        show (w.heap.push _)[k]? = w.heap[k]?
        rw [Array.getElem?_push_lt hk]
        exact (Array.getElem?_eq_getElem hk).symm
    refine ⟨_, rfl, ?_, below_then hB hB.size hb, Kept.of_below hb _⟩
    have hR := Kd.R_close (d := k187) (e := 187) (base := w0.heap.size) (ok := fun k_ => ((P0_ k_ ∨ P2_ k_) ∨ w.heap.size ≤ k_)) (xs := l0.take i ++ l2 ++ l0.drop i) (cap := grownCap w (l0.length + 1) c 187) (g := w.heap.size) hB.size (.inr (Nat.le_refl _))
      (setRow_heap ((w.alloc (.cells ROW 187)).drew.setRow w.heap.size (ROW.toList.take (i * 2) ++ cv.toList.take 2 ++ ROW.toList.drop (i * 2 + 2)).toArray).drew w.heap.size _ NC.toArray 187 (0, 0)
        (setRow_heap (w.alloc (.cells ROW 187)).drew w.heap.size ROW _ 187 (0, 0) (by show (w.heap.push _)[w.heap.size]? = _; simp)))
      (by rw [hrl]; exact hG) hGm (by
        have hl := (hreps w (fun _ => True)).1
        rw [hrl] at hl
        rw [hsz, List.size_toArray, hNC, List.length_append, hl, List.length_drop, hRl]; omega) (by rw [hsz, hrl]; show Reps _ _ _ (List.take _ NC); rw [hNC, htk]; exact hreps _ _)
    rw [hrl] at hR
    exact hR

end

/-! ### impl_SetWait: function 151 -/
def impl_SetWait.j0 : Nat → List (S187) → Int → Int → List (S187) → Bool → Option ((List (S187)) × Bool)
  | 0, _, _, _, _, _ => none
  | k + 1, x0, x1, x2, x8, x30 => if x30 = true then (some (x8, false)) else ((impl_Wait_int.f k x0 x1).bind fun bt225 => (if bt225.2 = true then (if 0 ≤ bt225.1 then (if bt225.1 < (x8.length : Int) then (some ((x8.set (bt225.1 : Int).toNat (⟨(rd_T187 x8 bt225.1).f0, x2⟩ : S187)), true)) else (none)) else (none)) else ((impl_Wait_202.f x8 bt225.1 (([(⟨x1, x2⟩ : S187)] : List (S187)))).bind fun t231 => (some (t231, true)))))
def impl_SetWait.f (k : Nat) (l0 : List (S187)) (a1 : Int) (a2 : Int) : Option ((List (S187)) × Bool) := (impl_Wait_198.f l0).bind fun t219 => ((impl_AreWaits.f k l0).bind fun t222 => (if t222 = true then ((impl_isID.f a1).bind fun t223 => (if t223 = true then ((impl_isID.f a2).bind fun t224 => (if t224 = true then (impl_SetWait.j0 k l0 a1 a2 t219 (a1 == a2)) else (impl_SetWait.j0 k l0 a1 a2 t219 true))) else (impl_SetWait.j0 k l0 a1 a2 t219 true))) else (impl_SetWait.j0 k l0 a1 a2 t219 true)))
theorem impl_SetWait.mono_l : ∀ k, (∀ y0 y1 y2 y3 y4, LeO (impl_SetWait.j0 k y0 y1 y2 y3 y4) (impl_SetWait.j0 (k + 1) y0 y1 y2 y3 y4))
  | 0 => fun _ _ _ _ _ r h => by simp [impl_SetWait.j0] at h
  | k + 1 => by
    have ih0 := impl_SetWait.mono_l k
    · intro y0 y1 y2 y3 y4
      unfold impl_SetWait.j0
      repeat' first
      | (with_reducible exact ih0 _ _ _ _ _)
      | (with_reducible exact impl_AreWaits.mono _ _)
      | (with_reducible exact impl_Wait_int.mono _ _ _)
      | (with_reducible exact LeO.refl _)
      | (with_reducible exact LeO.none _)
      | (with_reducible refine LeO.ite ?_ ?_)
      | (with_reducible refine LeO.bind ?_ (fun _ => ?_))
      | exact ih0 _ _ _ _ _
      | exact impl_AreWaits.mono _ _
      | exact impl_Wait_int.mono _ _ _
      | exact LeO.none _
      | refine LeO.ite ?_ ?_
      | refine LeO.bind ?_ (fun _ => ?_)
theorem impl_SetWait.mono : ∀ a0 a1 a2 k, LeO (impl_SetWait.f k a0 a1 a2) (impl_SetWait.f (k + 1) a0 a1 a2) := by
  intro a0 a1 a2 k
  have ih0 := impl_SetWait.mono_l k
  unfold impl_SetWait.f
  repeat' first
      | (with_reducible exact ih0 _ _ _ _ _)
      | (with_reducible exact impl_AreWaits.mono _ _)
      | (with_reducible exact impl_Wait_int.mono _ _ _)
      | (with_reducible exact LeO.refl _)
      | (with_reducible exact LeO.none _)
      | (with_reducible refine LeO.ite ?_ ?_)
      | (with_reducible refine LeO.bind ?_ (fun _ => ?_))
      | exact ih0 _ _ _ _ _
      | exact impl_AreWaits.mono _ _
      | exact impl_Wait_int.mono _ _ _
      | exact LeO.none _
      | refine LeO.ite ?_ ?_
      | refine LeO.bind ?_ (fun _ => ?_)
set_option maxHeartbeats 8000000 in
set_option maxRecDepth 100000 in
theorem impl_SetWait.calls (k : Nat) (A0 : Option Addr) (c0 : Nat) (l0 : List (S187)) (a1 : Int) (a2 : Int) (r1 : List (S187)) (r2 : Bool) (w : World) (hr0 : Kd.C k187 w A0 l0.length l0) (hc0 : l0.length ≤ c0) (h : impl_SetWait.f k l0 a1 a2 = some (r1, r2)) :
    Calls Try.prog 151 #[.slice A0 l0.length c0, .int .i64 a1, .int .i64 a2] w fun e w' => ∃ v0_ : Value, e = .returned (.tuple #[v0_, .bool r2]) ∧ Kd.R k187 187 w' w.heap.size (fun _ => True) v0_ r1 ∧ Below w.heap.size w w' := by
  have hu187 := Try.underlying187
  have HR0 := Aside0.mk hr0
  have HC0 := Aside0.mk hc0
  clear hr0 hc0
  have HB := Aside0.mk (Below.refl w.heap.size w)
  have H : ((impl_Wait_198.f l0).bind fun t219 => ((impl_AreWaits.f k l0).bind fun t222 => (if t222 = true then ((impl_isID.f a1).bind fun t223 => (if t223 = true then ((impl_isID.f a2).bind fun t224 => (if t224 = true then (impl_SetWait.j0 k l0 a1 a2 t219 (a1 == a2)) else (impl_SetWait.j0 k l0 a1 a2 t219 true))) else (impl_SetWait.j0 k l0 a1 a2 t219 true))) else (impl_SetWait.j0 k l0 a1 a2 t219 true)))) = some (r1, r2) := h
  clear h
  replace H := Option.bind_eq_some_iff.mp H
  obtain ⟨t219, A40, H⟩ := H
  replace H : ((impl_AreWaits.f k l0).bind fun t222 => (if t222 = true then ((impl_isID.f a1).bind fun t223 => (if t223 = true then ((impl_isID.f a2).bind fun t224 => (if t224 = true then (impl_SetWait.j0 k l0 a1 a2 t219 (a1 == a2)) else (impl_SetWait.j0 k l0 a1 a2 t219 true))) else (impl_SetWait.j0 k l0 a1 a2 t219 true))) else (impl_SetWait.j0 k l0 a1 a2 t219 true))) = some (r1, r2) := H
  have A4 := Aside0.mk A40
  clear A40
  have HC5 := Aside0.mk H
  clear H
  go_enter Try.func151, Try.ntmps151
  go_upto_region 2 with (first | ((with_reducible refine gate_callee (f := 198) rfl ?_); refine goesL_ (some 12) rfl rfl Try.func198 (by kernel_rfl) rfl #[.slice A0 l0.length c0] rfl (by (try simp only [List.map_toArray, List.map_cons, List.map_nil]); first | done | rfl | (simp only [List.length_drop, List.length_take]; rfl)) ?_; (with_reducible refine (impl_Wait_198.calls _ _ l0 t219 _ ?side1 ?side2 A4.out).mono ?_); (case side1 => repeat (first | exact HR0.out | (with_reducible refine Kd.C_alloc ?_ _) | (with_reducible refine Kd.C_drewN ?_ _) | (with_reducible refine Kd.C_drew ?_))); (case side2 => exact HC0.out); rintro e w6 ⟨v220, rfl, ho0, hb⟩; refine ⟨_, rfl, ?_⟩; have n0_ := Aside0.mk (Kd.R_lower ho0 (below_size (by repeat (first | (with_reducible first | exact HB.out | apply below_alloc | apply pw_below_drewN | apply below_drew1) | exact HB.out)))); have n1_ := Aside0.mk (below_step (by repeat (first | (with_reducible first | exact HB.out | apply below_alloc | apply pw_below_drewN | apply below_drew1) | exact HB.out)) hb); clear HB; have HO221 := n0_; have HB := n1_; clear n0_ n1_; (try clear hb); (try clear hb2); (try clear hk); (try clear hi); (try clear ho0)))
  (try simp only [Act.put, List.setIfInBounds_toArray, List.set_cons_zero, List.set_cons_succ])
  go_cut [30] (fun v30 wc => ∃ (kq : Nat) (x30_4 : Bool), v30 = .bool x30_4 ∧ Aside0 (impl_SetWait.j0 kq l0 a1 a2 t219 x30_4 = some (r1, r2)) ∧ Aside0 (kq ≤ k) ∧ Aside0 (Kd.R k187 187 wc w.heap.size (fun _ => True) v220 t219) ∧ Aside0 (Below w.heap.size w wc))
  case first =>
    have H := HC5.out
    clear HC5
    replace H := Option.bind_eq_some_iff.mp H
    obtain ⟨t222, A70, H⟩ := H
    replace H : (if t222 = true then ((impl_isID.f a1).bind fun t223 => (if t223 = true then ((impl_isID.f a2).bind fun t224 => (if t224 = true then (impl_SetWait.j0 k l0 a1 a2 t219 (a1 == a2)) else (impl_SetWait.j0 k l0 a1 a2 t219 true))) else (impl_SetWait.j0 k l0 a1 a2 t219 true))) else (impl_SetWait.j0 k l0 a1 a2 t219 true)) = some (r1, r2) := H
    have A7 := Aside0.mk A70
    clear A70
    by_cases c8 : t222 = true
    · subst c8
      have H1 : ((impl_isID.f a1).bind fun t223 => (if t223 = true then ((impl_isID.f a2).bind fun t224 => (if t224 = true then (impl_SetWait.j0 k l0 a1 a2 t219 (a1 == a2)) else (impl_SetWait.j0 k l0 a1 a2 t219 true))) else (impl_SetWait.j0 k l0 a1 a2 t219 true))) = some (r1, r2) := by rw [if_pos rfl] at H; exact H
      clear H
      have H := H1
      clear H1
      replace H := Option.bind_eq_some_iff.mp H
      obtain ⟨t223, A90, H⟩ := H
      replace H : (if t223 = true then ((impl_isID.f a2).bind fun t224 => (if t224 = true then (impl_SetWait.j0 k l0 a1 a2 t219 (a1 == a2)) else (impl_SetWait.j0 k l0 a1 a2 t219 true))) else (impl_SetWait.j0 k l0 a1 a2 t219 true)) = some (r1, r2) := H
      have A9 := Aside0.mk A90
      clear A90
      by_cases c10 : t223 = true
      · subst c10
        have H1 : ((impl_isID.f a2).bind fun t224 => (if t224 = true then (impl_SetWait.j0 k l0 a1 a2 t219 (a1 == a2)) else (impl_SetWait.j0 k l0 a1 a2 t219 true))) = some (r1, r2) := by rw [if_pos rfl] at H; exact H
        clear H
        have H := H1
        clear H1
        replace H := Option.bind_eq_some_iff.mp H
        obtain ⟨t224, A110, H⟩ := H
        replace H : (if t224 = true then (impl_SetWait.j0 k l0 a1 a2 t219 (a1 == a2)) else (impl_SetWait.j0 k l0 a1 a2 t219 true)) = some (r1, r2) := H
        have A11 := Aside0.mk A110
        clear A110
        by_cases c12 : t224 = true
        · subst c12
          have H1 : (impl_SetWait.j0 k l0 a1 a2 t219 (a1 == a2)) = some (r1, r2) := by rw [if_pos rfl] at H; exact H
          clear H
          have H := H1
          clear H1
          have H' := Aside0.mk H
          clear H
          go_wp2_with (first | ((with_reducible refine gate_callee (f := 199) rfl ?_); refine goesL_ (some 14) rfl rfl Try.func199 (by kernel_rfl) rfl #[.slice A0 l0.length c0] rfl (by (try simp only [List.map_toArray, List.map_cons, List.map_nil]); first | done | rfl | (simp only [List.length_drop, List.length_take]; rfl)) ?_; (with_reducible refine (impl_AreWaits.calls k _ _ l0 true _ ?side1 ?side2 A7.out).mono ?_); (case side1 => repeat (first | exact (Kd.C_below HR0.out HB.out) | (with_reducible refine Kd.C_alloc ?_ _) | (with_reducible refine Kd.C_drewN ?_ _) | (with_reducible refine Kd.C_drew ?_))); (case side2 => exact HC0.out); rintro e w13 ⟨rfl, hb⟩; refine ⟨_, rfl, ?_⟩; have n0_ := Aside0.mk (Kd.R_below (by (with_reducible repeat (first | apply Kd.R_alloc | apply Kd.R_drewN | apply Kd.R_drew)); exact HO221.out) hb); have n1_ := Aside0.mk (below_step (by repeat (first | (with_reducible first | exact HB.out | apply below_alloc | apply pw_below_drewN | apply below_drew1) | exact HB.out)) hb); clear HO221; clear HB; have HO221 := n0_; have HB := n1_; clear n0_ n1_; (try clear hb); (try clear hb2); (try clear hk); (try clear hi)) | (go_at_call 132; (with_reducible refine (impl_isID.calls a1 true _ A9.out).mono ?_); rintro e w' ⟨rfl, ⟨nd, rfl⟩⟩) | (go_at_call 132; (with_reducible refine (impl_isID.calls a2 true _ A11.out).mono ?_); rintro e w' ⟨rfl, ⟨nd, rfl⟩⟩))
          go_meet
          case rel => exact ⟨_, ((a1 == a2)), (by first | rfl | (simp; done) | (simp [*]; done)), H', ⟨by first | omega | exact Nat.le_refl _⟩, ⟨by (with_reducible repeat (first | apply Kd.R_alloc | apply Kd.R_drewN | apply Kd.R_drew)); exact HO221.out⟩, ⟨by repeat (first | (with_reducible first | exact HB.out | apply below_alloc | apply pw_below_drewN | apply below_drew1) | exact HB.out)⟩⟩
        · replace c12 := Bool.eq_false_iff.mpr c12
          subst c12
          have H1 : (impl_SetWait.j0 k l0 a1 a2 t219 true) = some (r1, r2) := by rw [if_neg (show ¬ (false = true) by decide)] at H; exact H
          clear H
          have H := H1
          clear H1
          have H' := Aside0.mk H
          clear H
          go_wp2_with (first | ((with_reducible refine gate_callee (f := 199) rfl ?_); refine goesL_ (some 14) rfl rfl Try.func199 (by kernel_rfl) rfl #[.slice A0 l0.length c0] rfl (by (try simp only [List.map_toArray, List.map_cons, List.map_nil]); first | done | rfl | (simp only [List.length_drop, List.length_take]; rfl)) ?_; (with_reducible refine (impl_AreWaits.calls k _ _ l0 true _ ?side1 ?side2 A7.out).mono ?_); (case side1 => repeat (first | exact (Kd.C_below HR0.out HB.out) | (with_reducible refine Kd.C_alloc ?_ _) | (with_reducible refine Kd.C_drewN ?_ _) | (with_reducible refine Kd.C_drew ?_))); (case side2 => exact HC0.out); rintro e w14 ⟨rfl, hb⟩; refine ⟨_, rfl, ?_⟩; have n0_ := Aside0.mk (Kd.R_below (by (with_reducible repeat (first | apply Kd.R_alloc | apply Kd.R_drewN | apply Kd.R_drew)); exact HO221.out) hb); have n1_ := Aside0.mk (below_step (by repeat (first | (with_reducible first | exact HB.out | apply below_alloc | apply pw_below_drewN | apply below_drew1) | exact HB.out)) hb); clear HO221; clear HB; have HO221 := n0_; have HB := n1_; clear n0_ n1_; (try clear hb); (try clear hb2); (try clear hk); (try clear hi)) | (go_at_call 132; (with_reducible refine (impl_isID.calls a1 true _ A9.out).mono ?_); rintro e w' ⟨rfl, ⟨nd, rfl⟩⟩) | (go_at_call 132; (with_reducible refine (impl_isID.calls a2 false _ A11.out).mono ?_); rintro e w' ⟨rfl, ⟨nd, rfl⟩⟩))
          go_meet
          case rel => exact ⟨_, (true), (by first | rfl | (simp; done) | (simp [*]; done)), H', ⟨by first | omega | exact Nat.le_refl _⟩, ⟨by (with_reducible repeat (first | apply Kd.R_alloc | apply Kd.R_drewN | apply Kd.R_drew)); exact HO221.out⟩, ⟨by repeat (first | (with_reducible first | exact HB.out | apply below_alloc | apply pw_below_drewN | apply below_drew1) | exact HB.out)⟩⟩
      · replace c10 := Bool.eq_false_iff.mpr c10
        subst c10
        have H1 : (impl_SetWait.j0 k l0 a1 a2 t219 true) = some (r1, r2) := by rw [if_neg (show ¬ (false = true) by decide)] at H; exact H
        clear H
        have H := H1
        clear H1
        have H' := Aside0.mk H
        clear H
        go_wp2_with (first | ((with_reducible refine gate_callee (f := 199) rfl ?_); refine goesL_ (some 14) rfl rfl Try.func199 (by kernel_rfl) rfl #[.slice A0 l0.length c0] rfl (by (try simp only [List.map_toArray, List.map_cons, List.map_nil]); first | done | rfl | (simp only [List.length_drop, List.length_take]; rfl)) ?_; (with_reducible refine (impl_AreWaits.calls k _ _ l0 true _ ?side1 ?side2 A7.out).mono ?_); (case side1 => repeat (first | exact (Kd.C_below HR0.out HB.out) | (with_reducible refine Kd.C_alloc ?_ _) | (with_reducible refine Kd.C_drewN ?_ _) | (with_reducible refine Kd.C_drew ?_))); (case side2 => exact HC0.out); rintro e w15 ⟨rfl, hb⟩; refine ⟨_, rfl, ?_⟩; have n0_ := Aside0.mk (Kd.R_below (by (with_reducible repeat (first | apply Kd.R_alloc | apply Kd.R_drewN | apply Kd.R_drew)); exact HO221.out) hb); have n1_ := Aside0.mk (below_step (by repeat (first | (with_reducible first | exact HB.out | apply below_alloc | apply pw_below_drewN | apply below_drew1) | exact HB.out)) hb); clear HO221; clear HB; have HO221 := n0_; have HB := n1_; clear n0_ n1_; (try clear hb); (try clear hb2); (try clear hk); (try clear hi)) | (go_at_call 132; (with_reducible refine (impl_isID.calls a1 false _ A9.out).mono ?_); rintro e w' ⟨rfl, ⟨nd, rfl⟩⟩))
        go_meet
        case rel => exact ⟨_, (true), (by first | rfl | (simp; done) | (simp [*]; done)), H', ⟨by first | omega | exact Nat.le_refl _⟩, ⟨by (with_reducible repeat (first | apply Kd.R_alloc | apply Kd.R_drewN | apply Kd.R_drew)); exact HO221.out⟩, ⟨by repeat (first | (with_reducible first | exact HB.out | apply below_alloc | apply pw_below_drewN | apply below_drew1) | exact HB.out)⟩⟩
    · replace c8 := Bool.eq_false_iff.mpr c8
      subst c8
      have H1 : (impl_SetWait.j0 k l0 a1 a2 t219 true) = some (r1, r2) := by rw [if_neg (show ¬ (false = true) by decide)] at H; exact H
      clear H
      have H := H1
      clear H1
      have H' := Aside0.mk H
      clear H
      go_wp2_with (first | ((with_reducible refine gate_callee (f := 199) rfl ?_); refine goesL_ (some 14) rfl rfl Try.func199 (by kernel_rfl) rfl #[.slice A0 l0.length c0] rfl (by (try simp only [List.map_toArray, List.map_cons, List.map_nil]); first | done | rfl | (simp only [List.length_drop, List.length_take]; rfl)) ?_; (with_reducible refine (impl_AreWaits.calls k _ _ l0 false _ ?side1 ?side2 A7.out).mono ?_); (case side1 => repeat (first | exact (Kd.C_below HR0.out HB.out) | (with_reducible refine Kd.C_alloc ?_ _) | (with_reducible refine Kd.C_drewN ?_ _) | (with_reducible refine Kd.C_drew ?_))); (case side2 => exact HC0.out); rintro e w16 ⟨rfl, hb⟩; refine ⟨_, rfl, ?_⟩; have n0_ := Aside0.mk (Kd.R_below (by (with_reducible repeat (first | apply Kd.R_alloc | apply Kd.R_drewN | apply Kd.R_drew)); exact HO221.out) hb); have n1_ := Aside0.mk (below_step (by repeat (first | (with_reducible first | exact HB.out | apply below_alloc | apply pw_below_drewN | apply below_drew1) | exact HB.out)) hb); clear HO221; clear HB; have HO221 := n0_; have HB := n1_; clear n0_ n1_; (try clear hb); (try clear hb2); (try clear hk); (try clear hi)))
      go_meet
      case rel => exact ⟨_, (true), (by first | rfl | (simp; done) | (simp [*]; done)), H', ⟨by first | omega | exact Nat.le_refl _⟩, ⟨by (with_reducible repeat (first | apply Kd.R_alloc | apply Kd.R_drewN | apply Kd.R_drew)); exact HO221.out⟩, ⟨by repeat (first | (with_reducible first | exact HB.out | apply below_alloc | apply pw_below_drewN | apply below_drew1) | exact HB.out)⟩⟩
  case rest =>
    clear HC5
    try clear c1
    try clear p2
    try clear c8
    try clear c10
    try clear c12
    try clear c15
    obtain ⟨kq, x30_4, rfl, HA, HJ4, HO_8, HB⟩ := hcut
    cases kq with
    | zero => exact absurd HA.out (by simp [impl_SetWait.j0])
    | succ kj4 =>
      have H := HA.out
      clear HA
      simp only [impl_SetWait.j0] at H
      by_cases c17 : x30_4 = true
      · subst c17
        have H1 : (some (t219, false)) = some (r1, r2) := by rw [if_pos rfl] at H; exact H
        clear H
        have H := H1
        clear H1
        simp only [Option.some.injEq, Prod.mk.injEq] at H
        obtain ⟨rfl, rfl⟩ := H
        go_wp2
        go_ret2
        exact ⟨_, by first | rfl | (simp [errW_none, errW_some] <;> rfl) | (simp [*, errW_none, errW_some] <;> rfl), by (with_reducible repeat (first | apply Kd.R_alloc | apply Kd.R_drewN | apply Kd.R_drew)); exact HO_8.out, by repeat (first | (with_reducible first | exact HB.out | apply below_alloc | apply pw_below_drewN | apply below_drew1) | exact HB.out)⟩
      · replace c17 := Bool.eq_false_iff.mpr c17
        subst c17
        have H1 : ((impl_Wait_int.f kj4 l0 a1).bind fun bt225 => (if bt225.2 = true then (if 0 ≤ bt225.1 then (if bt225.1 < (t219.length : Int) then (some ((t219.set (bt225.1 : Int).toNat (⟨(rd_T187 t219 bt225.1).f0, a2⟩ : S187)), true)) else (none)) else (none)) else ((impl_Wait_202.f t219 bt225.1 (([(⟨a1, a2⟩ : S187)] : List (S187)))).bind fun t231 => (some (t231, true))))) = some (r1, r2) := by rw [if_neg (show ¬ (false = true) by decide)] at H; exact H
        clear H
        have H := H1
        clear H1
        replace H := Option.bind_eq_some_iff.mp H
        obtain ⟨⟨t225, t226⟩, A180, H⟩ := H
        replace H : (if t226 = true then (if 0 ≤ t225 then (if t225 < (t219.length : Int) then (some ((t219.set (t225 : Int).toNat (⟨(rd_T187 t219 t225).f0, a2⟩ : S187)), true)) else (none)) else (none)) else ((impl_Wait_202.f t219 t225 (([(⟨a1, a2⟩ : S187)] : List (S187)))).bind fun t231 => (some (t231, true)))) = some (r1, r2) := H
        have A18 := Aside0.mk A180
        clear A180
        by_cases c19 : t226 = true
        · subst c19
          have H1 : (if 0 ≤ t225 then (if t225 < (t219.length : Int) then (some ((t219.set (t225 : Int).toNat (⟨(rd_T187 t219 t225).f0, a2⟩ : S187)), true)) else (none)) else (none)) = some (r1, r2) := by rw [if_pos rfl] at H; exact H
          clear H
          have H := H1
          clear H1
          by_cases c20 : 0 ≤ t225
          · rw [if_pos c20] at H
            have c20b0 : decide (0 ≤ t225) = true := decide_eq_true c20
            clear c20
            by_cases c21 : t225 < (t219.length : Int)
            · rw [if_pos c21] at H
              have c21b0 : decide (t225 < (t219.length : Int)) = true := decide_eq_true c21
              clear c21
              obtain ⟨y227, hy227⟩ : ∃ y_ : List (S187), y_ = (t219.set (t225 : Int).toNat (⟨(rd_T187 t219 t225).f0, a2⟩ : S187)) := ⟨_, rfl⟩
              replace H : (some (y227, true)) = some (r1, r2) := by first | (rw [hy227]; with_reducible exact H) | (have H2_ := (Option.bind_some _ _).symm.trans H; rw [hy227]; with_reducible exact H2_) | (have H2_ := (Option.bind_some _ _).symm.trans H; with_reducible exact H2_) | with_reducible exact H | (rw [hy227]; exact H) | exact H
              have Ny227 := Aside0.mk hy227
              clear hy227
              simp only [Option.some.injEq, Prod.mk.injEq] at H
              obtain ⟨rfl, rfl⟩ := H
              go_wp2_with (first | ((with_reducible refine gate_callee (f := 200) rfl ?_); refine goesL_ (some 35) rfl rfl Try.func200 (by kernel_rfl) rfl #[.slice A0 l0.length c0, .int .i64 a1, .func (.func 201) #[] #[]] rfl (by (try simp only [List.map_toArray, List.map_cons, List.map_nil]); first | done | rfl | (simp only [List.length_drop, List.length_take]; rfl)) ?_; (with_reducible refine (impl_Wait_int.calls kj4 _ _ l0 a1  t225 true _ ?side1 ?side2 A18.out).mono ?_); (case side1 => repeat (first | exact (Kd.C_below HR0.out HB.out) | (with_reducible refine Kd.C_alloc ?_ _) | (with_reducible refine Kd.C_drewN ?_ _) | (with_reducible refine Kd.C_drew ?_))); (case side2 => exact HC0.out); rintro e w23 ⟨rfl, hb⟩; refine ⟨_, rfl, ?_⟩; have n0_ := Aside0.mk (Kd.R_below (by (with_reducible repeat (first | apply Kd.R_alloc | apply Kd.R_drewN | apply Kd.R_drew)); exact HO_8.out) hb); have n1_ := Aside0.mk (below_step (by repeat (first | (with_reducible first | exact HB.out | apply below_alloc | apply pw_below_drewN | apply below_drew1) | exact HB.out)) hb); clear HO_8; clear HB; have HO_8 := n0_; have HB := n1_; clear n0_ n1_; (try clear hb); (try clear hb2); (try clear hk); (try clear hi); have p22 : 0 ≤ (t225 : Int) := of_decide_eq_true (by first | (with_reducible assumption) | assumption); have q22 : (t225 : Int) < ((t219.length : Int) : Int) := of_decide_eq_true (by first | (with_reducible assumption) | assumption); obtain ⟨go22, co22, eo22, gb22, gl22, cl22, HG22⟩ := Kd.R_form HO_8.out (by omega); (first | cases eo22 | (injection eo22 with ea_ en_ ec_; (first | subst ea_ | (injection ea_ with ea_; subst ea_)); subst ec_; clear en_)); have GB22 := Aside0.mk gb22; have GG22 := Aside0.mk HG22; clear gb22 gl22 HG22; obtain ⟨ce22, hcl22, hM22, hcc22, hfr22⟩ := Kd.R_elem HO_8.out z187 (t225 : Int) p22 q22; obtain rfl := k187_openM hM22; have hx22_0 : w23.cell? ⟨go22, (t225 : Int).toNat * 2, none⟩ = some (.int .i64 ((rd_T187 t219 t225).f0)) := hcc22 0 _ rfl; have hx22_1 : w23.cell? ⟨go22, (t225 : Int).toNat * 2 + 1, none⟩ = some (.int .i64 ((rd_T187 t219 t225).f1)) := hcc22 1 _ rfl; have hf22_0 : w23.frozen? ⟨go22, (t225 : Int).toNat * 2, none⟩ = false := hfr22 0; have hf22_1 : w23.frozen? ⟨go22, (t225 : Int).toNat * 2 + 1, none⟩ = false := hfr22 1; clear hcl22 hcc22 hfr22; (try clear hM22); replace p22 := eq_true p22; replace q22 := eq_true q22; have HX24 := Aside0.mk (show Kd.R k187 187 w23 w.heap.size (fun _ => True) (.slice (some ⟨go22, 0, none⟩) t219.length co22) t219 from (by (with_reducible repeat (first | apply Kd.R_alloc | apply Kd.R_drewN | apply Kd.R_drew)); exact HO_8.out)); obtain ⟨ce24, hcl24, hM24, hcc24, hfr24⟩ := Kd.R_elem HX24.out z187 (t225 : Int) (of_decide_eq_true (by first | (with_reducible assumption) | assumption)) (by have h_ : (t225 : Int) < ((t219.length : Int) : Int) := of_decide_eq_true (by first | (with_reducible assumption) | assumption); first | exact h_ | (have e_ := (Kd.R_reads' HO_8.out).1; omega) | simpa using h_); obtain rfl := k187_openM hM24; have HP24 := Kd.R_seg HX24.out (t225 : Int) (of_decide_eq_true (by first | (with_reducible assumption) | assumption)) (by have h_ : (t225 : Int) < ((t219.length : Int) : Int) := of_decide_eq_true (by first | (with_reducible assumption) | assumption); first | exact h_ | (have e_ := (Kd.R_reads' HO_8.out).1; omega) | simpa using h_) (seg := [.int .i64 a2]) (j := 1) hcl24 hcc24 (show 2 ≤ 2 from by decide) (x' := (⟨(rd_T187 t219 t225).f0, a2⟩ : S187)) (k187_mkM _ _ _ (⟨(rd_T187 t219 t225).f0, a2⟩ : S187) ) (fun _ hk => hk); have hx24_1 := hcc24 1 _ rfl; (try simp only [show (k187).sz = 2 from rfl, Nat.mul_one, Nat.add_zero] at hx24_1); have hf24_1 := hfr24 1; (try simp only [show (k187).sz = 2 from rfl, Nat.mul_one, Nat.add_zero] at hf24_1); clear hcl24 hcc24 hfr24; (try clear hM24)) | ((with_reducible refine gate_store (t := 3) (p := 51) rfl ?_); refine store_event (t := 3) (p := 51) (v := ?vo_w25) (w1 := (w23.setCell ⟨go22, (t225 : Int).toNat * 2 + 1, none⟩ (.int .i64 a2))) ?hg ?ho ?hn ?hr ?_; (case ho => rfl); (case hg => rfl); (case hn => rfl); (case hr => first | (go_simp; done) | (go_simp; rfl)); intro w25 hw; have hg : w23.grownBy w25 (some go22) := (by rw [hw]; exact HP24.2); have hp_ : Kd.R k187 187 w25 w.heap.size (fun _ => True) (.slice (some ⟨go22, 0, none⟩) t219.length co22) y227 := (by rw [hw, Ny227.out]; exact HP24.1); clear HP24; have n0_ := Aside0.mk (hp_); have n1_ := Aside0.mk ((by rw [hw]; exact below_set (HB.out) GB22.out : Below w.heap.size w w25)); clear HO_8; clear HB; have HO_8 := n0_; have HB := n1_; clear n0_ n1_; clear hg hw hp_))
              go_ret2
              exact ⟨_, by first | rfl | (simp [errW_none, errW_some] <;> rfl) | (simp [*, errW_none, errW_some] <;> rfl), by (with_reducible repeat (first | apply Kd.R_alloc | apply Kd.R_drewN | apply Kd.R_drew)); exact HO_8.out, by repeat (first | (with_reducible first | exact HB.out | apply below_alloc | apply pw_below_drewN | apply below_drew1) | exact HB.out)⟩
            · rw [if_neg c21] at H
              exact absurd H (by simp)
          · rw [if_neg c20] at H
            exact absurd H (by simp)
        · replace c19 := Bool.eq_false_iff.mpr c19
          subst c19
          have H1 : ((impl_Wait_202.f t219 t225 (([(⟨a1, a2⟩ : S187)] : List (S187)))).bind fun t231 => (some (t231, true))) = some (r1, r2) := by rw [if_neg (show ¬ (false = true) by decide)] at H; exact H
          clear H
          have H := H1
          clear H1
          obtain ⟨y228, hy228⟩ : ∃ y_ : List (S187), y_ = (([(⟨a1, a2⟩ : S187)] : List (S187))) := ⟨_, rfl⟩
          replace H : ((impl_Wait_202.f t219 t225 y228).bind fun t231 => (some (t231, true))) = some (r1, r2) := by first | (rw [hy228]; with_reducible exact H) | (have H2_ := (Option.bind_some _ _).symm.trans H; rw [hy228]; with_reducible exact H2_) | (have H2_ := (Option.bind_some _ _).symm.trans H; with_reducible exact H2_) | with_reducible exact H | (rw [hy228]; exact H) | exact H
          have Ny228 := Aside0.mk hy228
          clear hy228
          replace H := Option.bind_eq_some_iff.mp H
          obtain ⟨t231, A260, H⟩ := H
          replace H : (some (t231, true)) = some (r1, r2) := H
          have A26 := Aside0.mk A260
          clear A260
          simp only [Option.some.injEq, Prod.mk.injEq] at H
          obtain ⟨rfl, rfl⟩ := H
          go_wp2_with (first | ((with_reducible refine gate_callee (f := 200) rfl ?_); refine goesL_ (some 35) rfl rfl Try.func200 (by kernel_rfl) rfl #[.slice A0 l0.length c0, .int .i64 a1, .func (.func 201) #[] #[]] rfl (by (try simp only [List.map_toArray, List.map_cons, List.map_nil]); first | done | rfl | (simp only [List.length_drop, List.length_take]; rfl)) ?_; (with_reducible refine (impl_Wait_int.calls kj4 _ _ l0 a1  t225 false _ ?side1 ?side2 A18.out).mono ?_); (case side1 => repeat (first | exact (Kd.C_below HR0.out HB.out) | (with_reducible refine Kd.C_alloc ?_ _) | (with_reducible refine Kd.C_drewN ?_ _) | (with_reducible refine Kd.C_drew ?_))); (case side2 => exact HC0.out); rintro e w27 ⟨rfl, hb⟩; refine ⟨_, rfl, ?_⟩; have n0_ := Aside0.mk (Kd.R_below (by (with_reducible repeat (first | apply Kd.R_alloc | apply Kd.R_drewN | apply Kd.R_drew)); exact HO_8.out) hb); have n1_ := Aside0.mk (below_step (by repeat (first | (with_reducible first | exact HB.out | apply below_alloc | apply pw_below_drewN | apply below_drew1) | exact HB.out)) hb); clear HO_8; clear HB; have HO_8 := n0_; have HB := n1_; clear n0_ n1_; (try clear hb); (try clear hb2); (try clear hk); (try clear hi)) | ((with_reducible refine gate_dst (N := 45) rfl ?_); refine Kd.R_lit k187 _ 187 ?hg (N := 45) ?hd (xs := ([(⟨a1, a2⟩ : S187)] : List (S187))) (inner := [.int .i64 a1, .int .i64 a2]) (ok := fun _ => True) (okp := fun _ => True) ?hr ?hp (fun _ hk => hk) trivial (Below.refl _ _) (Nat.le_refl _) (by simp) ?_; (case hd => rfl); (case hg => rfl); (case hr => first | (go_simp; done) | (go_simp; rfl)); (case hp => exact (Reps.c2 (show Kd.M k187 _ _ _ (⟨a1, a2⟩ : S187) [.int .i64 a1, .int .i64 a2] from (k187_mkM _ _ _ (⟨a1, a2⟩ : S187) )) (Reps.none _ _))); intro v229 w28 ho29 hb hg_ hnew_; clear hg_ hnew_; (first | rw [← Ny228.out] at ho29 | (simp only [Int.reduceToNat] at ho29; rw [← Ny228.out] at ho29)); have n0_ := Aside0.mk (Kd.R_elder' (by (with_reducible repeat (first | apply Kd.R_alloc | apply Kd.R_drewN | apply Kd.R_drew)); exact HO_8.out) (Kd.R_base ho29) hb); have n1_ := Aside0.mk (Kd.R_lower (Kd.R_new' ho29 (Kd.R_lt (by (with_reducible repeat (first | apply Kd.R_alloc | apply Kd.R_drewN | apply Kd.R_drew)); exact HO_8.out))) (below_size (by repeat (first | (with_reducible first | exact HB.out | apply below_alloc | apply pw_below_drewN | apply below_drew1) | exact HB.out)))); have n2_ := Aside0.mk (below_step (by repeat (first | (with_reducible first | exact HB.out | apply below_alloc | apply pw_below_drewN | apply below_drew1) | exact HB.out)) hb); clear HO_8; clear HB; have HO_8 := n0_; have HO230 := n1_; have HB := n2_; clear n0_ n1_ n2_; clear hb ho29; obtain ⟨Ao30, co30, eo30⟩ := Kd.R_slice HO_8.out; subst eo30; obtain ⟨Ao31, co31, eo31⟩ := Kd.R_slice HO230.out; subst eo31) | ((with_reducible refine gate_callee (f := 202) rfl ?_); refine goesL_ (some 46) rfl rfl Try.func202 (by kernel_rfl) rfl #[.slice Ao30 t219.length co30, .int .i64 t225, .slice Ao31 y228.length co31] rfl (by (try simp only [List.map_toArray, List.map_cons, List.map_nil]); first | done | rfl | (simp only [List.length_drop, List.length_take]; rfl)) ?_; (with_reducible refine (impl_Wait_202.calls (fun k_ => some k_ = (.slice Ao30 t219.length co30 : Value).ownBlock) (.slice Ao30 t219.length co30) t219 t225 (fun k_ => some k_ = (.slice Ao31 y228.length co31 : Value).ownBlock) (.slice Ao31 y228.length co31) y228 t231 w _ ?side1 ?side2 ?side3 ?side4 ?side5 A26.out).mono ?_); (case side1 => repeat (first | (with_reducible first | exact HB.out | apply below_alloc | apply pw_below_drewN | apply below_drew1) | exact HB.out)); (case side2 => exact Kd.R_tight rfl HO_8.out); (case side3 => exact fun k_ e_ => (HO_8.out.1 k_ e_.symm).2); (case side4 => exact Kd.R_tight rfl HO230.out); (case side5 => exact fun k_ e_ => (HO230.out.1 k_ e_.symm).2); rintro e w32 ⟨v232, rfl, ho0, hb, hkp⟩; refine ⟨_, rfl, ?_⟩; have n0_ := Aside0.mk (Kd.R_mono (ok' := fun k_ => True) ho0 (fun k_ hk_ => trivial)); have n1_ := Aside0.mk (hb); clear HB; clear HO230; clear HO_8; have HO233 := n0_; have HB := n1_; clear n0_ n1_; (try clear hb); (try clear hkp); (try clear ho0)))
          go_ret2
          exact ⟨_, by first | rfl | (simp [errW_none, errW_some] <;> rfl) | (simp [*, errW_none, errW_some] <;> rfl), by (with_reducible repeat (first | apply Kd.R_alloc | apply Kd.R_drewN | apply Kd.R_drew)); exact HO233.out, by repeat (first | (with_reducible first | exact HB.out | apply below_alloc | apply pw_below_drewN | apply below_drew1) | exact HB.out)⟩

/-! ### impl_WaitChain_1: function 204 -/
def impl_WaitChain_1.f (a0_0 : Int) (a0_1 : Int) (l1_0 : List Int) : Option (Bool) := if 0 ≤ (wrap64 ((l1_0.length : Int) - 1)) then (if (wrap64 ((l1_0.length : Int) - 1)) < (l1_0.length : Int) then (some (a0_0 == (rd l1_0 (wrap64 ((l1_0.length : Int) - 1))))) else (none)) else (none)
set_option maxHeartbeats 8000000 in
set_option maxRecDepth 100000 in
theorem impl_WaitChain_1.calls (a0_0 : Int) (a0_1 : Int) (gb1 : Nat) (A1_0 : Option Addr) (c1_0 : Nat) (l1_0 : List Int) (r : Bool) (w : World) (hb1 : w.heap[gb1]? = some (.cells #[.slice A1_0 l1_0.length c1_0] 36 (0, 0))) (hr1_0 : Kd.C (Kd.int .i64) w A1_0 l1_0.length l1_0) (hc1_0 : l1_0.length ≤ c1_0) (h : impl_WaitChain_1.f a0_0 a0_1 l1_0 = some r) :
    Calls Try.prog 204 #[.agg #[.int .i64 a0_0, .int .i64 a0_1], .pointer (some ⟨gb1, 0, none⟩)] w fun e w' => e = .returned (.bool r) ∧ Below w.heap.size w w' := by
  have hu187 := Try.underlying187
  have BK1 := Aside0.mk hb1
  clear hb1
  have HR1_0 := Aside0.mk hr1_0
  have HC1_0 := Aside0.mk hc1_0
  clear hr1_0 hc1_0
  have HB := Aside0.mk (Below.refl w.heap.size w)
  have H : (if 0 ≤ (wrap64 ((l1_0.length : Int) - 1)) then (if (wrap64 ((l1_0.length : Int) - 1)) < (l1_0.length : Int) then (some (a0_0 == (rd l1_0 (wrap64 ((l1_0.length : Int) - 1))))) else (none)) else (none)) = some r := h
  clear h
  obtain ⟨ji3, hji3⟩ : ∃ j_ : Int, (wrap64 ((l1_0.length : Int) - 1)) = j_ := ⟨_, rfl⟩
  replace H : (if 0 ≤ (ji3) then (if (ji3) < (l1_0.length : Int) then (some (a0_0 == (rd l1_0 (ji3)))) else (none)) else (none)) = some r := by first | (rw [hji3] at H; exact H) | (simp only [hji3] at H ⊢; exact H)
  have hji3w : (IntKind.i64.wrap ((l1_0.length : Int) - 1)) = ji3 := (i64_w _).trans hji3
  by_cases c4 : 0 ≤ (ji3)
  · rw [if_pos c4] at H
    have c4b0 : decide (0 ≤ (ji3)) = true := decide_eq_true c4
    clear c4
    by_cases c5 : (ji3) < (l1_0.length : Int)
    · rw [if_pos c5] at H
      have c5b0 : decide ((ji3) < (l1_0.length : Int)) = true := decide_eq_true c5
      clear c5
      obtain rfl := Option.some.inj H
      go_enter Try.func204, Try.ntmps204
      go_wp2_with (first | ((with_reducible refine gate_dst (N := 2) rfl ?_); refine box_event ?hg (N := 2) ?hd (cs := #[.int .i64 a0_0, .int .i64 a0_1]) (t := 187) ?hr ?_; (case hd => rfl); (case hg => rfl); (case hr => first | (go_simp; done) | (go_simp; rfl)); intro gb234 hg w6 hbox hb; have n0_ := Aside0.mk (blk_below (g := gb1) (o := .cells #[.slice A1_0 l1_0.length c1_0] 36 (0, 0)) (by (with_reducible repeat (first | refine blk_drewN ?_ _ | refine blk_drew ?_ | refine blk_alloc ?_ _)); exact BK1.out) hb); have n1_ := Aside0.mk (below_step (by repeat (first | (with_reducible first | exact HB.out | apply below_alloc | apply pw_below_drewN | apply below_drew1 | refine below_set ?_ GE1.out) | exact HB.out)) hb); have n2_ := Aside0.mk (hbox); have n3_ := Aside0.mk ((by rw [hg]; exact (below_size (by repeat (first | (with_reducible first | exact HB.out | apply below_alloc | apply pw_below_drewN | apply below_drew1 | refine below_set ?_ GE1.out) | exact HB.out))) : w.heap.size ≤ gb234)); have n4_ := Aside0.mk ((by rw [hg]; exact (below_size (by repeat (first | (with_reducible first | exact HB.out | apply below_alloc | apply pw_below_drewN | apply below_drew1 | refine below_set ?_ GE1.out) | exact HB.out))) : w.heap.size ≤ gb234)); have n5_ := Aside0.mk ((by rw [hg]; exact Nat.ne_of_lt (blk_lt (g := gb1) (o := .cells #[.slice A1_0 l1_0.length c1_0] 36 (0, 0)) (by (with_reducible repeat (first | refine blk_drewN ?_ _ | refine blk_drew ?_ | refine blk_alloc ?_ _)); exact BK1.out)) : gb1 ≠ gb234)); have n6_ := Aside0.mk ((by rw [hg]; exact Nat.ne_of_gt (blk_lt (g := gb1) (o := .cells #[.slice A1_0 l1_0.length c1_0] 36 (0, 0)) (by (with_reducible repeat (first | refine blk_drewN ?_ _ | refine blk_drew ?_ | refine blk_alloc ?_ _)); exact BK1.out)) : gb234 ≠ gb1)); clear BK1; clear HB; have BK1 := n0_; have HB := n1_; have BK234 := n2_; have GW234 := n3_; have GE234 := n4_; have NB1_234 := n5_; have NB234_1 := n6_; clear n0_ n1_ n2_ n3_ n4_ n5_ n6_; clear hb hbox hg; have hnb7 := NB234_1.out; have hnc7 := NB1_234.out; have hcz8_0 : w6.cell? ⟨gb234, 0, none⟩ = some (.int .i64 a0_0) := (blk_cell BK234.out 0).trans rfl; have hcz8_1 : w6.cell? ⟨gb234, 1, none⟩ = some (.int .i64 a0_1) := (blk_cell BK234.out 1).trans rfl; have hfz8_0 := blk_frozen BK234.out 0; have hfz8_1 := blk_frozen BK234.out 1; have hcz9_0 : w6.cell? ⟨gb1, 0, none⟩ = some (.slice A1_0 l1_0.length c1_0) := (blk_cell BK1.out 0).trans rfl; have hfz9_0 := blk_frozen BK1.out 0; have p235 : 0 ≤ ((ji3) : Int) := of_decide_eq_true (by first | (with_reducible assumption) | assumption); have q235 : (ji3) < (l1_0.length : Int) := of_decide_eq_true (by first | (with_reducible assumption) | assumption); obtain ⟨ad235, e235, hx235_0⟩ := Kd.at_int HR1_0.out (ji3) p235 q235; cases e235; replace hx235_0 := (HB.out.cell (World.block_lt_of_cell? w _ hx235_0)).trans hx235_0; replace p235 := eq_true p235; replace q235 := eq_true q235))
      repeat (go_quiet (first | ((with_reducible refine gate_dst (N := 2) rfl ?_); refine box_event ?hg (N := 2) ?hd (cs := #[.int .i64 a0_0, .int .i64 a0_1]) (t := 187) ?hr ?_; (case hd => rfl); (case hg => rfl); (case hr => first | (go_simp; done) | (go_simp; rfl)); intro gb234 hg w6 hbox hb; have n0_ := Aside0.mk (blk_below (g := gb1) (o := .cells #[.slice A1_0 l1_0.length c1_0] 36 (0, 0)) (by (with_reducible repeat (first | refine blk_drewN ?_ _ | refine blk_drew ?_ | refine blk_alloc ?_ _)); exact BK1.out) hb); have n1_ := Aside0.mk (below_step (by repeat (first | (with_reducible first | exact HB.out | apply below_alloc | apply pw_below_drewN | apply below_drew1 | refine below_set ?_ GE1.out) | exact HB.out)) hb); have n2_ := Aside0.mk (hbox); have n3_ := Aside0.mk ((by rw [hg]; exact (below_size (by repeat (first | (with_reducible first | exact HB.out | apply below_alloc | apply pw_below_drewN | apply below_drew1 | refine below_set ?_ GE1.out) | exact HB.out))) : w.heap.size ≤ gb234)); have n4_ := Aside0.mk ((by rw [hg]; exact (below_size (by repeat (first | (with_reducible first | exact HB.out | apply below_alloc | apply pw_below_drewN | apply below_drew1 | refine below_set ?_ GE1.out) | exact HB.out))) : w.heap.size ≤ gb234)); have n5_ := Aside0.mk ((by rw [hg]; exact Nat.ne_of_lt (blk_lt (g := gb1) (o := .cells #[.slice A1_0 l1_0.length c1_0] 36 (0, 0)) (by (with_reducible repeat (first | refine blk_drewN ?_ _ | refine blk_drew ?_ | refine blk_alloc ?_ _)); exact BK1.out)) : gb1 ≠ gb234)); have n6_ := Aside0.mk ((by rw [hg]; exact Nat.ne_of_gt (blk_lt (g := gb1) (o := .cells #[.slice A1_0 l1_0.length c1_0] 36 (0, 0)) (by (with_reducible repeat (first | refine blk_drewN ?_ _ | refine blk_drew ?_ | refine blk_alloc ?_ _)); exact BK1.out)) : gb234 ≠ gb1)); clear BK1; clear HB; have BK1 := n0_; have HB := n1_; have BK234 := n2_; have GW234 := n3_; have GE234 := n4_; have NB1_234 := n5_; have NB234_1 := n6_; clear n0_ n1_ n2_ n3_ n4_ n5_ n6_; clear hb hbox hg; have hnb7 := NB234_1.out; have hnc7 := NB1_234.out; have hcz8_0 : w6.cell? ⟨gb234, 0, none⟩ = some (.int .i64 a0_0) := (blk_cell BK234.out 0).trans rfl; have hcz8_1 : w6.cell? ⟨gb234, 1, none⟩ = some (.int .i64 a0_1) := (blk_cell BK234.out 1).trans rfl; have hfz8_0 := blk_frozen BK234.out 0; have hfz8_1 := blk_frozen BK234.out 1; have hcz9_0 : w6.cell? ⟨gb1, 0, none⟩ = some (.slice A1_0 l1_0.length c1_0) := (blk_cell BK1.out 0).trans rfl; have hfz9_0 := blk_frozen BK1.out 0; have p235 : 0 ≤ ((ji3) : Int) := of_decide_eq_true (by first | (with_reducible assumption) | assumption); have q235 : (ji3) < (l1_0.length : Int) := of_decide_eq_true (by first | (with_reducible assumption) | assumption); obtain ⟨ad235, e235, hx235_0⟩ := Kd.at_int HR1_0.out (ji3) p235 q235; cases e235; replace hx235_0 := (HB.out.cell (World.block_lt_of_cell? w _ hx235_0)).trans hx235_0; replace p235 := eq_true p235; replace q235 := eq_true q235)); try go_wp2_with (first | ((with_reducible refine gate_dst (N := 2) rfl ?_); refine box_event ?hg (N := 2) ?hd (cs := #[.int .i64 a0_0, .int .i64 a0_1]) (t := 187) ?hr ?_; (case hd => rfl); (case hg => rfl); (case hr => first | (go_simp; done) | (go_simp; rfl)); intro gb234 hg w6 hbox hb; have n0_ := Aside0.mk (blk_below (g := gb1) (o := .cells #[.slice A1_0 l1_0.length c1_0] 36 (0, 0)) (by (with_reducible repeat (first | refine blk_drewN ?_ _ | refine blk_drew ?_ | refine blk_alloc ?_ _)); exact BK1.out) hb); have n1_ := Aside0.mk (below_step (by repeat (first | (with_reducible first | exact HB.out | apply below_alloc | apply pw_below_drewN | apply below_drew1 | refine below_set ?_ GE1.out) | exact HB.out)) hb); have n2_ := Aside0.mk (hbox); have n3_ := Aside0.mk ((by rw [hg]; exact (below_size (by repeat (first | (with_reducible first | exact HB.out | apply below_alloc | apply pw_below_drewN | apply below_drew1 | refine below_set ?_ GE1.out) | exact HB.out))) : w.heap.size ≤ gb234)); have n4_ := Aside0.mk ((by rw [hg]; exact (below_size (by repeat (first | (with_reducible first | exact HB.out | apply below_alloc | apply pw_below_drewN | apply below_drew1 | refine below_set ?_ GE1.out) | exact HB.out))) : w.heap.size ≤ gb234)); have n5_ := Aside0.mk ((by rw [hg]; exact Nat.ne_of_lt (blk_lt (g := gb1) (o := .cells #[.slice A1_0 l1_0.length c1_0] 36 (0, 0)) (by (with_reducible repeat (first | refine blk_drewN ?_ _ | refine blk_drew ?_ | refine blk_alloc ?_ _)); exact BK1.out)) : gb1 ≠ gb234)); have n6_ := Aside0.mk ((by rw [hg]; exact Nat.ne_of_gt (blk_lt (g := gb1) (o := .cells #[.slice A1_0 l1_0.length c1_0] 36 (0, 0)) (by (with_reducible repeat (first | refine blk_drewN ?_ _ | refine blk_drew ?_ | refine blk_alloc ?_ _)); exact BK1.out)) : gb234 ≠ gb1)); clear BK1; clear HB; have BK1 := n0_; have HB := n1_; have BK234 := n2_; have GW234 := n3_; have GE234 := n4_; have NB1_234 := n5_; have NB234_1 := n6_; clear n0_ n1_ n2_ n3_ n4_ n5_ n6_; clear hb hbox hg; have hnb7 := NB234_1.out; have hnc7 := NB1_234.out; have hcz8_0 : w6.cell? ⟨gb234, 0, none⟩ = some (.int .i64 a0_0) := (blk_cell BK234.out 0).trans rfl; have hcz8_1 : w6.cell? ⟨gb234, 1, none⟩ = some (.int .i64 a0_1) := (blk_cell BK234.out 1).trans rfl; have hfz8_0 := blk_frozen BK234.out 0; have hfz8_1 := blk_frozen BK234.out 1; have hcz9_0 : w6.cell? ⟨gb1, 0, none⟩ = some (.slice A1_0 l1_0.length c1_0) := (blk_cell BK1.out 0).trans rfl; have hfz9_0 := blk_frozen BK1.out 0; have p235 : 0 ≤ ((ji3) : Int) := of_decide_eq_true (by first | (with_reducible assumption) | assumption); have q235 : (ji3) < (l1_0.length : Int) := of_decide_eq_true (by first | (with_reducible assumption) | assumption); obtain ⟨ad235, e235, hx235_0⟩ := Kd.at_int HR1_0.out (ji3) p235 q235; cases e235; replace hx235_0 := (HB.out.cell (World.block_lt_of_cell? w _ hx235_0)).trans hx235_0; replace p235 := eq_true p235; replace q235 := eq_true q235)))
      go_ret
      exact ⟨by first | rfl | (simp [errW_none, errW_some] <;> rfl) | (simp only [← hji3]; first | rfl | (simp [errW_none, errW_some] <;> rfl)) | (simp [*, errW_none, errW_some] <;> rfl), by repeat (first | (with_reducible first | exact HB.out | apply below_alloc | apply pw_below_drewN | apply below_drew1 | refine below_set ?_ GE1.out | refine below_set ?_ GE234.out) | exact HB.out)⟩
    · rw [if_neg c5] at H
      exact absurd H (by simp)
  · rw [if_neg c4] at H
    exact absurd H (by simp)

end Go.Proofs.Ytpiaeinfneoioaa.PFnExactWouldDeadlock
