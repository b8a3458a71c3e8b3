-- Printed by a program of mine (wip/myprint.py), which runs the printer of the kit with contracts of mine beside it.
import Derived.Test.YtakpkmlbklahhaaPFnWaitsx0
namespace Go.Proofs.Ytakpkmlbklahhaa.PFnWaits
open Go.RowKit Go.Proofs.YtakpkmlbklahhaaW.PrintWords Go.Proofs.YtakpkmlbklahhaaW.PrintLast Go.Proofs.YtakpkmlbklahhaaW.PrintMore
attribute [local go_sem] max2_int min2_int max_two min_two max_three min_three max_four min_four   -- for this text's walks alone
set_option linter.unusedVariables false
set_option linter.unusedSimpArgs false

/-! ### impl_Wait_76: function 76 -/
def impl_Wait_76.f (l0 : List (S36)) : Option ((List (S36))) := (some (([] : List (S36)) : List (S36))).bind fun y238 => (if y238.length + l0.length < 8796093022208 then (some (y238 ++ l0)) else (none))
set_option maxHeartbeats 8000000 in
set_option maxRecDepth 100000 in
theorem impl_Wait_76.calls (A0 : Option Addr) (c0 : Nat) (l0 : List (S36)) (r : List (S36)) (w : World) (hr0 : Kd.C k36 w A0 l0.length l0) (hc0 : l0.length ≤ c0) (h : impl_Wait_76.f l0 = some r) :
  Calls Try.prog 76 #[.slice A0 l0.length c0] w fun e w' => ∃ v0_ : Value, e = .returned (v0_) ∧ Kd.R k36 36 w' w.heap.size (fun _ => True) v0_ r ∧ Below w.heap.size w w' := by
 have HR0 := AM_ hr0
 have HC0 := AM_ hc0
 clear hr0 hc0
 cases A0 with
 | none =>
  have hl0 : l0 = [] := by
   rcases Nat.eq_zero_or_pos l0.length with h0 | h0
   ·exact List.length_eq_zero_iff.mp h0
   ·obtain ⟨ad, e, _⟩ := HR0.out.2.2 h0
    cases e
  subst hl0
  obtain rfl : [] = r := by simpa [impl_Wait_76.f] using h
  have hq : ∀ W : World, (binOp .eql 24 (.slice none ([] : List (S36)).length c0) (.slice none 0 0)).run Try.prog W = .ok (.bool true) W := fun W => Lib.run_eql_slice_nil W 24 36 none _ _ _ _ Try.underlying24
  have hq0 : ∀ W : World, (binOp .eql 24 (.slice none 0 c0) (.slice none 0 0)).run Try.prog W = .ok (.bool true) W := fun W => Lib.run_eql_slice_nil W 24 36 none _ _ _ _ Try.underlying24
  go_enter Try.func76, Try.ntmps76
  go_wp2
  go_ret
  exact ⟨_, rfl, Kd.R_nil _ _ _ _ _, by repeat (first | exact Below.refl _ _ | apply below_alloc | apply pw_below_drewN | apply below_drew1)⟩
 | some adq =>
 have hq : ∀ W : World, (binOp .eql 24 (.slice (some adq) l0.length c0) (.slice none 0 0)).run Try.prog W = .ok (.bool false) W := fun W => Lib.run_eql_slice_nil W 24 36 (some adq) _ _ _ _ Try.underlying24
 have HB := AM_ (Below.refl w.heap.size w)
 have H : ((some (([] : List (S36)) : List (S36))).bind fun y238 => (if y238.length + l0.length < 8796093022208 then (some (y238 ++ l0)) else (none))) = some r := h
 clear h
 obtain ⟨y238, hy238⟩ : ∃ y_ : List (S36), y_ = (([] : List (S36))) := ⟨_, rfl⟩
 replace H : (if y238.length + l0.length < 8796093022208 then (some (y238 ++ l0)) else (none)) = some r := by first | (rw [hy238]; with_reducible exact H) | (have H2_ := (Option.bind_some _ _).symm.trans H; rw [hy238]; with_reducible exact H2_) | (have H2_ := (Option.bind_some _ _).symm.trans H; with_reducible exact H2_) | with_reducible exact H | (rw [hy238]; exact H) | exact H
 have Ny238 := AM_ hy238
 clear hy238
 by_cases c2 : y238.length + l0.length < 8796093022208
 ·rw [if_pos c2] at H
  have LMc2 := AM_ c2
  clear c2
  obtain ⟨y241, hy241⟩ : ∃ y_ : List (S36), y_ = (y238 ++ l0) := ⟨_, rfl⟩
  replace H : (some y241) = some r := by first | (rw [hy241]; with_reducible exact H) | (have H2_ := (Option.bind_some _ _).symm.trans H; rw [hy241]; with_reducible exact H2_) | (have H2_ := (Option.bind_some _ _).symm.trans H; with_reducible exact H2_) | with_reducible exact H | (rw [hy241]; exact H) | exact H
  have Ny241 := AM_ hy241
  clear hy241
  obtain rfl := Option.some.inj H
  go_enter Try.func76, Try.ntmps76
  go_wp2_with (first | ((with_reducible refine gate_dst (N := 5) rfl ?_); refine Kd.R_lit k36 _ 36 ?hg (N := 5) ?hd (xs := ([] : List (S36))) (inner := []) (ok := fun _ => True) (okp := fun _ => True) ?hr ?hp (fun _ hk => hk) trivial (Below.refl _ _) (Nat.le_refl _) (by simp) ?_; (case hd => rfl); (case hg => rfl); (case hr => first | (go_simp; done) | (go_simp; rfl)); (case hp => exact (Reps.none _ _)); intro v239 w3 ho4 hb hg_ hnew_; clear hg_ hnew_; (first | rw [← Ny238.out] at ho4 | (simp only [Int.reduceToNat] at ho4; rw [← Ny238.out] at ho4)); have n0_ := AM_ (Kd.R_lower ho4 (below_size (by exact BL HB.out rfl rfl rfl rfl))); have n1_ := AM_ (below_step (by exact BL HB.out rfl rfl rfl rfl) hb); clear HB; have HO240 := n0_; have HB := n1_; clear n0_ n1_; clear hb ho4) | ((with_reducible refine gate_builtin (b := .append) (xs := #[.tmp 5, .tmp 6]) rfl ?_); at_builtin; refine Kd.R_append_rows k36 (w0 := w) w.heap.size rfl (.tmp 5) (.tmp 6) 24 36 (.agg #[(.int .i64 0), (.int .i64 0)]) 16 rfl Try.underlying24 info36 rfl (by decide) (by omega) v239 y238 l0 _ _ _ (fun _ => True) (fun _ => False) rfl rfl ?aO ?aR (fun _ _ h => h) (fun _ h => h.elim) ?aF ?aB ?aS ?aL ?_; (case aR => exact Kd.C_below (Kd.C_below HR0.out HB.out) (BL (Below.refl _ _) rfl rfl rfl rfl)); (case aB => exact (by exact BL HB.out rfl rfl rfl rfl)); (case aF => exact (fun _ _ => trivial)); (case aO => exact (by exact RL HO240.out rfl)); (case aS => exact (below_size (by exact BL HB.out rfl rfl rfl rfl))); (case aL => have := LMc2.out; omega); intro v242 w5 ho hb hg hat; rw [← Ny241.out] at ho; have n0_ := AM_ (hb); have n1_ := AM_ (ho); clear HB; clear HO240; have HB := n0_; have HO243 := n1_; clear n0_ n1_; clear ho hb hg hat))
  go_ret
  exact ⟨_, by first | rfl | (simp [errW_none, errW_some] <;> rfl) | (simp [*, errW_none, errW_some] <;> rfl), by exact RL HO243.out rfl, by exact BL HB.out rfl rfl rfl rfl⟩
 ·rw [if_neg c2] at H
  exact absurd H (by simp)

/-! ### cmp_isNaN_int: function 160 -/
def cmp_isNaN_int.f (a0 : Int) : Option (Bool) := some (a0 != a0)
set_option maxHeartbeats 8000000 in
set_option maxRecDepth 100000 in
theorem cmp_isNaN_int.calls (a0 : Int) (r : Bool) (w : World) (h : cmp_isNaN_int.f a0 = some r) :
  Calls Try.prog 160 #[.int .i64 a0] w fun e w' => e = .returned (.bool r) ∧ Drawn0 w w' := by
 have H : (some (a0 != a0)) = some r := h
 clear h
 obtain rfl := Option.some.inj H
 go_enter Try.func160, Try.ntmps160
 go_wp2
 go_ret
 exact ⟨by first | rfl | (simp; done) | (simp [*]; done), by repeat (first | exact Drawn0.refl _ | apply Drawn0.step)⟩

/-! ### cmp_Compare_int: function 80 -/
def cmp_Compare_int.f (a0 : Int) (a1 : Int) : Option (Int) := (cmp_isNaN_int.f a0).bind fun t244 => ((cmp_isNaN_int.f a1).bind fun t245 => (if t244 = true then (if t245 = true then (some 0) else (some (-1))) else (if t245 = true then (some 1) else (if a0 < a1 then (some (-1)) else (if a0 > a1 then (some 1) else (some 0))))))
set_option maxHeartbeats 8000000 in
set_option maxRecDepth 100000 in
theorem cmp_Compare_int.calls (a0 : Int) (a1 : Int) (r : Int) (w : World) (h : cmp_Compare_int.f a0 a1 = some r) :
  Calls Try.prog 80 #[.int .i64 a0, .int .i64 a1] w fun e w' => e = .returned (.int .i64 r) ∧ Drawn0 w w' := by
 have H : ((cmp_isNaN_int.f a0).bind fun t244 => ((cmp_isNaN_int.f a1).bind fun t245 => (if t244 = true then (if t245 = true then (some 0) else (some (-1))) else (if t245 = true then (some 1) else (if a0 < a1 then (some (-1)) else (if a0 > a1 then (some 1) else (some 0))))))) = some r := h
 clear h
 replace H := Option.bind_eq_some_iff.mp H
 obtain ⟨t244, A30, H⟩ := H
 replace H : ((cmp_isNaN_int.f a1).bind fun t245 => (if t244 = true then (if t245 = true then (some 0) else (some (-1))) else (if t245 = true then (some 1) else (if a0 < a1 then (some (-1)) else (if a0 > a1 then (some 1) else (some 0)))))) = some r := H
 have A3 := AM_ A30
 clear A30
 replace H := Option.bind_eq_some_iff.mp H
 obtain ⟨t245, A40, H⟩ := H
 replace H : (if t244 = true then (if t245 = true then (some 0) else (some (-1))) else (if t245 = true then (some 1) else (if a0 < a1 then (some (-1)) else (if a0 > a1 then (some 1) else (some 0))))) = some r := H
 have A4 := AM_ A40
 clear A40
 by_cases c5 : t244 = true
 ·subst c5
  have H1 : (if t245 = true then (some 0) else (some (-1))) = some r := by rw [if_pos rfl] at H; exact H
  clear H
  have H := H1
  clear H1
  by_cases c6 : t245 = true
  ·subst c6
   have H1 : (some 0) = some r := by rw [if_pos rfl] at H; exact H
   clear H
   have H := H1
   clear H1
   obtain rfl := Option.some.inj H
   go_enter Try.func80, Try.ntmps80
   go_wp2_with (first | ((with_reducible refine gate_callee (f := 160) rfl ?_); refine goesL_ (some 8) rfl rfl Try.func160 (by kernel_rfl) rfl #[.int .i64 a0] rfl (by (try simp only [List.map_toArray, List.map_cons, List.map_nil]); first | done | rfl | (simp only [List.length_drop, List.length_take]; rfl)) ?_; (with_reducible refine (cmp_isNaN_int.calls a0 true _ A3.out).mono ?_); rintro e w' ⟨rfl, ⟨nd, rfl⟩⟩; refine ⟨_, rfl, ?_⟩) | ((with_reducible refine gate_callee (f := 160) rfl ?_); refine goesL_ (some 10) rfl rfl Try.func160 (by kernel_rfl) rfl #[.int .i64 a1] rfl (by (try simp only [List.map_toArray, List.map_cons, List.map_nil]); first | done | rfl | (simp only [List.length_drop, List.length_take]; rfl)) ?_; (with_reducible refine (cmp_isNaN_int.calls a1 true _ A4.out).mono ?_); rintro e w' ⟨rfl, ⟨nd, rfl⟩⟩; refine ⟨_, rfl, ?_⟩))
   go_ret
   exact ⟨by first | rfl | (simp; done) | (simp [*]; done), by repeat (first | exact Drawn0.refl _ | apply Drawn0.step)⟩
  ·replace c6 := Bool.eq_false_iff.mpr c6
   subst c6
   have H1 : (some (-1)) = some r := by rw [if_neg (show ¬ (false = true) by decide)] at H; exact H
   clear H
   have H := H1
   clear H1
   obtain rfl := Option.some.inj H
   go_enter Try.func80, Try.ntmps80
   go_wp2_with (first | ((with_reducible refine gate_callee (f := 160) rfl ?_); refine goesL_ (some 8) rfl rfl Try.func160 (by kernel_rfl) rfl #[.int .i64 a0] rfl (by (try simp only [List.map_toArray, List.map_cons, List.map_nil]); first | done | rfl | (simp only [List.length_drop, List.length_take]; rfl)) ?_; (with_reducible refine (cmp_isNaN_int.calls a0 true _ A3.out).mono ?_); rintro e w' ⟨rfl, ⟨nd, rfl⟩⟩; refine ⟨_, rfl, ?_⟩) | ((with_reducible refine gate_callee (f := 160) rfl ?_); refine goesL_ (some 10) rfl rfl Try.func160 (by kernel_rfl) rfl #[.int .i64 a1] rfl (by (try simp only [List.map_toArray, List.map_cons, List.map_nil]); first | done | rfl | (simp only [List.length_drop, List.length_take]; rfl)) ?_; (with_reducible refine (cmp_isNaN_int.calls a1 false _ A4.out).mono ?_); rintro e w' ⟨rfl, ⟨nd, rfl⟩⟩; refine ⟨_, rfl, ?_⟩))
   go_ret
   exact ⟨by first | rfl | (simp; done) | (simp [*]; done), by repeat (first | exact Drawn0.refl _ | apply Drawn0.step)⟩
 ·replace c5 := Bool.eq_false_iff.mpr c5
  subst c5
  have H1 : (if t245 = true then (some 1) else (if a0 < a1 then (some (-1)) else (if a0 > a1 then (some 1) else (some 0)))) = some r := by rw [if_neg (show ¬ (false = true) by decide)] at H; exact H
  clear H
  have H := H1
  clear H1
  by_cases c7 : t245 = true
  ·subst c7
   have H1 : (some 1) = some r := by rw [if_pos rfl] at H; exact H
   clear H
   have H := H1
   clear H1
   obtain rfl := Option.some.inj H
   go_enter Try.func80, Try.ntmps80
   go_wp2_with (first | ((with_reducible refine gate_callee (f := 160) rfl ?_); refine goesL_ (some 8) rfl rfl Try.func160 (by kernel_rfl) rfl #[.int .i64 a0] rfl (by (try simp only [List.map_toArray, List.map_cons, List.map_nil]); first | done | rfl | (simp only [List.length_drop, List.length_take]; rfl)) ?_; (with_reducible refine (cmp_isNaN_int.calls a0 false _ A3.out).mono ?_); rintro e w' ⟨rfl, ⟨nd, rfl⟩⟩; refine ⟨_, rfl, ?_⟩) | ((with_reducible refine gate_callee (f := 160) rfl ?_); refine goesL_ (some 10) rfl rfl Try.func160 (by kernel_rfl) rfl #[.int .i64 a1] rfl (by (try simp only [List.map_toArray, List.map_cons, List.map_nil]); first | done | rfl | (simp only [List.length_drop, List.length_take]; rfl)) ?_; (with_reducible refine (cmp_isNaN_int.calls a1 true _ A4.out).mono ?_); rintro e w' ⟨rfl, ⟨nd, rfl⟩⟩; refine ⟨_, rfl, ?_⟩))
   go_ret
   exact ⟨by first | rfl | (simp; done) | (simp [*]; done), by repeat (first | exact Drawn0.refl _ | apply Drawn0.step)⟩
  ·replace c7 := Bool.eq_false_iff.mpr c7
   subst c7
   have H1 : (if a0 < a1 then (some (-1)) else (if a0 > a1 then (some 1) else (some 0))) = some r := by rw [if_neg (show ¬ (false = true) by decide)] at H; exact H
   clear H
   have H := H1
   clear H1
   by_cases c8 : a0 < a1
   ·rw [if_pos c8] at H
    have c8b0 : decide (a0 < a1) = true := decide_eq_true c8
    clear c8
    obtain rfl := Option.some.inj H
    go_enter Try.func80, Try.ntmps80
    go_wp2_with (first | ((with_reducible refine gate_callee (f := 160) rfl ?_); refine goesL_ (some 8) rfl rfl Try.func160 (by kernel_rfl) rfl #[.int .i64 a0] rfl (by (try simp only [List.map_toArray, List.map_cons, List.map_nil]); first | done | rfl | (simp only [List.length_drop, List.length_take]; rfl)) ?_; (with_reducible refine (cmp_isNaN_int.calls a0 false _ A3.out).mono ?_); rintro e w' ⟨rfl, ⟨nd, rfl⟩⟩; refine ⟨_, rfl, ?_⟩) | ((with_reducible refine gate_callee (f := 160) rfl ?_); refine goesL_ (some 10) rfl rfl Try.func160 (by kernel_rfl) rfl #[.int .i64 a1] rfl (by (try simp only [List.map_toArray, List.map_cons, List.map_nil]); first | done | rfl | (simp only [List.length_drop, List.length_take]; rfl)) ?_; (with_reducible refine (cmp_isNaN_int.calls a1 false _ A4.out).mono ?_); rintro e w' ⟨rfl, ⟨nd, rfl⟩⟩; refine ⟨_, rfl, ?_⟩))
    go_ret
    exact ⟨by first | rfl | (simp; done) | (simp [*]; done), by repeat (first | exact Drawn0.refl _ | apply Drawn0.step)⟩
   ·rw [if_neg c8] at H
    have c8b0 : decide (a0 < a1) = false := decide_eq_false c8
    clear c8
    by_cases c9 : a0 > a1
    ·rw [if_pos c9] at H
     have c9b0 : decide (a1 < a0) = true := decide_eq_true c9
     clear c9
     obtain rfl := Option.some.inj H
     go_enter Try.func80, Try.ntmps80
     go_wp2_with (first | ((with_reducible refine gate_callee (f := 160) rfl ?_); refine goesL_ (some 8) rfl rfl Try.func160 (by kernel_rfl) rfl #[.int .i64 a0] rfl (by (try simp only [List.map_toArray, List.map_cons, List.map_nil]); first | done | rfl | (simp only [List.length_drop, List.length_take]; rfl)) ?_; (with_reducible refine (cmp_isNaN_int.calls a0 false _ A3.out).mono ?_); rintro e w' ⟨rfl, ⟨nd, rfl⟩⟩; refine ⟨_, rfl, ?_⟩) | ((with_reducible refine gate_callee (f := 160) rfl ?_); refine goesL_ (some 10) rfl rfl Try.func160 (by kernel_rfl) rfl #[.int .i64 a1] rfl (by (try simp only [List.map_toArray, List.map_cons, List.map_nil]); first | done | rfl | (simp only [List.length_drop, List.length_take]; rfl)) ?_; (with_reducible refine (cmp_isNaN_int.calls a1 false _ A4.out).mono ?_); rintro e w' ⟨rfl, ⟨nd, rfl⟩⟩; refine ⟨_, rfl, ?_⟩))
     go_ret
     exact ⟨by first | rfl | (simp; done) | (simp [*]; done), by repeat (first | exact Drawn0.refl _ | apply Drawn0.step)⟩
    ·rw [if_neg c9] at H
     have c9b0 : decide (a1 < a0) = false := decide_eq_false c9
     clear c9
     obtain rfl := Option.some.inj H
     go_enter Try.func80, Try.ntmps80
     go_wp2_with (first | ((with_reducible refine gate_callee (f := 160) rfl ?_); refine goesL_ (some 8) rfl rfl Try.func160 (by kernel_rfl) rfl #[.int .i64 a0] rfl (by (try simp only [List.map_toArray, List.map_cons, List.map_nil]); first | done | rfl | (simp only [List.length_drop, List.length_take]; rfl)) ?_; (with_reducible refine (cmp_isNaN_int.calls a0 false _ A3.out).mono ?_); rintro e w' ⟨rfl, ⟨nd, rfl⟩⟩; refine ⟨_, rfl, ?_⟩) | ((with_reducible refine gate_callee (f := 160) rfl ?_); refine goesL_ (some 10) rfl rfl Try.func160 (by kernel_rfl) rfl #[.int .i64 a1] rfl (by (try simp only [List.map_toArray, List.map_cons, List.map_nil]); first | done | rfl | (simp only [List.length_drop, List.length_take]; rfl)) ?_; (with_reducible refine (cmp_isNaN_int.calls a1 false _ A4.out).mono ?_); rintro e w' ⟨rfl, ⟨nd, rfl⟩⟩; refine ⟨_, rfl, ?_⟩))
     go_ret
     exact ⟨by first | rfl | (simp; done) | (simp [*]; done), by repeat (first | exact Drawn0.refl _ | apply Drawn0.step)⟩

/-! ### impl_SetWait_1: function 79 -/
def impl_SetWait_1.f (a0_0 : Int) (a0_1 : Int) (a1 : Int) : Option (Int) := (cmp_Compare_int.f a0_0 a1).bind fun t247 => (some t247)
set_option maxHeartbeats 8000000 in
set_option maxRecDepth 100000 in
theorem impl_SetWait_1.calls (a0_0 : Int) (a0_1 : Int) (a1 : Int) (r : Int) (w : World) (h : impl_SetWait_1.f a0_0 a0_1 a1 = some r) :
  Calls Try.prog 79 #[.agg #[.int .i64 a0_0, .int .i64 a0_1], .int .i64 a1] w fun e w' => e = .returned (.int .i64 r) ∧ Below w.heap.size w w' := by
 have hu36 := Try.underlying36
 have HB := AM_ (Below.refl w.heap.size w)
 have H : ((cmp_Compare_int.f a0_0 a1).bind fun t247 => (some t247)) = some r := h
 clear h
 replace H := Option.bind_eq_some_iff.mp H
 obtain ⟨t247, A30, H⟩ := H
 replace H : (some t247) = some r := H
 have A3 := AM_ A30
 clear A30
 obtain rfl := Option.some.inj H
 go_enter Try.func79, Try.ntmps79
 go_wp2_with (first | ((with_reducible refine gate_dst (N := 2) rfl ?_); refine box_event ?hg (N := 2) ?hd (cs := #[.int .i64 a0_0, .int .i64 a0_1]) (t := 36) ?hr ?_; (case hd => rfl); (case hg => rfl); (case hr => first | (go_simp; done) | (go_simp; rfl)); intro gb246 hg w4 hbox hb; have n0_ := AM_ (below_step (by exact BL HB.out rfl rfl rfl rfl) hb); have n1_ := AM_ (hbox); have n2_ := AM_ ((by rw [hg]; exact (below_size (by exact BL HB.out rfl rfl rfl rfl)) : w.heap.size ≤ gb246)); have n3_ := AM_ ((by rw [hg]; exact (below_size (by exact BL HB.out rfl rfl rfl rfl)) : w.heap.size ≤ gb246)); clear HB; have HB := n0_; have BK246 := n1_; have GW246 := n2_; have GE246 := n3_; clear n0_ n1_ n2_ n3_; clear hb hbox hg; have hcz5_0 : w4.cell? ⟨gb246, 0, none⟩ = some (.int .i64 a0_0) := (blk_cell BK246.out 0).trans rfl; have hcz5_1 : w4.cell? ⟨gb246, 1, none⟩ = some (.int .i64 a0_1) := (blk_cell BK246.out 1).trans rfl; have hfz5_0 := blk_frozen BK246.out 0; have hfz5_1 := blk_frozen BK246.out 1) | ((with_reducible refine gate_callee (f := 80) rfl ?_); refine goesL_ (some 8) rfl rfl Try.func80 (by kernel_rfl) rfl #[.int .i64 a0_0, .int .i64 a1] rfl (by (try simp only [List.map_toArray, List.map_cons, List.map_nil]); first | done | rfl | (simp only [List.length_drop, List.length_take]; rfl)) ?_; (with_reducible refine (cmp_Compare_int.calls a0_0 a1 t247 _ A3.out).mono ?_); rintro e w' ⟨rfl, ⟨nd, rfl⟩⟩; refine ⟨_, rfl, ?_⟩))
 go_ret
 exact ⟨by first | rfl | (simp [errW_none, errW_some] <;> rfl) | (simp [*, errW_none, errW_some] <;> rfl), by repeat (first | (with_reducible first | exact HB.out | apply below_alloc | apply pw_below_drewN | apply below_drew1 | refine below_set ?_ GE246.out) | exact HB.out)⟩

/-! ### impl_Wait_int: function 78 -/
def impl_Wait_int.l0 : Nat → List (S36) → Int → Int → Int → Int → Option (Int × Bool)
 | 0, _, _, _, _, _ => none
 | k + 1, x0, x1, x8, x9, x10 => if x9 < x10 then (if 0 ≤ (wrap64 ((IntKind.u64.wrap (wrap64 (x9 + x10))) / 2)) then (if (wrap64 ((IntKind.u64.wrap (wrap64 (x9 + x10))) / 2)) < (x0.length : Int) then ((impl_SetWait_1.f ((rd_T36 x0 (wrap64 ((IntKind.u64.wrap (wrap64 (x9 + x10))) / 2))).f0) ((rd_T36 x0 (wrap64 ((IntKind.u64.wrap (wrap64 (x9 + x10))) / 2))).f1) x1).bind fun t249 => (if t249 < 0 then (impl_Wait_int.l0 k x0 x1 x8 (wrap64 ((wrap64 ((IntKind.u64.wrap (wrap64 (x9 + x10))) / 2)) + 1)) x10) else (impl_Wait_int.l0 k x0 x1 x8 x9 (wrap64 ((IntKind.u64.wrap (wrap64 (x9 + x10))) / 2))))) else (none)) else (none)) else (if x9 < x8 then (if 0 ≤ x9 then (if x9 < (x0.length : Int) then ((impl_SetWait_1.f ((rd_T36 x0 x9).f0) ((rd_T36 x0 x9).f1) x1).bind fun t251 => (some (x9, (t251 == 0)))) else (none)) else (none)) else (some (x9, false)))
def impl_Wait_int.f (k : Nat) (l0 : List (S36)) (a1 : Int)  : Option (Int × Bool) := impl_Wait_int.l0 k l0 a1 (l0.length : Int) 0 (l0.length : Int)
theorem impl_Wait_int.mono_l : ∀ k, (∀ y0 y1 y2 y3 y4, LeO (impl_Wait_int.l0 k y0 y1 y2 y3 y4) (impl_Wait_int.l0 (k + 1) y0 y1 y2 y3 y4))
 | 0 => fun _ _ _ _ _ r h => by simp [impl_Wait_int.l0] at h
 | k + 1 => by
  have ih0 := impl_Wait_int.mono_l k
  ·intro y0 y1 y2 y3 y4
   unfold impl_Wait_int.l0
   repeat' first
   | (with_reducible exact ih0 _ _ _ _ _)
   | (with_reducible exact LeO.refl _)
   | (with_reducible exact LeO.none _)
   | (with_reducible refine LeO.ite ?_ ?_)
   | (with_reducible refine LeO.bind ?_ (fun _ => ?_))
   | exact ih0 _ _ _ _ _
   | exact LeO.none _
   | refine LeO.ite ?_ ?_
   | refine LeO.bind ?_ (fun _ => ?_)
theorem impl_Wait_int.mono : ∀ a0 a1 k, LeO (impl_Wait_int.f k a0 a1) (impl_Wait_int.f (k + 1) a0 a1) := by
 intro a0 a1 k
 have ih0 := impl_Wait_int.mono_l k
 unfold impl_Wait_int.f
 repeat' first
   | (with_reducible exact ih0 _ _ _ _ _)
   | (with_reducible exact LeO.refl _)
   | (with_reducible exact LeO.none _)
   | (with_reducible refine LeO.ite ?_ ?_)
   | (with_reducible refine LeO.bind ?_ (fun _ => ?_))
   | exact ih0 _ _ _ _ _
   | exact LeO.none _
   | refine LeO.ite ?_ ?_
   | refine LeO.bind ?_ (fun _ => ?_)
set_option maxHeartbeats 8000000 in
set_option maxRecDepth 100000 in
theorem impl_Wait_int.calls (k : Nat) (A0 : Option Addr) (c0 : Nat) (l0 : List (S36)) (a1 : Int)  (r1 : Int) (r2 : Bool) (w : World) (hr0 : Kd.C k36 w A0 l0.length l0) (hc0 : l0.length ≤ c0) (h : impl_Wait_int.f k l0 a1 = some (r1, r2)) :
  Calls Try.prog 78 #[.slice A0 l0.length c0, .int .i64 a1, .func (.func 79) #[] #[]] w fun e w' => e = .returned (.tuple #[.int .i64 r1, .bool r2]) ∧ Below w.heap.size w w' := by
 have hu36 := Try.underlying36
 have HR0 := AM_ hr0
 have HC0 := AM_ hc0
 clear hr0 hc0
 have HB := AM_ (Below.refl w.heap.size w)
 have H : (impl_Wait_int.l0 k l0 a1 (l0.length : Int) 0 (l0.length : Int)) = some (r1, r2) := h
 clear h
 have H' := AM_ H
 clear H
 go_enter Try.func78, Try.ntmps78
 go_wp2
 go_loopg [9, 10] k (fun kq v9 v10 w' => ∃ (x9_1 : Int) (x10_1 : Int), v9 = .int .i64 x9_1 ∧ v10 = .int .i64 x10_1 ∧ Aside0 (impl_Wait_int.l0 kq l0 a1 (l0.length : Int) x9_1 x10_1 = some (r1, r2)) ∧ Aside0 (kq ≤ k) ∧ Aside0 (Below w.heap.size w w'))
 case atStart => exact ⟨(0), ((l0.length : Int)), (by first | rfl | (simp; done) | (simp [*]; done)), (by first | rfl | (simp; done) | (simp [*]; done)), H', ⟨Nat.le_refl _⟩, ⟨by exact BL HB.out rfl rfl rfl rfl⟩⟩
 case round =>
  clear H'
  try clear p2
  obtain ⟨x9_1, x10_1, rfl, rfl, HA, HK1, HB⟩ := hrel
  cases gk with
  | zero => exact absurd HA.out (by simp [impl_Wait_int.l0])
  | succ k1 =>
   have H := HA.out
   clear HA
   simp only [impl_Wait_int.l0] at H
   by_cases c4 : x9_1 < x10_1
   ·rw [if_pos c4] at H
    have c4b0 : decide (x9_1 < x10_1) = true := decide_eq_true c4
    clear c4
    obtain ⟨ji5, hji5⟩ : ∃ j_ : Int, (wrap64 ((IntKind.u64.wrap (wrap64 (x9_1 + x10_1))) / 2)) = j_ := ⟨_, rfl⟩
    replace H : (if 0 ≤ (ji5) then (if (ji5) < (l0.length : Int) then ((impl_SetWait_1.f ((rd_T36 l0 (ji5)).f0) ((rd_T36 l0 (ji5)).f1) a1).bind fun t249 => (if t249 < 0 then (impl_Wait_int.l0 k1 l0 a1 (l0.length : Int) (wrap64 ((ji5) + 1)) x10_1) else (impl_Wait_int.l0 k1 l0 a1 (l0.length : Int) x9_1 ji5))) else (none)) else (none)) = some (r1, r2) := by first | (rw [hji5] at H; exact H) | (simp only [hji5] at H ⊢; exact H)
    have hji5w : (IntKind.i64.wrap ((IntKind.u64.wrap (wrap64 (x9_1 + x10_1))) / 2)) = ji5 := (i64_w _).trans hji5
    by_cases c6 : 0 ≤ (ji5)
    ·rw [if_pos c6] at H
     have c6b0 : decide (0 ≤ (ji5)) = true := decide_eq_true c6
     clear c6
     by_cases c7 : (ji5) < (l0.length : Int)
     ·rw [if_pos c7] at H
      have c7b0 : decide ((ji5) < (l0.length : Int)) = true := decide_eq_true c7
      clear c7
      replace H := Option.bind_eq_some_iff.mp H
      obtain ⟨t249, A80, H⟩ := H
      replace H : (if t249 < 0 then (impl_Wait_int.l0 k1 l0 a1 (l0.length : Int) (wrap64 ((ji5) + 1)) x10_1) else (impl_Wait_int.l0 k1 l0 a1 (l0.length : Int) x9_1 ji5)) = some (r1, r2) := H
      have A8 := AM_ A80
      clear A80
      by_cases c9 : t249 < 0
      ·rw [if_pos c9] at H
       have c9b0 : decide (t249 < 0) = true := decide_eq_true c9
       clear c9
       have H' := AM_ H
       clear H
       have p248 : 0 ≤ ((ji5) : Int) := of_decide_eq_true (by first | (with_reducible assumption) | assumption)
       have q248 : (ji5) < (l0.length : Int) := of_decide_eq_true (by first | (with_reducible assumption) | assumption)
       obtain ⟨ad248, e248, hx248_0, hx248_1⟩ := at_T36 HR0.out (ji5) p248 q248
       cases e248
       replace hx248_0 := BC HB.out hx248_0
       replace hx248_1 := BC HB.out hx248_1
       replace p248 := eq_true p248
       replace q248 := eq_true q248
       go_wp2_with (first | ((with_reducible refine gate_dst (N := 30) rfl ?_); refine goesF_ (some 30) rfl rfl Try.func79 (by kernel_rfl) rfl (lb := #[]) #[.agg #[.int .i64 ((rd_T36 l0 (ji5)).f0), .int .i64 ((rd_T36 l0 (ji5)).f1)], .int .i64 a1] rfl rfl (by (try simp only [List.map_toArray, List.map_cons, List.map_nil]); first | done | rfl) ?_; (with_reducible refine (impl_SetWait_1.calls ((rd_T36 l0 (ji5)).f0) ((rd_T36 l0 (ji5)).f1) a1 t249 _ A8.out).mono ?_); rintro e w10 ⟨rfl, hb⟩; refine ⟨_, rfl, ?_⟩; have n0_ := AM_ (below_step (by exact BL HB.out rfl rfl rfl rfl) hb); clear HB; have HB := n0_; clear n0_; (try clear hb); (try clear hb2); (try clear hk); (try clear hi)))
       go_roundg k1
       case measure => have := HK1.out; omega
       case rel => exact ⟨(wrap64 ((ji5) + 1)), (x10_1), (by first | rfl | (simp; done) | (simp only [← hji5] <;> (first | rfl | simp)) | (simp [*]; done)), (by first | rfl | (simp; done) | (simp [*]; done)), H', ⟨by have := HK1.out; omega⟩, ⟨by exact BL HB.out rfl rfl rfl rfl⟩⟩
      ·rw [if_neg c9] at H
       have c9b0 : decide (t249 < 0) = false := decide_eq_false c9
       clear c9
       have H' := AM_ H
       clear H
       have p248 : 0 ≤ ((ji5) : Int) := of_decide_eq_true (by first | (with_reducible assumption) | assumption)
       have q248 : (ji5) < (l0.length : Int) := of_decide_eq_true (by first | (with_reducible assumption) | assumption)
       obtain ⟨ad248, e248, hx248_0, hx248_1⟩ := at_T36 HR0.out (ji5) p248 q248
       cases e248
       replace hx248_0 := BC HB.out hx248_0
       replace hx248_1 := BC HB.out hx248_1
       replace p248 := eq_true p248
       replace q248 := eq_true q248
       go_wp2_with (first | ((with_reducible refine gate_dst (N := 30) rfl ?_); refine goesF_ (some 30) rfl rfl Try.func79 (by kernel_rfl) rfl (lb := #[]) #[.agg #[.int .i64 ((rd_T36 l0 (ji5)).f0), .int .i64 ((rd_T36 l0 (ji5)).f1)], .int .i64 a1] rfl rfl (by (try simp only [List.map_toArray, List.map_cons, List.map_nil]); first | done | rfl) ?_; (with_reducible refine (impl_SetWait_1.calls ((rd_T36 l0 (ji5)).f0) ((rd_T36 l0 (ji5)).f1) a1 t249 _ A8.out).mono ?_); rintro e w11 ⟨rfl, hb⟩; refine ⟨_, rfl, ?_⟩; have n0_ := AM_ (below_step (by exact BL HB.out rfl rfl rfl rfl) hb); clear HB; have HB := n0_; clear n0_; (try clear hb); (try clear hb2); (try clear hk); (try clear hi)))
       go_roundg k1
       case measure => have := HK1.out; omega
       case rel => exact ⟨(x9_1), (ji5), (by first | rfl | (simp; done) | (simp [*]; done)), (by first | rfl | (simp; done) | (simp only [← hji5] <;> (first | rfl | simp)) | (simp [*]; done)), H', ⟨by have := HK1.out; omega⟩, ⟨by exact BL HB.out rfl rfl rfl rfl⟩⟩
     ·rw [if_neg c7] at H
      exact absurd H (by simp)
    ·rw [if_neg c6] at H
     exact absurd H (by simp)
   ·rw [if_neg c4] at H
    have c4b0 : decide (x9_1 < x10_1) = false := decide_eq_false c4
    clear c4
    by_cases c12 : x9_1 < (l0.length : Int)
    ·rw [if_pos c12] at H
     have c12b0 : decide (x9_1 < (l0.length : Int)) = true := decide_eq_true c12
     clear c12
     by_cases c13 : 0 ≤ x9_1
     ·rw [if_pos c13] at H
      have c13b0 : decide (0 ≤ x9_1) = true := decide_eq_true c13
      clear c13
      by_cases c14 : x9_1 < (l0.length : Int)
      ·rw [if_pos c14] at H
       have c14b0 : decide (x9_1 < (l0.length : Int)) = true := decide_eq_true c14
       clear c14
       replace H := Option.bind_eq_some_iff.mp H
       obtain ⟨t251, A150, H⟩ := H
       replace H : (some (x9_1, (t251 == 0))) = some (r1, r2) := H
       have A15 := AM_ A150
       clear A150
       simp only [Option.some.injEq, Prod.mk.injEq] at H
       obtain ⟨rfl, rfl⟩ := H
       have p250 : 0 ≤ (x9_1 : Int) := of_decide_eq_true (by first | (with_reducible assumption) | assumption)
       have q250 : x9_1 < (l0.length : Int) := of_decide_eq_true (by first | (with_reducible assumption) | assumption)
       obtain ⟨ad250, e250, hx250_0, hx250_1⟩ := at_T36 HR0.out x9_1 p250 q250
       cases e250
       replace hx250_0 := BC HB.out hx250_0
       replace hx250_1 := BC HB.out hx250_1
       replace p250 := eq_true p250
       replace q250 := eq_true q250
       go_wp2_with (first | (go_at_call 79; (with_reducible refine (impl_SetWait_1.calls ((rd_T36 l0 x9_1).f0) ((rd_T36 l0 x9_1).f1) a1 t251 _ A15.out).mono ?_); rintro e w16 ⟨rfl, hb⟩; have n0_ := AM_ (below_step (by exact BL HB.out rfl rfl rfl rfl) hb); clear HB; have HB := n0_; clear n0_; (try clear hb); (try clear hb2); (try clear hk); (try clear hi)))
       go_ret2
       exact ⟨by first | rfl | (simp [errW_none, errW_some] <;> rfl) | (simp [*, errW_none, errW_some] <;> rfl), by exact BL HB.out rfl rfl rfl rfl⟩
      ·rw [if_neg c14] at H
       exact absurd H (by simp)
     ·rw [if_neg c13] at H
      exact absurd H (by simp)
    ·rw [if_neg c12] at H
     have c12b0 : decide (x9_1 < (l0.length : Int)) = false := decide_eq_false c12
     clear c12
     simp only [Option.some.injEq, Prod.mk.injEq] at H
     obtain ⟨rfl, rfl⟩ := H
     go_wp2
     go_ret2
     exact ⟨by first | rfl | (simp [errW_none, errW_some] <;> rfl) | (simp [*, errW_none, errW_some] <;> rfl), by exact BL HB.out rfl rfl rfl rfl⟩

/-! ### impl_Wait_81: function 81 -/
section
open Go.Lib
set_option maxHeartbeats 4000000 in
set_option maxRecDepth 100000 in
theorem impl_Wait_81_shift (b n c i vb vc : Nat) (cur cv : Array Value) (w : World) (hi : i < n) (hroom : n + 1 ≤ c) (hc63 : c ≤ 9223372036854775807) (hvb : vb ≠ b)
  (hb : w.heap[b]? = some (.cells cur 36 (0, 0))) (hv : w.heap[vb]? = some (.cells cv 36 (0, 0))) (hcs : cur.size = c * 2) (hcv : 2 ≤ cv.size)
  (h1c : ∀ u ∈ cur.toList.take (n * 2), u.oneCell' = true) (h1v : ∀ u ∈ cv.toList.take 2, u.oneCell' = true) :
  Calls Try.prog 81 #[.slice (some ⟨b, 0, none⟩) n c, .int .i64 i, .slice (some ⟨vb, 0, none⟩) 1 vc] w fun e w' =>
   e = .returned (.slice (some ⟨b, 0, none⟩) (n + 1) c) ∧ w' = w.drew.setRow b ((cur.toList.take (n * 2)).take (i * 2) ++ cv.toList.take 2 ++ (cur.toList.take (n * 2)).drop (i * 2) ++ cur.toList.drop (n * 2 + 2)).toArray := by
 have hu93 := Try.underlying36
 have hz1 : ¬ ((1 : Int) = 0) := by omega
 have hz2 : ¬ ((i : Int) = (n : Int)) := by omega
 have hin : i ≤ n := by omega
 have hw1 : IntKind.i64.wrap ((i : Int) + 1) = (i : Int) + 1 := by rw [IntKind.wrap_i64]; omega
 have hw2 : IntKind.i64.wrap ((n : Int) + 1) = (n : Int) + 1 := by rw [IntKind.wrap_i64]; omega
 have hw1' : wrap64 ((i : Int) + 1) = (i : Int) + 1 := by unfold wrap64; omega
 have hw2' : wrap64 ((n : Int) + 1) = (n : Int) + 1 := by unfold wrap64; omega
 have hb1 : (0 : Int) ≤ (i : Int) + 1 := by omega
 have htn : ((i : Int) + 1).toNat = i + 1 := by omega
 have htn2 : ((n : Int) + 1).toNat = n + 1 := by omega
 have hb2 : ¬ (c = i + 1) := by omega
 have hb3 : (i : Int) ≤ (n : Int) + 1 := by omega
 have hb3' : (i : Int) + 1 ≤ (n : Int) + 1 := by omega
 have hb4 : ¬ (c = i) := by omega
 have hb5 : (n : Int) + 1 ≤ (c : Int) := by omega
 have hb6 : ¬ ((n : Int) + 1 > (c : Int)) := by omega
 have hb7 : (0 : Int) ≤ (n : Int) + 1 := by omega
 have hz93 : ∀ w, (Go.sizeOf 36).run Try.prog w = .ok 2 w := fun w => by
  obtain ⟨i0, hi0, h0, h1, h2⟩ := info_parts info36
  simp [sizeOf, typeInfo, hi0, h1]
 have hov : ∀ lb cb, (callFunc 161 #[.slice (some ⟨vb, 0, none⟩) 1 vc, .slice (some ⟨b, (i + 1) * 2, none⟩) lb cb]).run Try.prog w = .ok (.value (.bool false)) w := fun lb cb => by
  rw [run_callFunc_extern Try.func161 (by kernel_rfl) (by kernel_rfl) (by kernel_rfl) (e := Extern.SlicesOverlaps.overlaps #[24, 24] #[4]) (by kernel_rfl),
   run_overlaps_apart w 24 4 36 Try.underlying24 2 hz93 ⟨vb, 0, none⟩ ⟨b, (i + 1) * 2, none⟩ 1 vc lb cb hvb 36 36 cv.size cur.size (by unfold World.shape?; rw [hv]) (by unfold World.shape?; rw [hb]) (by rw [hcs]; omega) (by simp [World.frozen?, hv]) (by simp [World.frozen?, hv])]
  rfl
 have hdl : ((cur.toList.take (n * 2)).drop (i * 2)).length = (n - i) * 2 := by rw [List.length_drop, List.length_take, Array.length_toList, hcs]; omega
 have hvl : (cv.toList.take 2).length = 2 := by rw [List.length_take, Array.length_toList]; omega
 have hsz : (Try.prog.info? 36).map (·.size) = some 2 := by
  obtain ⟨i0, hi0, h0, h1, h2⟩ := info_parts info36
  rw [hi0]; simp [h1]
 have hcb : ∀ (W : World), W.heap = w.heap → ∀ j v, ((cur.toList.take (n * 2)).drop (i * 2))[j]? = some v → W.cell? ((⟨b, i * 2, none⟩ : Addr).add j) = some v := fun W hW j v hj => by
  rw [Addr.add_lit]
  rw [List.getElem?_drop, List.getElem?_take] at hj
  split at hj
  ·simp only [World.cell?, hW, hb]
   rw [← Array.getElem?_toList]; simpa using hj
  ·cases hj
 obtain ⟨cur1, hcur1⟩ : ∃ c1, c1 = (cur.toList.take ((i + 1) * 2) ++ (cur.toList.take (n * 2)).drop (i * 2) ++ cur.toList.drop ((i + 1) * 2 + ((cur.toList.take (n * 2)).drop (i * 2)).length)) := ⟨_, rfl⟩
 have hcp1 : ∀ ty dc sc, (Builtin.copy_ #[24, 24] ty #[.slice (some ⟨b, (i + 1) * 2, none⟩) (n - i) dc, .slice (some ⟨b, i * 2, none⟩) (n + 1 - i) sc]).run Try.prog w.drew = .ok (goInt (Nat.min (n + 1 - i) (n - i))) (w.drew.setRow b cur1.toArray) := fun ty dc sc => by
  rw [hcur1]
  exact run_copy_rowN w.drew 24 24 ty 36 2 b ((i + 1) * 2) (n - i) dc ⟨b, i * 2, none⟩ (n + 1 - i) sc cur 36 ((cur.toList.take (n * 2)).drop (i * 2)) Try.underlying24 hsz hb (by rw [hdl]; simp only [Nat.min_def]; split <;> omega)
   (hcb _ rfl) (by rw [hdl, hcs]; omega) (fun v hv => h1c v (List.mem_of_mem_drop hv))
 have hl1 : cur1.length = cur.size := by
  rw [hcur1, List.length_append, List.length_append, hdl, List.length_drop, List.length_take, Array.length_toList, hcs]; omega
 have hcp2 : ∀ (W : World), W.heap = (w.drew.setRow b cur1.toArray).heap → ∀ ty dc, (Builtin.copy_ #[24, 24] ty #[.slice (some ⟨b, i * 2, none⟩) (n + 1 - i) dc, .slice (some ⟨vb, 0, none⟩) 1 vc]).run Try.prog W = .ok (goInt (Nat.min 1 (n + 1 - i))) (W.setRow b (cur1.take (i * 2) ++ cv.toList.take 2 ++ cur1.drop (i * 2 + (cv.toList.take 2).length)).toArray) := fun W hW ty dc => by
  have hWb : W.heap[b]? = some (.cells cur1.toArray 36 (0, 0)) := by rw [hW]; exact setRow_heap w.drew b cur cur1.toArray 36 (0, 0) hb
  have hWv : W.heap[vb]? = some (.cells cv 36 (0, 0)) := by
   rw [hW]
   simp only [World.setRow]
   rw [Array.getElem?_modify, if_neg (fun h => hvb h.symm)]
   exact hv
  have h := run_copy_rowN W 24 24 ty 36 2 b (i * 2) (n + 1 - i) dc ⟨vb, 0, none⟩ 1 vc cur1.toArray 36 (cv.toList.take 2) Try.underlying24 hsz hWb (by rw [hvl]; simp only [Nat.min_def]; split <;> omega)
   (fun j v hj => by
    rw [Addr.add_lit]
    rw [List.getElem?_take] at hj
    split at hj
    ·simp only [World.cell?, hWv]
     rw [← Array.getElem?_toList]; simpa using hj
    ·cases hj) (by rw [hvl]; simp only [List.size_toArray, hl1, hcs]; omega) h1v
  simpa using h
 have hfin : (w.drew.setRow b cur1.toArray).setRow b (cur1.take (i * 2) ++ cv.toList.take 2 ++ cur1.drop (i * 2 + (cv.toList.take 2).length)).toArray = w.drew.setRow b ((cur.toList.take (n * 2)).take (i * 2) ++ cv.toList.take 2 ++ (cur.toList.take (n * 2)).drop (i * 2) ++ cur.toList.drop (n * 2 + 2)).toArray := by
  rw [setRow_setRow, hcur1]
  congr 1
  congr 1
  have h := shift_cells cur.toList (cv.toList.take 2) (i * 2) 2 (n * 2) (by omega) (by rw [Array.length_toList, hcs]; omega) hvl
  simpa [Nat.add_mul] using h
 rw [← hfin]
 clear hcur1 hfin
 have mixed : Try.prog.follows Departure.mixedOrders = true := by kernel_rfl
 go_enter Try.func81, Try.ntmps81
 go_wp2_with (simp only [hov])
 go_region_law_o (refine step_copy_runI rfl _ _ 24 24 rfl _ _ (by simp [Act.eval, Act.put]) (by simp [Act.eval, Act.put]) (hcp1 _ _ _) ?_)
 go_wp2_with (at_builtin; refine wpList_copy_runI _ rfl _ _ 24 24 rfl _ _ rfl rfl (hcp2 _ rfl _ _) ?_)
 go_ret
 exact ⟨rfl, by rw [hvl, List.append_assoc]⟩
set_option maxHeartbeats 4000000 in
set_option maxRecDepth 100000 in
theorem impl_Wait_81_grow (b n c i vb vc : Nat) (cur cv : Array Value) (w : World) (hi : i < n) (hnc : n ≤ c) (hroom : c < n + 1) (hbig : (n + 1) * 16 ≤ 140737488355328)
  (hb : w.heap[b]? = some (.cells cur 36 (0, 0))) (hv : w.heap[vb]? = some (.cells cv 36 (0, 0))) (hcs : cur.size = c * 2) (hcv : 2 ≤ cv.size)
  (h1c : ∀ u ∈ cur.toList.take (n * 2), u.oneCell' = true) (h1v : ∀ u ∈ cv.toList.take 2, u.oneCell' = true) (z : Value) (hz : z = .agg #[.int .i64 0, .int .i64 0])
  (ROW : Array Value) (hROW : ROW = (cur.toList.take (i * 2)).toArray ++ Builtin.zeroCells z.cells (n + 1 - i) ++ Builtin.zeroCells z.cells (grownCap w (n + 1) c 36 - (n + 1))) :
  Calls Try.prog 81 #[.slice (some ⟨b, 0, none⟩) n c, .int .i64 i, .slice (some ⟨vb, 0, none⟩) 1 vc] w fun e w' =>
   e = .returned (.slice (some ⟨w.heap.size, 0, none⟩) (n + 1) (grownCap w (n + 1) c 36)) ∧
   w' = (((w.alloc (.cells ROW 36)).drew.setRow w.heap.size (ROW.toList.take (i * 2) ++ cv.toList.take 2 ++ ROW.toList.drop (i * 2 + 2)).toArray).drew).setRow w.heap.size
    ((ROW.toList.take (i * 2) ++ cv.toList.take 2 ++ ROW.toList.drop (i * 2 + 2)).take ((i + 1) * 2) ++ (cur.toList.take (n * 2)).drop (i * 2) ++ (ROW.toList.take (i * 2) ++ cv.toList.take 2 ++ ROW.toList.drop (i * 2 + 2)).drop ((i + 1) * 2 + (n - i) * 2)).toArray := by
 have hu93 := Try.underlying36
 obtain ⟨i0, hi0, hz0, hzs, hzb⟩ := info_parts info36
 rw [← hz] at hz0
 have hz1 : ¬ ((1 : Int) = 0) := by omega
 have hz2 : ¬ ((i : Int) = (n : Int)) := by omega
 have hz3 : (c : Int) < (n : Int) + 1 := by omega
 have hz3' : (n : Int) + 1 > (c : Int) := by omega
 have hin : i ≤ n := by omega
 have hw1 : IntKind.i64.wrap ((i : Int) + 1) = (i : Int) + 1 := by rw [IntKind.wrap_i64]; omega
 have hw2 : IntKind.i64.wrap ((n : Int) + 1) = (n : Int) + 1 := by rw [IntKind.wrap_i64]; omega
 have hw3 : IntKind.i64.wrap ((n : Int) + 1 - (i : Int)) = (n : Int) + 1 - (i : Int) := by rw [IntKind.wrap_i64]; omega
 have hb1 : (0 : Int) ≤ (i : Int) + 1 := by omega
 have htn : ((i : Int) + 1).toNat = i + 1 := by omega
 have hb3 : (i : Int) ≤ (n : Int) := by omega
 have hb3' : (i : Int) + 1 ≤ (n : Int) + 1 := by omega
 have hci : ¬ (c = i) := by omega
 have hbw : b < w.heap.size := (Array.getElem?_eq_some_iff.1 hb).1
 have hvw : vb < w.heap.size := (Array.getElem?_eq_some_iff.1 hv).1
 have hsz : (Try.prog.info? 36).map (·.size) = some 2 := by rw [hi0]; simp [hzs]
 have hkk : (n : Int) + 1 - (i : Int) = ((n + 1 - i : Nat) : Int) := by omega
 have hik : i + (n + 1 - i) = n + 1 := by omega
 have hdl : ((cur.toList.take (n * 2)).drop (i * 2)).length = (n - i) * 2 := by rw [List.length_drop, List.length_take, Array.length_toList, hcs]; omega
 have hvl : (cv.toList.take 2).length = 2 := by rw [List.length_take, Array.length_toList]; omega
 have htl : (cur.toList.take (i * 2)).length = i * 2 := by rw [List.length_take, Array.length_toList, hcs]; omega
 have hold : (Builtin.firstCells i0.size i (.slice (some ⟨b, 0, none⟩) i c)).run Try.prog w.drew = .ok (cur.toList.take (i * 2)).toArray w.drew := by
  rw [hzs]
  exact run_firstCells_some w.drew 2 i ⟨b, 0, none⟩ i c (cur.toList.take (i * 2)) htl (fun j v hj => by
   rw [Addr.add_lit, Nat.zero_add]
   rw [List.getElem?_take] at hj
   split at hj
   ·show w.drew.cell? ⟨b, j, none⟩ = some v
    have hb' : w.drew.heap[b]? = some (.cells cur 36 (0, 0)) := hb
    simp only [World.cell?, hb']
    rw [← Array.getElem?_toList]; exact hj
   ·cases hj)
 obtain ⟨G, hG⟩ : ∃ G, G = grownCap w (n + 1) c 36 := ⟨_, rfl⟩
 rw [← hG] at hROW ⊢
 have hrz : ∀ ty, (Builtin.append_ #[24, 3] ty #[.slice (some ⟨b, 0, none⟩) i c, .int .i64 ((n : Int) + 1 - (i : Int))]).run Try.prog w =
   .ok (.slice (some ⟨w.heap.size, 0, none⟩) (n + 1) G) (w.drew.alloc (.cells ROW 36)) := fun ty => by
  have h := Go.Lib.run_append_grow_zeros w 24 3 ty 36 i0 z .i64 .i64 Try.underlying24 Try.underlying3 hi0 hz0 (some ⟨b, 0, none⟩) i c (cur.toList.take (i * 2)) hold (n + 1 - i) (by omega) (by omega) (by omega) (by omega) (by rw [hzb]; omega) (by rw [hzb, hik]; exact growslice_fits (by omega) (by omega))
  rw [hik, ← hG, ← hROW] at h
  rw [hkk]
  exact h
 have hGn : n + 1 ≤ G := by rw [hG]; exact grownCap_ge w _ _ _
 have hG63 : G ≤ 9223372036854775807 := by
  have := grownCap_le_maxLen w (n + 1) c 36 (by unfold maxLen; omega)
  rw [← hG] at this
  unfold maxLen at this
  omega
 have hGi : ¬ (G = i) := by omega
 have hGim : ¬ (G = i + 1) := by omega
 have hRl : ROW.size = G * 2 := by
  rw [hROW, hz]
  simp [Builtin.zeroCells, Value.cells, htl]
  omega
 obtain ⟨r1, hr1⟩ : ∃ r1, r1 = ROW.toList.take (i * 2) ++ cv.toList.take 2 ++ ROW.toList.drop (i * 2 + 2) := ⟨_, rfl⟩
 rw [← hr1]
 have hl1 : r1.length = G * 2 := by
  rw [hr1, List.length_append, List.length_append, hvl, List.length_drop, List.length_take, Array.length_toList, hRl]; omega
 have hcpA : ∀ (W : World), W.heap = (w.drew.alloc (.cells ROW 36)).heap → ∀ ty dc, (Builtin.copy_ #[24, 24] ty #[.slice (some ⟨w.heap.size, i * 2, none⟩) (n + 1 - i) dc, .slice (some ⟨vb, 0, none⟩) 1 vc]).run Try.prog W = .ok (goInt (Nat.min 1 (n + 1 - i))) (W.setRow w.heap.size r1.toArray) := fun W hW ty dc => by
  have hWb : W.heap[w.heap.size]? = some (.cells ROW 36 (0, 0)) := by rw [hW]; show (w.heap.push _)[w.heap.size]? = _; simp
  have hWv : W.heap[vb]? = some (.cells cv 36 (0, 0)) := by
   rw [hW]
   show (w.heap.push _)[vb]? = _
   rw [Array.getElem?_push_lt hvw]
   exact (Array.getElem?_eq_getElem hvw).symm.trans hv
  have h := run_copy_rowN W 24 24 ty 36 2 w.heap.size (i * 2) (n + 1 - i) dc ⟨vb, 0, none⟩ 1 vc ROW 36 (cv.toList.take 2) Try.underlying24 hsz hWb (by rw [hvl]; simp only [Nat.min_def]; split <;> omega)
   (fun j v hj => by
    rw [Addr.add_lit]
    rw [List.getElem?_take] at hj
    split at hj
    ·simp only [World.cell?, hWv]
     rw [← Array.getElem?_toList]; simpa using hj
    ·cases hj) (by rw [hvl, hRl]; omega) h1v
  rw [hr1]
  rw [hvl] at h
  exact h
 have hcpB : ∀ (W : World), W.heap = ((w.drew.alloc (.cells ROW 36)).setRow w.heap.size r1.toArray).heap → ∀ ty dc sc, (Builtin.copy_ #[24, 24] ty #[.slice (some ⟨w.heap.size, (i + 1) * 2, none⟩) (n - i) dc, .slice (some ⟨b, i * 2, none⟩) (n - i) sc]).run Try.prog W = .ok (goInt (Nat.min (n - i) (n - i))) (W.setRow w.heap.size (r1.take ((i + 1) * 2) ++ (cur.toList.take (n * 2)).drop (i * 2) ++ r1.drop ((i + 1) * 2 + (n - i) * 2)).toArray) := fun W hW ty dc sc => by
  have hWb : W.heap[w.heap.size]? = some (.cells r1.toArray 36 (0, 0)) := by rw [hW]; exact setRow_heap _ _ ROW r1.toArray 36 (0, 0) (by show (w.heap.push _)[w.heap.size]? = _; simp)
  have hWo : W.heap[b]? = some (.cells cur 36 (0, 0)) := by
   rw [hW]
   simp only [World.setRow]
   rw [Array.getElem?_modify, if_neg (by omega)]
   show (w.heap.push _)[b]? = _
   rw [Array.getElem?_push_lt hbw]
   exact (Array.getElem?_eq_getElem hbw).symm.trans hb
  have h := run_copy_rowN W 24 24 ty 36 2 w.heap.size ((i + 1) * 2) (n - i) dc ⟨b, i * 2, none⟩ (n - i) sc r1.toArray 36 ((cur.toList.take (n * 2)).drop (i * 2)) Try.underlying24 hsz hWb (by rw [hdl]; simp only [Nat.min_def]; split <;> omega)
   (fun j v hj => by
    rw [Addr.add_lit]
    rw [List.getElem?_drop, List.getElem?_take] at hj
    split at hj
    ·simp only [World.cell?, hWo]
     rw [← Array.getElem?_toList]; simpa using hj
    ·cases hj) (by rw [hdl]; simp only [List.size_toArray, hl1]; omega) (fun v hv => h1c v (List.mem_of_mem_drop hv))
  rw [hdl] at h
  exact h
 have mixed : Try.prog.follows Departure.mixedOrders = true := by kernel_rfl
 clear hkk hik hold hROW hRl hr1 hl1 hG
 go_enter Try.func81, Try.ntmps81
 go_wp2_with (first
  | (at_builtin; refine Go.Lib.wpList_append_run _ rfl _ _ _ _ rfl _ _ rfl rfl _ _ (hrz _) ?_)
  | ((with_reducible refine gate_builtin (b := .copy) rfl ?_); refine wpList_copy_runI _ rfl _ _ 24 24 rfl _ _ rfl rfl (hcpA _ (by rfl) _ _) ?_)
  | ((with_reducible refine gate_builtin (b := .copy) rfl ?_); refine wpList_copy_runI _ rfl _ _ 24 24 rfl _ _ rfl rfl (hcpB _ (by rfl) _ _ _) ?_))
 go_region_law_o (refine step_copy_runI rfl _ _ 24 24 rfl (.slice (some ⟨w.heap.size, (i + 1) * 2, none⟩) (n - i) (G - (i + 1))) (.slice (some ⟨b, i * 2, none⟩) (n - i) (c - i)) (by simp [Act.eval, Act.put]) (by simp [Act.eval, Act.put]) (hcpB _ (by rfl) _ _ _) ?_)
 go_wp2
 go_ret
 exact ⟨rfl, by rw [List.append_assoc]⟩
set_option maxHeartbeats 4000000 in
set_option maxRecDepth 100000 in
theorem impl_Wait_81_end (P0_ : Nat → Prop) (u0 : Value) (l0 : List S36) (A2 : Option Addr) (c2 : Nat) (l2 : List S36) (w0 w : World) (hB : Below w0.heap.size w0 w) (ho0 : Kd.R k36 36 w w0.heap.size P0_ u0 l0)
  (hr2 : Kd.C k36 w A2 1 l2) (h2 : l2.length = 1) (hlim : l0.length < 8796093022207) :
  Calls Try.prog 81 #[u0, .int .i64 (l0.length : Int), .slice A2 1 c2] w fun e w' => ∃ v1, e = .returned v1 ∧ Kd.R k36 36 w' w0.heap.size (fun k_ => P0_ k_ ∨ w.heap.size ≤ k_) v1 (l0 ++ l2) ∧ Below w0.heap.size w0 w' ∧ w.grownBy w' u0.ownBlock := by
 have hu93 := Try.underlying36
 obtain ⟨A0, c0, e0⟩ := Kd.R_slice ho0
 subst e0
 have hnc := (Kd.R_reads' ho0).2.1
 have hz1 : ¬ ((1 : Int) = 0) := by omega
 have hin : (l0.length : Int) ≤ (l0.length : Int) := by omega
 have hO : Kd.R k36 36 w w0.heap.size (fun k_ => P0_ k_ ∨ w.heap.size ≤ k_) (.slice A0 l0.length c0) l0 := Kd.R_mono ho0 (fun _ h => .inl h)
 go_enter Try.func81, Try.ntmps81
 go_wp2_with ((with_reducible refine gate_builtin (b := .append) rfl ?_); refine Kd.R_append_rows k36 (w0 := w0) w0.heap.size rfl _ _ 24 36 (.agg #[(.int .i64 0), (.int .i64 0)]) 16 rfl Try.underlying24 info36 rfl (by decide) (by omega) (.slice A0 l0.length c0) l0 l2 A2 1 c2 (fun k_ => P0_ k_ ∨ w.heap.size ≤ k_) (fun _ => False) rfl rfl hO hr2 (fun _ _ h => h) (fun _ h => h.elim) (fun _ h => .inr h) hB hB.size (by omega) ?_; intro v1 w1 hR hb hg hat)
 all_goals (go_ret; exact ⟨_, rfl, hR, hb, by cases A0 <;> exact hg⟩)

theorem impl_Wait_81_rowsize (w : World) (g : Nat) (cs : Array Value) : (w.setRow g cs).heap.size = w.heap.size := by simp only [World.setRow, Array.size_modify]
theorem impl_Wait_81_rowne (w : World) (g : Nat) (cs : Array Value) {k : Nat} (h : k ≠ g) : (w.setRow g cs).heap[k]? = w.heap[k]? := by
 simp only [World.setRow]
 rw [Array.getElem?_modify, if_neg (Ne.symm h)]
theorem impl_Wait_81_rowgrown (w : World) (g : Nat) (cs : Array Value) : w.grownBy (w.drew.setRow g cs) (some g) :=
 ⟨rfl, rfl, rfl, by show w.heap.size ≤ (w.heap.modify _ _).size; rw [Array.size_modify]; exact Nat.le_refl _, fun k hk hne => by
  show (w.drew.setRow g cs).heap[k]? = w.heap[k]?
  simp only [World.setRow]
  rw [Array.getElem?_modify, if_neg (fun h => hne (by rw [h]))]
  rfl⟩
def impl_Wait_81.f (l0 : List S36) (a1 : Int) (l2 : List S36) : Option (List S36) :=
 if 0 ≤ a1 ∧ a1 ≤ (l0.length : Int) ∧ l2.length = 1 ∧ l0.length < 8796093022207 then some (l0.take a1.toNat ++ l2 ++ l0.drop a1.toNat) else none
set_option maxHeartbeats 4000000 in
theorem impl_Wait_81.calls (P0_ : Nat → Prop) (u0 : Value) (l0 : List S36) (a1 : Int) (P2_ : Nat → Prop) (u2 : Value) (l2 : List S36) (r : List S36) (w0 w : World) (hB : Below w0.heap.size w0 w)
  (ho0 : Kd.R k36 36 w w0.heap.size P0_ u0 l0) (ha0 : ∀ k, P0_ k → ¬ P2_ k) (ho2 : Kd.R k36 36 w w0.heap.size P2_ u2 l2) (ha2 : ∀ k, P2_ k → ¬ P0_ k) (h : impl_Wait_81.f l0 a1 l2 = some r) :
  Calls Try.prog 81 #[u0, .int .i64 a1, u2] w fun e w' => ∃ v0_ : Value, e = .returned v0_ ∧ Kd.R k36 36 w' w0.heap.size (fun k_ => ((P0_ k_ ∨ P2_ k_) ∨ w.heap.size ≤ k_)) v0_ r ∧ Below w0.heap.size w0 w' ∧ Kept w w' (fun k_ => P0_ k_ ∨ P2_ k_) := by
 unfold impl_Wait_81.f at h
 split at h
 rotate_left 1
 ·cases h
 rename_i hp
 obtain ⟨p0, p1, p2, p3⟩ := hp
 injection h with h
 subst h
 obtain ⟨i, rfl⟩ := Int.eq_ofNat_of_zero_le p0
 have hE : k36.E = [] := rfl
 have hsz : k36.sz = 2 := rfl
 rw [Int.toNat_natCast]
 rcases Kd.R_open hE ho2 with ⟨_, rfl⟩ | ⟨vb, vc, cv, rfl, hvb, hPv, hgv, hvn, hvc, hvs, hvr, hv1⟩
 ·simp at p2
 have hc2 := (Kd.R_reads' ho2).2.2
 rw [p2] at hc2 ⊢
 rw [p2, hsz] at hvr hv1
 rw [hsz] at hvs
 have hvsz : 2 ≤ cv.size := by omega
 by_cases hin : i = l0.length
 ·subst hin
  refine (impl_Wait_81_end P0_ u0 l0 (some ⟨vb, 0, none⟩) vc l2 w0 w hB ho0 hc2 p2 p3).mono fun e w' hh => ?_
  obtain ⟨v1, rfl, hR, hb, hg⟩ := hh
  refine ⟨v1, rfl, ?_, hb, Kept.of_grown hg (Kept.refl w _) (fun k hk => .inl (.inl (ho0.1 k hk)))⟩
  rw [List.take_length, List.drop_length, List.append_nil]
  exact Kd.R_mono hR (fun k hk => hk.elim (fun h => .inl (.inl h)) .inr)
 have hin' : i < l0.length := by omega
 rcases Kd.R_open hE ho0 with ⟨_, rfl⟩ | ⟨b, c, cur, rfl, hb0, hPb, hgb, hnc, hcm, hcs, hcr, hc1⟩
 ·simp at hin'
 rw [hsz] at hcs hcr hc1
 have hcl : cur.toList.length = c * 2 := by rw [Array.length_toList, hcs]
 have hvb' : vb ≠ b := fun e => ha0 b hPb (e ▸ hPv)
 have hcm' : c ≤ 9223372036854775807 := by unfold maxLen at hcm; omega
 have hrl : (l0.take i ++ l2 ++ l0.drop i).length = l0.length + 1 := by rw [List.length_append, List.length_append, List.length_take, List.length_drop, p2]; omega
 have hreps : ∀ (W : World) (ok' : Nat → Prop), Reps (k36.M W w0.heap.size ok') 2 (l0.take i ++ l2 ++ l0.drop i) ((cur.toList.take (l0.length * 2)).take (i * 2) ++ cv.toList.take 2 ++ (cur.toList.take (l0.length * 2)).drop (i * 2)) := fun W ok' =>
  Kd.reps_append (Kd.reps_append (Kd.reps_take (hcr W ok') (by omega)) (by have := hvr W ok'; simpa using this)) (Kd.reps_drop (hcr W ok'))
 have htk : ∀ rest : List Value, ((cur.toList.take (l0.length * 2)).take (i * 2) ++ cv.toList.take 2 ++ (cur.toList.take (l0.length * 2)).drop (i * 2) ++ rest).take ((l0.length + 1) * 2) = (cur.toList.take (l0.length * 2)).take (i * 2) ++ cv.toList.take 2 ++ (cur.toList.take (l0.length * 2)).drop (i * 2) := fun rest => by
  have hl := (hreps w (fun _ => True)).1
  rw [hrl] at hl
  exact List.take_left' hl
 have hv1' : ∀ u ∈ cv.toList.take 2, u.oneCell' = true := by simpa using hv1
 by_cases hroom : l0.length + 1 ≤ c
 ·refine (impl_Wait_81_shift b l0.length c i vb vc cur cv w hin' hroom hcm' hvb' hgb hgv hcs hvsz hc1 hv1').mono fun e w' hh => ?_
  obtain ⟨rfl, rfl⟩ := hh
  have hg := impl_Wait_81_rowgrown w b ((cur.toList.take (l0.length * 2)).take (i * 2) ++ cv.toList.take 2 ++ (cur.toList.take (l0.length * 2)).drop (i * 2) ++ cur.toList.drop (l0.length * 2 + 2)).toArray
  refine ⟨_, rfl, ?_, pw_below_grown hB (some b) hB.size hg (fun k hk => by injection hk with hk; omega), Kept.of_grown hg (Kept.refl w _) (fun k hk => by injection hk with hk; subst hk; exact .inl (.inl hPb))⟩
  have hR := Kd.R_close (d := k36) (e := 36) (base := w0.heap.size) (ok := fun k_ => ((P0_ k_ ∨ P2_ k_) ∨ w.heap.size ≤ k_)) (xs := l0.take i ++ l2 ++ l0.drop i) (cap := c) hb0 (.inl (.inl hPb))
   (setRow_heap w.drew b cur ((cur.toList.take (l0.length * 2)).take (i * 2) ++ cv.toList.take 2 ++ (cur.toList.take (l0.length * 2)).drop (i * 2) ++ cur.toList.drop (l0.length * 2 + 2)).toArray 36 (0, 0) hgb)
   (by rw [hrl]; exact hroom) hcm (by
    have hl := (hreps w (fun _ => True)).1
    rw [hrl] at hl
    rw [hsz, List.size_toArray, List.length_append, hl, List.length_drop, hcl]; omega) (by rw [hsz, hrl]; show Reps _ _ _ (List.take _ _); rw [htk]; exact hreps _ _)
  rw [hrl] at hR
  exact hR
 ·have hG := grownCap_ge w (l0.length + 1) c 36
  have hGm := grownCap_le_maxLen w (l0.length + 1) c 36 (by unfold maxLen; omega)
  obtain ⟨ROW, hROW⟩ : ∃ ROW : Array Value, ROW = (cur.toList.take (i * 2)).toArray ++ Builtin.zeroCells (Value.agg #[.int .i64 0, .int .i64 0]).cells (l0.length + 1 - i) ++ Builtin.zeroCells (Value.agg #[.int .i64 0, .int .i64 0]).cells (grownCap w (l0.length + 1) c 36 - (l0.length + 1)) := ⟨_, rfl⟩
  have htl : (cur.toList.take (i * 2)).length = i * 2 := by rw [List.length_take, hcl]; omega
  have hRl : ROW.toList.length = grownCap w (l0.length + 1) c 36 * 2 := by
   rw [Array.length_toList, hROW]
   simp [Builtin.zeroCells, Value.cells, htl]
   omega
  have hRt : ROW.toList.take (i * 2) = cur.toList.take (i * 2) := by
   rw [hROW, Array.toList_append, Array.toList_append, List.append_assoc]
   exact List.take_left' htl
  have hvl : (cv.toList.take 2).length = 2 := by rw [List.length_take, Array.length_toList]; omega
  have hfin := grow_cells ROW.toList cur.toList (cv.toList.take 2) (i * 2) 2 (l0.length * 2) (by omega) (by rw [hRl]; omega) (by rw [hcl]; omega) hvl hRt
  rw [hvl, show ((cur.toList.take (l0.length * 2)).drop (i * 2)).length = (l0.length - i) * 2 from by rw [List.length_drop, List.length_take, hcl]; omega] at hfin
  refine (impl_Wait_81_grow b l0.length c i vb vc cur cv w hin' hnc (by omega) (by omega) hgb hgv hcs hvsz hc1 hv1' _ rfl ROW hROW).mono fun e w' hh => ?_
  obtain ⟨rfl, rfl⟩ := hh
  rw [show (i + 1) * 2 = i * 2 + 2 from by omega, hfin]
  obtain ⟨NC, hNC⟩ : ∃ NC : List Value, NC = (cur.toList.take (l0.length * 2)).take (i * 2) ++ cv.toList.take 2 ++ (cur.toList.take (l0.length * 2)).drop (i * 2) ++ ROW.toList.drop (l0.length * 2 + 2) := ⟨_, rfl⟩
  rw [← hNC]
  have hb : Below w.heap.size w (((w.alloc (.cells ROW 36)).drew.setRow w.heap.size (ROW.toList.take (i * 2) ++ cv.toList.take 2 ++ ROW.toList.drop (i * 2 + 2)).toArray).drew.setRow w.heap.size NC.toArray) := by
   refine ⟨rfl, rfl, rfl, ?_, fun k hk => ?_⟩
   ·rw [impl_Wait_81_rowsize]
    show w.heap.size ≤ ((w.alloc (.cells ROW 36)).drew.setRow w.heap.size _).heap.size
    rw [impl_Wait_81_rowsize]
    show w.heap.size ≤ (w.heap.push _).size
    rw [Array.size_push]; omega
   ·rw [impl_Wait_81_rowne _ _ _ (by omega)]
    show ((w.alloc (.cells ROW 36)).drew.setRow w.heap.size _).heap[k]? = w.heap[k]?
    rw [impl_Wait_81_rowne _ _ _ (by omega)]
    show (w.heap.push _)[k]? = w.heap[k]?
    rw [Array.getElem?_push_lt hk]
    exact (Array.getElem?_eq_getElem hk).symm
  refine ⟨_, rfl, ?_, below_then hB hB.size hb, Kept.of_below hb _⟩
  have hR := Kd.R_close (d := k36) (e := 36) (base := w0.heap.size) (ok := fun k_ => ((P0_ k_ ∨ P2_ k_) ∨ w.heap.size ≤ k_)) (xs := l0.take i ++ l2 ++ l0.drop i) (cap := grownCap w (l0.length + 1) c 36) (g := w.heap.size) hB.size (.inr (Nat.le_refl _))
   (setRow_heap ((w.alloc (.cells ROW 36)).drew.setRow w.heap.size (ROW.toList.take (i * 2) ++ cv.toList.take 2 ++ ROW.toList.drop (i * 2 + 2)).toArray).drew w.heap.size _ NC.toArray 36 (0, 0)
    (setRow_heap (w.alloc (.cells ROW 36)).drew w.heap.size ROW _ 36 (0, 0) (by show (w.heap.push _)[w.heap.size]? = _; simp)))
   (by rw [hrl]; exact hG) hGm (by
    have hl := (hreps w (fun _ => True)).1
    rw [hrl] at hl
    rw [hsz, List.size_toArray, hNC, List.length_append, hl, List.length_drop, hRl]; omega) (by rw [hsz, hrl]; show Reps _ _ _ (List.take _ NC); rw [hNC, htk]; exact hreps _ _)
  rw [hrl] at hR
  exact hR

end

end Go.Proofs.Ytakpkmlbklahhaa.PFnWaits
