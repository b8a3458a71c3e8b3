-- Printed by a program of mine (wip/myprint.py), which runs the printer of the kit with contracts of mine beside it.
import Derived.Test.YtpiaeinfneoioaaPFnIndexesx0
import Derived.Test.YtpiaeinfneoioaaPFnIndexesx2
import Derived.Test.YtpiaeinfneoioaaPFnIndexesx3
import Derived.Test.YtpiaeinfneoioaaPFnIndexesx4
import Derived.Test.YtpiaeinfneoioaaPFnIndexesx7
namespace Go.Proofs.Ytpiaeinfneoioaa.PFnIndexes
open Go.RowKit Go.Proofs.YtpiaeinfneoioaaW.PrintWords Go.Proofs.YtpiaeinfneoioaaW.PrintLast Go.Proofs.YtpiaeinfneoioaaW.PrintMore
attribute [local go_sem] max2_int min2_int max_two min_two max_three min_three max_four min_four   -- for this text's walks alone
set_option linter.unusedVariables false
set_option linter.unusedSimpArgs false

/-! ### spec_ScanIsFresh: function 86 -/
def spec_ScanIsFresh.j0 : Nat → List (S77) → List (S77) → Int → Int → Bool → Option (Bool)
 | 0, _, _, _, _, _ => none
 | k + 1, x0, x1, x2, x3, x26 => if x26 = true then (some false) else ((spec_NodesFor.f k x0 x2 x3).bind fun t349 => ((spec_l16Newest.f k t349).bind fun t352 => ((spec_l16Newest.f k x1).bind fun t353 => (some (decide (t352 ≤ t353))))))
def spec_ScanIsFresh.f (k : Nat) (l0 : List (S77)) (l1 : List (S77)) (a2 : Int) (a3 : Int) : Option (Bool) := (spec_IsIndex.f k l0).bind fun t346 => (if t346 = true then (if a2 > a3 then (spec_ScanIsFresh.j0 k l0 l1 a2 a3 true) else ((spec_l1In.f a2 0 5).bind fun t347 => (if t347 = true then ((spec_l1In.f a3 0 5).bind fun t348 => (spec_ScanIsFresh.j0 k l0 l1 a2 a3 (!t348))) else (spec_ScanIsFresh.j0 k l0 l1 a2 a3 true)))) else (spec_ScanIsFresh.j0 k l0 l1 a2 a3 true))
theorem spec_ScanIsFresh.mono_l : ∀ k, (∀ y0 y1 y2 y3 y4, LeO (spec_ScanIsFresh.j0 k y0 y1 y2 y3 y4) (spec_ScanIsFresh.j0 (k + 1) y0 y1 y2 y3 y4))
 | 0 => fun _ _ _ _ _ r h => by simp [spec_ScanIsFresh.j0] at h
 | k + 1 => by
  have ih0 := spec_ScanIsFresh.mono_l k
  ·intro y0 y1 y2 y3 y4
   unfold spec_ScanIsFresh.j0
   repeat' first
   | (with_reducible exact ih0 _ _ _ _ _)
   | (with_reducible exact spec_IsIndex.mono _ _)
   | (with_reducible exact spec_NodesFor.mono _ _ _ _)
   | (with_reducible exact spec_l16Newest.mono _ _)
   | (with_reducible exact LeO.refl _)
   | (with_reducible exact LeO.none _)
   | (with_reducible refine LeO.ite ?_ ?_)
   | (with_reducible refine LeO.bind ?_ (fun _ => ?_))
   | exact ih0 _ _ _ _ _
   | exact spec_IsIndex.mono _ _
   | exact spec_NodesFor.mono _ _ _ _
   | exact spec_l16Newest.mono _ _
   | exact LeO.none _
   | refine LeO.ite ?_ ?_
   | refine LeO.bind ?_ (fun _ => ?_)
theorem spec_ScanIsFresh.mono : ∀ a0 a1 a2 a3 k, LeO (spec_ScanIsFresh.f k a0 a1 a2 a3) (spec_ScanIsFresh.f (k + 1) a0 a1 a2 a3) := by
 intro a0 a1 a2 a3 k
 have ih0 := spec_ScanIsFresh.mono_l k
 unfold spec_ScanIsFresh.f
 repeat' first
   | (with_reducible exact ih0 _ _ _ _ _)
   | (with_reducible exact spec_IsIndex.mono _ _)
   | (with_reducible exact spec_NodesFor.mono _ _ _ _)
   | (with_reducible exact spec_l16Newest.mono _ _)
   | (with_reducible exact LeO.refl _)
   | (with_reducible exact LeO.none _)
   | (with_reducible refine LeO.ite ?_ ?_)
   | (with_reducible refine LeO.bind ?_ (fun _ => ?_))
   | exact ih0 _ _ _ _ _
   | exact spec_IsIndex.mono _ _
   | exact spec_NodesFor.mono _ _ _ _
   | exact spec_l16Newest.mono _ _
   | exact LeO.none _
   | refine LeO.ite ?_ ?_
   | refine LeO.bind ?_ (fun _ => ?_)
set_option maxHeartbeats 8000000 in
set_option maxRecDepth 100000 in
theorem spec_ScanIsFresh.calls (k : Nat) (A0 : Option Addr) (c0 : Nat) (l0 : List (S77)) (A1 : Option Addr) (c1 : Nat) (l1 : List (S77)) (a2 : Int) (a3 : Int) (r : Bool) (w : World) (hr0 : Kd.C k77 w A0 l0.length l0) (hc0 : l0.length ≤ c0) (hr1 : Kd.C k77 w A1 l1.length l1) (hc1 : l1.length ≤ c1) (h : spec_ScanIsFresh.f k l0 l1 a2 a3 = some r) :
  Calls Try.prog 86 #[.slice A0 l0.length c0, .slice A1 l1.length c1, .int .i64 a2, .int .i64 a3] w fun e w' => e = .returned (.bool r) ∧ Below w.heap.size w w' := by
 have HR0 := AM_ hr0
 have HC0 := AM_ hc0
 clear hr0 hc0
 have HR1 := AM_ hr1
 have HC1 := AM_ hc1
 clear hr1 hc1
 have HB := AM_ (Below.refl w.heap.size w)
 have H : ((spec_IsIndex.f k l0).bind fun t346 => (if t346 = true then (if a2 > a3 then (spec_ScanIsFresh.j0 k l0 l1 a2 a3 true) else ((spec_l1In.f a2 0 5).bind fun t347 => (if t347 = true then ((spec_l1In.f a3 0 5).bind fun t348 => (spec_ScanIsFresh.j0 k l0 l1 a2 a3 (!t348))) else (spec_ScanIsFresh.j0 k l0 l1 a2 a3 true)))) else (spec_ScanIsFresh.j0 k l0 l1 a2 a3 true))) = some r := h
 clear h
 have HC5 := AM_ H
 clear H
 go_enter Try.func86, Try.ntmps86
 go_upto_region 1 with (fail)
 go_cut [26] (fun v26 wc => ∃ (kq : Nat) (x26_4 : Bool), v26 = .bool x26_4 ∧ Aside0 (spec_ScanIsFresh.j0 kq l0 l1 a2 a3 x26_4 = some r) ∧ Aside0 (kq ≤ k) ∧ Aside0 (Below w.heap.size w wc))
 case first =>
  have H := HC5.out
  clear HC5
  replace H := Option.bind_eq_some_iff.mp H
  obtain ⟨t346, A60, H⟩ := H
  replace H : (if t346 = true then (if a2 > a3 then (spec_ScanIsFresh.j0 k l0 l1 a2 a3 true) else ((spec_l1In.f a2 0 5).bind fun t347 => (if t347 = true then ((spec_l1In.f a3 0 5).bind fun t348 => (spec_ScanIsFresh.j0 k l0 l1 a2 a3 (!t348))) else (spec_ScanIsFresh.j0 k l0 l1 a2 a3 true)))) else (spec_ScanIsFresh.j0 k l0 l1 a2 a3 true)) = some r := H
  have A6 := AM_ A60
  clear A60
  by_cases c7 : t346 = true
  ·subst c7
   have H1 : (if a2 > a3 then (spec_ScanIsFresh.j0 k l0 l1 a2 a3 true) else ((spec_l1In.f a2 0 5).bind fun t347 => (if t347 = true then ((spec_l1In.f a3 0 5).bind fun t348 => (spec_ScanIsFresh.j0 k l0 l1 a2 a3 (!t348))) else (spec_ScanIsFresh.j0 k l0 l1 a2 a3 true)))) = some r := by rw [if_pos rfl] at H; exact H
   clear H
   have H := H1
   clear H1
   by_cases c8 : a2 > a3
   ·rw [if_pos c8] at H
    have c8b0 : decide (a3 < a2) = true := decide_eq_true c8
    clear c8
    (first | rw [c8b0] | (simp only [i64_w, i32_w]; rw [c8b0]) | skip)
    have H' := AM_ H
    clear H
    go_wp2_with (first | ((with_reducible refine gate_callee (f := 83) rfl ?_); refine goesL_ (some 10) rfl rfl Try.func83 (by kernel_rfl) rfl #[.slice A0 l0.length c0] rfl (by (try simp only [List.map_toArray, List.map_cons, List.map_nil]); first | done | rfl | (simp only [List.length_drop, List.length_take]; rfl)) ?_; (with_reducible refine (spec_IsIndex.calls k _ _ l0 true _ ?side1 ?side2 A6.out).mono ?_); (case side1 => exact Kd.C_below (Kd.C_below HR0.out HB.out) (BL (Below.refl _ _) rfl rfl rfl rfl)); (case side2 => exact HC0.out); rintro e w9 ⟨rfl, hb⟩; refine ⟨_, rfl, ?_⟩; have n0_ := AM_ (below_step (by exact BL HB.out rfl rfl rfl rfl) hb); clear HB; have HB := n0_; clear n0_; (try clear hb); (try clear hb2); (try clear hk); (try clear hi)))
    go_meet
    case rel => exact ⟨_, (true), (by first | rfl | (simp; done) | (simp [*]; done)), H', ⟨by first | omega | exact Nat.le_refl _⟩, ⟨by exact BL HB.out rfl rfl rfl rfl⟩⟩
   ·rw [if_neg c8] at H
    have c8b0 : decide (a3 < a2) = false := decide_eq_false c8
    clear c8
    (first | rw [c8b0] | (simp only [i64_w, i32_w]; rw [c8b0]) | skip)
    replace H := Option.bind_eq_some_iff.mp H
    obtain ⟨t347, A100, H⟩ := H
    replace H : (if t347 = true then ((spec_l1In.f a3 0 5).bind fun t348 => (spec_ScanIsFresh.j0 k l0 l1 a2 a3 (!t348))) else (spec_ScanIsFresh.j0 k l0 l1 a2 a3 true)) = some r := H
    have A10 := AM_ A100
    clear A100
    by_cases c11 : t347 = true
    ·subst c11
     have H1 : ((spec_l1In.f a3 0 5).bind fun t348 => (spec_ScanIsFresh.j0 k l0 l1 a2 a3 (!t348))) = some r := by rw [if_pos rfl] at H; exact H
     clear H
     have H := H1
     clear H1
     replace H := Option.bind_eq_some_iff.mp H
     obtain ⟨t348, A120, H⟩ := H
     replace H : (spec_ScanIsFresh.j0 k l0 l1 a2 a3 (!t348)) = some r := H
     have A12 := AM_ A120
     clear A120
     have H' := AM_ H
     clear H
     go_wp2_with (first | ((with_reducible refine gate_callee (f := 83) rfl ?_); refine goesL_ (some 10) rfl rfl Try.func83 (by kernel_rfl) rfl #[.slice A0 l0.length c0] rfl (by (try simp only [List.map_toArray, List.map_cons, List.map_nil]); first | done | rfl | (simp only [List.length_drop, List.length_take]; rfl)) ?_; (with_reducible refine (spec_IsIndex.calls k _ _ l0 true _ ?side1 ?side2 A6.out).mono ?_); (case side1 => exact Kd.C_below (Kd.C_below HR0.out HB.out) (BL (Below.refl _ _) rfl rfl rfl rfl)); (case side2 => exact HC0.out); rintro e w13 ⟨rfl, hb⟩; refine ⟨_, rfl, ?_⟩; have n0_ := AM_ (below_step (by exact BL HB.out rfl rfl rfl rfl) hb); clear HB; have HB := n0_; clear n0_; (try clear hb); (try clear hb2); (try clear hk); (try clear hi)) | (go_at_call 96; (with_reducible refine (spec_l1In.calls a2 0 5 true _ A10.out).mono ?_); rintro e w' ⟨rfl, ⟨nd, rfl⟩⟩) | (go_at_call 96; (with_reducible refine (spec_l1In.calls a3 0 5 t348 _ A12.out).mono ?_); rintro e w' ⟨rfl, ⟨nd, rfl⟩⟩))
     go_meet
     case rel => exact ⟨_, (!t348), (by first | rfl | (simp; done) | (simp [*]; done)), H', ⟨by first | omega | exact Nat.le_refl _⟩, ⟨by exact BL HB.out rfl rfl rfl rfl⟩⟩
    ·replace c11 := Bool.eq_false_iff.mpr c11
     subst c11
     have H1 : (spec_ScanIsFresh.j0 k l0 l1 a2 a3 true) = some r := by rw [if_neg (show ¬ (false = true) by decide)] at H; exact H
     clear H
     have H := H1
     clear H1
     have H' := AM_ H
     clear H
     go_wp2_with (first | ((with_reducible refine gate_callee (f := 83) rfl ?_); refine goesL_ (some 10) rfl rfl Try.func83 (by kernel_rfl) rfl #[.slice A0 l0.length c0] rfl (by (try simp only [List.map_toArray, List.map_cons, List.map_nil]); first | done | rfl | (simp only [List.length_drop, List.length_take]; rfl)) ?_; (with_reducible refine (spec_IsIndex.calls k _ _ l0 true _ ?side1 ?side2 A6.out).mono ?_); (case side1 => exact Kd.C_below (Kd.C_below HR0.out HB.out) (BL (Below.refl _ _) rfl rfl rfl rfl)); (case side2 => exact HC0.out); rintro e w14 ⟨rfl, hb⟩; refine ⟨_, rfl, ?_⟩; have n0_ := AM_ (below_step (by exact BL HB.out rfl rfl rfl rfl) hb); clear HB; have HB := n0_; clear n0_; (try clear hb); (try clear hb2); (try clear hk); (try clear hi)) | (go_at_call 96; (with_reducible refine (spec_l1In.calls a2 0 5 false _ A10.out).mono ?_); rintro e w' ⟨rfl, ⟨nd, rfl⟩⟩))
     go_meet
     case rel => exact ⟨_, (true), (by first | rfl | (simp; done) | (simp [*]; done)), H', ⟨by first | omega | exact Nat.le_refl _⟩, ⟨by exact BL HB.out rfl rfl rfl rfl⟩⟩
  ·replace c7 := Bool.eq_false_iff.mpr c7
   subst c7
   have H1 : (spec_ScanIsFresh.j0 k l0 l1 a2 a3 true) = some r := by rw [if_neg (show ¬ (false = true) by decide)] at H; exact H
   clear H
   have H := H1
   clear H1
   have H' := AM_ H
   clear H
   go_wp2_with (first | ((with_reducible refine gate_callee (f := 83) rfl ?_); refine goesL_ (some 10) rfl rfl Try.func83 (by kernel_rfl) rfl #[.slice A0 l0.length c0] rfl (by (try simp only [List.map_toArray, List.map_cons, List.map_nil]); first | done | rfl | (simp only [List.length_drop, List.length_take]; rfl)) ?_; (with_reducible refine (spec_IsIndex.calls k _ _ l0 false _ ?side1 ?side2 A6.out).mono ?_); (case side1 => exact Kd.C_below (Kd.C_below HR0.out HB.out) (BL (Below.refl _ _) rfl rfl rfl rfl)); (case side2 => exact HC0.out); rintro e w15 ⟨rfl, hb⟩; refine ⟨_, rfl, ?_⟩; have n0_ := AM_ (below_step (by exact BL HB.out rfl rfl rfl rfl) hb); clear HB; have HB := n0_; clear n0_; (try clear hb); (try clear hb2); (try clear hk); (try clear hi)))
   go_meet
   case rel => exact ⟨_, (true), (by first | rfl | (simp; done) | (simp [*]; done)), H', ⟨by first | omega | exact Nat.le_refl _⟩, ⟨by exact BL HB.out rfl rfl rfl rfl⟩⟩
 case rest =>
  clear HC5
  try clear c1
  try clear p2
  try clear c7
  try clear c8
  try clear c8b0
  try clear c11
  obtain ⟨kq, x26_4, rfl, HA, HJ4, HB⟩ := hcut
  cases kq with
  | zero => exact absurd HA.out (by simp [spec_ScanIsFresh.j0])
  | succ kj4 =>
   have H := HA.out
   clear HA
   simp only [spec_ScanIsFresh.j0] at H
   by_cases c16 : x26_4 = true
   ·subst c16
    have H1 : (some false) = some r := by rw [if_pos rfl] at H; exact H
    clear H
    have H := H1
    clear H1
    obtain rfl := Option.some.inj H
    go_wp2
    go_ret
    exact ⟨by first | rfl | (simp [errW_none, errW_some] <;> rfl) | (simp [*, errW_none, errW_some] <;> rfl), by exact BL HB.out rfl rfl rfl rfl⟩
   ·replace c16 := Bool.eq_false_iff.mpr c16
    subst c16
    have H1 : ((spec_NodesFor.f kj4 l0 a2 a3).bind fun t349 => ((spec_l16Newest.f kj4 t349).bind fun t352 => ((spec_l16Newest.f kj4 l1).bind fun t353 => (some (decide (t352 ≤ t353)))))) = some r := by rw [if_neg (show ¬ (false = true) by decide)] at H; exact H
    clear H
    have H := H1
    clear H1
    replace H := Option.bind_eq_some_iff.mp H
    obtain ⟨t349, A170, H⟩ := H
    replace H : ((spec_l16Newest.f kj4 t349).bind fun t352 => ((spec_l16Newest.f kj4 l1).bind fun t353 => (some (decide (t352 ≤ t353))))) = some r := H
    have A17 := AM_ A170
    clear A170
    replace H := Option.bind_eq_some_iff.mp H
    obtain ⟨t352, A180, H⟩ := H
    replace H : ((spec_l16Newest.f kj4 l1).bind fun t353 => (some (decide (t352 ≤ t353)))) = some r := H
    have A18 := AM_ A180
    clear A180
    replace H := Option.bind_eq_some_iff.mp H
    obtain ⟨t353, A190, H⟩ := H
    replace H : (some (decide (t352 ≤ t353))) = some r := H
    have A19 := AM_ A190
    clear A190
    obtain rfl := Option.some.inj H
    go_wp2_with (first | ((with_reducible refine gate_callee (f := 87) rfl ?_); refine goesL_ (some 30) rfl rfl Try.func87 (by kernel_rfl) rfl #[.slice A0 l0.length c0, .int .i64 a2, .int .i64 a3] rfl (by (try simp only [List.map_toArray, List.map_cons, List.map_nil]); first | done | rfl | (simp only [List.length_drop, List.length_take]; rfl)) ?_; (with_reducible refine (spec_NodesFor.calls kj4 _ _ l0 a2 a3 t349 _ ?side1 ?side2 A17.out).mono ?_); (case side1 => exact Kd.C_below (Kd.C_below HR0.out HB.out) (BL (Below.refl _ _) rfl rfl rfl rfl)); (case side2 => exact HC0.out); rintro e w20 ⟨v350, rfl, ho0, hb⟩; refine ⟨_, rfl, ?_⟩; have n0_ := AM_ (Kd.R_lower ho0 (below_size (by exact BL HB.out rfl rfl rfl rfl))); have n1_ := AM_ (below_step (by exact BL HB.out rfl rfl rfl rfl) hb); clear HB; have HO351 := n0_; have HB := n1_; clear n0_ n1_; (try clear hb); (try clear hb2); (try clear hk); (try clear hi); (try clear ho0); obtain ⟨Ao21, co21, eo21⟩ := Kd.R_slice HO351.out; subst eo21) | ((with_reducible refine gate_callee (f := 163) rfl ?_); refine goesL_ (some 31) rfl rfl Try.func163 (by kernel_rfl) rfl #[.slice Ao21 t349.length co21] rfl (by (try simp only [List.map_toArray, List.map_cons, List.map_nil]); first | done | rfl | (simp only [List.length_drop, List.length_take]; rfl)) ?_; (with_reducible refine (spec_l16Newest.calls kj4 _ _ t349 t352 _ ?side1 ?side2 A18.out).mono ?_); (case side1 => exact Kd.C_below (Kd.R_reads' HO351.out).2.2 (BL (Below.refl _ _) rfl rfl rfl rfl)); (case side2 => exact (Kd.R_reads' HO351.out).2.1); rintro e w22 ⟨rfl, hb⟩; refine ⟨_, rfl, ?_⟩; have n0_ := AM_ (Kd.R_below (by exact RL HO351.out rfl) hb); have n1_ := AM_ (below_step (by exact BL HB.out rfl rfl rfl rfl) hb); clear HO351; clear HB; have HO351 := n0_; have HB := n1_; clear n0_ n1_; (try clear hb); (try clear hb2); (try clear hk); (try clear hi)) | ((with_reducible refine gate_callee (f := 163) rfl ?_); refine goesL_ (some 33) rfl rfl Try.func163 (by kernel_rfl) rfl #[.slice A1 l1.length c1] rfl (by (try simp only [List.map_toArray, List.map_cons, List.map_nil]); first | done | rfl | (simp only [List.length_drop, List.length_take]; rfl)) ?_; (with_reducible refine (spec_l16Newest.calls kj4 _ _ l1 t353 _ ?side1 ?side2 A19.out).mono ?_); (case side1 => exact Kd.C_below (Kd.C_below HR1.out HB.out) (BL (Below.refl _ _) rfl rfl rfl rfl)); (case side2 => exact HC1.out); rintro e w23 ⟨rfl, hb⟩; refine ⟨_, rfl, ?_⟩; have n0_ := AM_ (Kd.R_below (by exact RL HO351.out rfl) hb); have n1_ := AM_ (below_step (by exact BL HB.out rfl rfl rfl rfl) hb); clear HO351; clear HB; have HO351 := n0_; have HB := n1_; clear n0_ n1_; (try clear hb); (try clear hb2); (try clear hk); (try clear hi)))
    go_ret
    exact ⟨by first | rfl | (simp [errW_none, errW_some] <;> rfl) | (simp [*, errW_none, errW_some] <;> rfl), by exact BL HB.out rfl rfl rfl rfl⟩

/-! ### impl_MarkIndex: function 88 -/
mutual
def impl_MarkIndex.j0 : Nat → Int → Int → List (S77) → Bool → Option ((List (S77)))
 | 0, _, _, _, _ => none
 | k + 1, x1, x2, x7, x24 => if x24 = true then (some x7) else (impl_MarkIndex.l0 k x1 x2 x7 (x7.length : Int) 0)
def impl_MarkIndex.l0 : Nat → Int → Int → List (S77) → Int → Int → Option ((List (S77)))
 | 0, _, _, _, _, _ => none
 | k + 1, x1, x2, x7, x27, x28 => if x28 < x27 then (if 0 ≤ x28 then (if x28 < (x7.length : Int) then ((impl_in.f x1 ((rd_T77 x7 x28).f0) ((rd_T77 x7 x28).f1)).bind fun t362 => (if t362 = true then (impl_MarkIndex.l0 k x1 x2 (x7.set (x28 : Int).toNat (⟨(rd_T77 x7 x28).f0, (rd_T77 x7 x28).f1, mx ((rd_T77 x7 x28).f2) x2⟩ : S77)) x27 (wrap64 (x28 + 1))) else (impl_MarkIndex.l0 k x1 x2 x7 x27 (wrap64 (x28 + 1))))) else (none)) else (none)) else (some x7)
end
def impl_MarkIndex.f (k : Nat) (l0 : List (S77)) (a1 : Int) (a2 : Int) : Option ((List (S77))) := (impl_IndexNode_127.f l0).bind fun t354 => ((impl_IsIndex.f k l0).bind fun t357 => (if t357 = true then ((impl_isKey.f a1).bind fun t358 => (if t358 = true then ((impl_in.f a2 0 999).bind fun t359 => (impl_MarkIndex.j0 k a1 a2 t354 (!t359))) else (impl_MarkIndex.j0 k a1 a2 t354 true))) else (impl_MarkIndex.j0 k a1 a2 t354 true)))
theorem impl_MarkIndex.mono_l : ∀ k, (∀ y0 y1 y2 y3, LeO (impl_MarkIndex.j0 k y0 y1 y2 y3) (impl_MarkIndex.j0 (k + 1) y0 y1 y2 y3)) ∧ (∀ y0 y1 y2 y3 y4, LeO (impl_MarkIndex.l0 k y0 y1 y2 y3 y4) (impl_MarkIndex.l0 (k + 1) y0 y1 y2 y3 y4))
 | 0 => ⟨fun _ _ _ _ r h => by simp [impl_MarkIndex.j0] at h, fun _ _ _ _ _ r h => by simp [impl_MarkIndex.l0] at h⟩
 | k + 1 => by
  obtain ⟨ih0, ih1⟩ := impl_MarkIndex.mono_l k
  refine ⟨?_, ?_⟩
  ·intro y0 y1 y2 y3
   unfold impl_MarkIndex.j0
   repeat' first
   | (with_reducible exact ih0 _ _ _ _)
   | (with_reducible exact ih1 _ _ _ _ _)
   | (with_reducible exact impl_IsIndex.mono _ _)
   | (with_reducible exact LeO.refl _)
   | (with_reducible exact LeO.none _)
   | (with_reducible refine LeO.ite ?_ ?_)
   | (with_reducible refine LeO.bind ?_ (fun _ => ?_))
   | exact ih0 _ _ _ _
   | exact ih1 _ _ _ _ _
   | exact impl_IsIndex.mono _ _
   | exact LeO.none _
   | refine LeO.ite ?_ ?_
   | refine LeO.bind ?_ (fun _ => ?_)
  ·intro y0 y1 y2 y3 y4
   unfold impl_MarkIndex.l0
   repeat' first
   | (with_reducible exact ih0 _ _ _ _)
   | (with_reducible exact ih1 _ _ _ _ _)
   | (with_reducible exact impl_IsIndex.mono _ _)
   | (with_reducible exact LeO.refl _)
   | (with_reducible exact LeO.none _)
   | (with_reducible refine LeO.ite ?_ ?_)
   | (with_reducible refine LeO.bind ?_ (fun _ => ?_))
   | exact ih0 _ _ _ _
   | exact ih1 _ _ _ _ _
   | exact impl_IsIndex.mono _ _
   | exact LeO.none _
   | refine LeO.ite ?_ ?_
   | refine LeO.bind ?_ (fun _ => ?_)
theorem impl_MarkIndex.mono : ∀ a0 a1 a2 k, LeO (impl_MarkIndex.f k a0 a1 a2) (impl_MarkIndex.f (k + 1) a0 a1 a2) := by
 intro a0 a1 a2 k
 obtain ⟨ih0, ih1⟩ := impl_MarkIndex.mono_l k
 unfold impl_MarkIndex.f
 repeat' first
   | (with_reducible exact ih0 _ _ _ _)
   | (with_reducible exact ih1 _ _ _ _ _)
   | (with_reducible exact impl_IsIndex.mono _ _)
   | (with_reducible exact LeO.refl _)
   | (with_reducible exact LeO.none _)
   | (with_reducible refine LeO.ite ?_ ?_)
   | (with_reducible refine LeO.bind ?_ (fun _ => ?_))
   | exact ih0 _ _ _ _
   | exact ih1 _ _ _ _ _
   | exact impl_IsIndex.mono _ _
   | exact LeO.none _
   | refine LeO.ite ?_ ?_
   | refine LeO.bind ?_ (fun _ => ?_)
set_option maxHeartbeats 8000000 in
set_option maxRecDepth 100000 in
theorem impl_MarkIndex.calls (k : Nat) (A0 : Option Addr) (c0 : Nat) (l0 : List (S77)) (a1 : Int) (a2 : Int) (r : List (S77)) (w : World) (hr0 : Kd.C k77 w A0 l0.length l0) (hc0 : l0.length ≤ c0) (h : impl_MarkIndex.f k l0 a1 a2 = some r) :
  Calls Try.prog 88 #[.slice A0 l0.length c0, .int .i64 a1, .int .i64 a2] w fun e w' => ∃ v0_ : Value, e = .returned (v0_) ∧ Kd.R k77 77 w' w.heap.size (fun _ => True) v0_ r ∧ Below w.heap.size w w' := by
 have hu77 := Try.underlying77
 have HR0 := AM_ hr0
 have HC0 := AM_ hc0
 clear hr0 hc0
 have HB := AM_ (Below.refl w.heap.size w)
 have H : ((impl_IndexNode_127.f l0).bind fun t354 => ((impl_IsIndex.f k l0).bind fun t357 => (if t357 = true then ((impl_isKey.f a1).bind fun t358 => (if t358 = true then ((impl_in.f a2 0 999).bind fun t359 => (impl_MarkIndex.j0 k a1 a2 t354 (!t359))) else (impl_MarkIndex.j0 k a1 a2 t354 true))) else (impl_MarkIndex.j0 k a1 a2 t354 true)))) = some r := h
 clear h
 replace H := Option.bind_eq_some_iff.mp H
 obtain ⟨t354, A40, H⟩ := H
 replace H : ((impl_IsIndex.f k l0).bind fun t357 => (if t357 = true then ((impl_isKey.f a1).bind fun t358 => (if t358 = true then ((impl_in.f a2 0 999).bind fun t359 => (impl_MarkIndex.j0 k a1 a2 t354 (!t359))) else (impl_MarkIndex.j0 k a1 a2 t354 true))) else (impl_MarkIndex.j0 k a1 a2 t354 true))) = some r := H
 have A4 := AM_ A40
 clear A40
 have HC5 := AM_ H
 clear H
 go_enter Try.func88, Try.ntmps88
 go_upto_region 2 with (first | ((with_reducible refine gate_callee (f := 127) rfl ?_); refine goesL_ (some 11) rfl rfl Try.func127 (by kernel_rfl) rfl #[.slice A0 l0.length c0] rfl (by (try simp only [List.map_toArray, List.map_cons, List.map_nil]); first | done | rfl | (simp only [List.length_drop, List.length_take]; rfl)) ?_; (with_reducible refine (impl_IndexNode_127.calls _ _ l0 t354 _ ?side1 ?side2 A4.out).mono ?_); (case side1 => repeat (first | exact HR0.out | (with_reducible refine Kd.C_alloc ?_ _) | (with_reducible refine Kd.C_drewN ?_ _) | (with_reducible refine Kd.C_drew ?_))); (case side2 => exact HC0.out); rintro e w6 ⟨v355, rfl, ho0, hb⟩; refine ⟨_, rfl, ?_⟩; have n0_ := AM_ (Kd.R_lower ho0 (below_size (by exact BL HB.out rfl rfl rfl rfl))); have n1_ := AM_ (below_step (by exact BL HB.out rfl rfl rfl rfl) hb); clear HB; have HO356 := n0_; have HB := n1_; clear n0_ n1_; (try clear hb); (try clear hb2); (try clear hk); (try clear hi); (try clear ho0)))
 (try simp only [pA, pS, pZ, pK])
 go_cut [24] (fun v24 wc => ∃ (kq : Nat) (x24_4 : Bool), v24 = .bool x24_4 ∧ Aside0 (impl_MarkIndex.j0 kq a1 a2 t354 x24_4 = some r) ∧ Aside0 (kq ≤ k) ∧ Aside0 (Kd.R k77 77 wc w.heap.size (fun _ => True) v355 t354) ∧ Aside0 (Below w.heap.size w wc))
 case first =>
  have H := HC5.out
  clear HC5
  replace H := Option.bind_eq_some_iff.mp H
  obtain ⟨t357, A70, H⟩ := H
  replace H : (if t357 = true then ((impl_isKey.f a1).bind fun t358 => (if t358 = true then ((impl_in.f a2 0 999).bind fun t359 => (impl_MarkIndex.j0 k a1 a2 t354 (!t359))) else (impl_MarkIndex.j0 k a1 a2 t354 true))) else (impl_MarkIndex.j0 k a1 a2 t354 true)) = some r := H
  have A7 := AM_ A70
  clear A70
  by_cases c8 : t357 = true
  ·subst c8
   have H1 : ((impl_isKey.f a1).bind fun t358 => (if t358 = true then ((impl_in.f a2 0 999).bind fun t359 => (impl_MarkIndex.j0 k a1 a2 t354 (!t359))) else (impl_MarkIndex.j0 k a1 a2 t354 true))) = some r := by rw [if_pos rfl] at H; exact H
   clear H
   have H := H1
   clear H1
   replace H := Option.bind_eq_some_iff.mp H
   obtain ⟨t358, A90, H⟩ := H
   replace H : (if t358 = true then ((impl_in.f a2 0 999).bind fun t359 => (impl_MarkIndex.j0 k a1 a2 t354 (!t359))) else (impl_MarkIndex.j0 k a1 a2 t354 true)) = some r := H
   have A9 := AM_ A90
   clear A90
   by_cases c10 : t358 = true
   ·subst c10
    have H1 : ((impl_in.f a2 0 999).bind fun t359 => (impl_MarkIndex.j0 k a1 a2 t354 (!t359))) = some r := by rw [if_pos rfl] at H; exact H
    clear H
    have H := H1
    clear H1
    replace H := Option.bind_eq_some_iff.mp H
    obtain ⟨t359, A110, H⟩ := H
    replace H : (impl_MarkIndex.j0 k a1 a2 t354 (!t359)) = some r := H
    have A11 := AM_ A110
    clear A110
    have H' := AM_ H
    clear H
    go_wp2_with (first | ((with_reducible refine gate_callee (f := 56) rfl ?_); refine goesL_ (some 13) rfl rfl Try.func56 (by kernel_rfl) rfl #[.slice A0 l0.length c0] rfl (by (try simp only [List.map_toArray, List.map_cons, List.map_nil]); first | done | rfl | (simp only [List.length_drop, List.length_take]; rfl)) ?_; (with_reducible refine (impl_IsIndex.calls k _ _ l0 true _ ?side1 ?side2 A7.out).mono ?_); (case side1 => exact Kd.C_below (Kd.C_below HR0.out HB.out) (BL (Below.refl _ _) rfl rfl rfl rfl)); (case side2 => exact HC0.out); rintro e w12 ⟨rfl, hb⟩; refine ⟨_, rfl, ?_⟩; have n0_ := AM_ (Kd.R_below (by exact RL HO356.out rfl) hb); have n1_ := AM_ (below_step (by exact BL HB.out rfl rfl rfl rfl) hb); clear HO356; clear HB; have HO356 := n0_; have HB := n1_; clear n0_ n1_; (try clear hb); (try clear hb2); (try clear hk); (try clear hi)) | (go_at_call 131; (with_reducible refine (impl_isKey.calls a1 true _ A9.out).mono ?_); rintro e w' ⟨rfl, ⟨nd, rfl⟩⟩) | (go_at_call 98; (with_reducible refine (impl_in.calls a2 0 999 t359 _ A11.out).mono ?_); rintro e w' ⟨rfl, ⟨nd, rfl⟩⟩))
    go_meet
    case rel => exact ⟨_, (!t359), (by first | rfl | (simp; done) | (simp [*]; done)), H', ⟨by first | omega | exact Nat.le_refl _⟩, ⟨by exact RL HO356.out rfl⟩, ⟨by exact BL HB.out rfl rfl rfl rfl⟩⟩
   ·replace c10 := Bool.eq_false_iff.mpr c10
    subst c10
    have H1 : (impl_MarkIndex.j0 k a1 a2 t354 true) = some r := by rw [if_neg (show ¬ (false = true) by decide)] at H; exact H
    clear H
    have H := H1
    clear H1
    have H' := AM_ H
    clear H
    go_wp2_with (first | ((with_reducible refine gate_callee (f := 56) rfl ?_); refine goesL_ (some 13) rfl rfl Try.func56 (by kernel_rfl) rfl #[.slice A0 l0.length c0] rfl (by (try simp only [List.map_toArray, List.map_cons, List.map_nil]); first | done | rfl | (simp only [List.length_drop, List.length_take]; rfl)) ?_; (with_reducible refine (impl_IsIndex.calls k _ _ l0 true _ ?side1 ?side2 A7.out).mono ?_); (case side1 => exact Kd.C_below (Kd.C_below HR0.out HB.out) (BL (Below.refl _ _) rfl rfl rfl rfl)); (case side2 => exact HC0.out); rintro e w13 ⟨rfl, hb⟩; refine ⟨_, rfl, ?_⟩; have n0_ := AM_ (Kd.R_below (by exact RL HO356.out rfl) hb); have n1_ := AM_ (below_step (by exact BL HB.out rfl rfl rfl rfl) hb); clear HO356; clear HB; have HO356 := n0_; have HB := n1_; clear n0_ n1_; (try clear hb); (try clear hb2); (try clear hk); (try clear hi)) | (go_at_call 131; (with_reducible refine (impl_isKey.calls a1 false _ A9.out).mono ?_); rintro e w' ⟨rfl, ⟨nd, rfl⟩⟩))
    go_meet
    case rel => exact ⟨_, (true), (by first | rfl | (simp; done) | (simp [*]; done)), H', ⟨by first | omega | exact Nat.le_refl _⟩, ⟨by exact RL HO356.out rfl⟩, ⟨by exact BL HB.out rfl rfl rfl rfl⟩⟩
  ·replace c8 := Bool.eq_false_iff.mpr c8
   subst c8
   have H1 : (impl_MarkIndex.j0 k a1 a2 t354 true) = some r := by rw [if_neg (show ¬ (false = true) by decide)] at H; exact H
   clear H
   have H := H1
   clear H1
   have H' := AM_ H
   clear H
   go_wp2_with (first | ((with_reducible refine gate_callee (f := 56) rfl ?_); refine goesL_ (some 13) rfl rfl Try.func56 (by kernel_rfl) rfl #[.slice A0 l0.length c0] rfl (by (try simp only [List.map_toArray, List.map_cons, List.map_nil]); first | done | rfl | (simp only [List.length_drop, List.length_take]; rfl)) ?_; (with_reducible refine (impl_IsIndex.calls k _ _ l0 false _ ?side1 ?side2 A7.out).mono ?_); (case side1 => exact Kd.C_below (Kd.C_below HR0.out HB.out) (BL (Below.refl _ _) rfl rfl rfl rfl)); (case side2 => exact HC0.out); rintro e w14 ⟨rfl, hb⟩; refine ⟨_, rfl, ?_⟩; have n0_ := AM_ (Kd.R_below (by exact RL HO356.out rfl) hb); have n1_ := AM_ (below_step (by exact BL HB.out rfl rfl rfl rfl) hb); clear HO356; clear HB; have HO356 := n0_; have HB := n1_; clear n0_ n1_; (try clear hb); (try clear hb2); (try clear hk); (try clear hi)))
   go_meet
   case rel => exact ⟨_, (true), (by first | rfl | (simp; done) | (simp [*]; done)), H', ⟨by first | omega | exact Nat.le_refl _⟩, ⟨by exact RL HO356.out rfl⟩, ⟨by exact BL HB.out rfl rfl rfl rfl⟩⟩
 case rest =>
  clear HC5
  try clear c1
  try clear p2
  try clear c5
  try clear c8
  try clear c10
  try clear c12
  obtain ⟨kq, x24_4, rfl, HA, HJ4, HO_7, HB⟩ := hcut
  cases kq with
  | zero => exact absurd HA.out (by simp [impl_MarkIndex.j0])
  | succ kj4 =>
   have H := HA.out
   clear HA
   simp only [impl_MarkIndex.j0] at H
   by_cases c15 : x24_4 = true
   ·subst c15
    have H1 : (some t354) = some r := by rw [if_pos rfl] at H; exact H
    clear H
    have H := H1
    clear H1
    obtain rfl := Option.some.inj H
    go_wp2
    go_ret
    exact ⟨_, by first | rfl | (simp [errW_none, errW_some] <;> rfl) | (simp [*, errW_none, errW_some] <;> rfl), by exact RL HO_7.out rfl, by exact BL HB.out rfl rfl rfl rfl⟩
   ·replace c15 := Bool.eq_false_iff.mpr c15
    subst c15
    have H1 : (impl_MarkIndex.l0 kj4 a1 a2 t354 (t354.length : Int) 0) = some r := by rw [if_neg (show ¬ (false = true) by decide)] at H; exact H
    clear H
    have H := H1
    clear H1
    have H' := AM_ H
    clear H
    obtain ⟨Ao16, co16, eo16⟩ := Kd.R_slice HO_7.out
    subst eo16
    go_wp2
    go_loopg [28] kj4 (fun kq v28 w' => ∃ (x7_2 : List (S77)) (x28_2 : Int), v28 = .int .i64 x28_2 ∧ Aside0 (impl_MarkIndex.l0 kq a1 a2 x7_2 (t354.length : Int) x28_2 = some r) ∧ Aside0 (kq ≤ kj4) ∧ Aside0 (Kd.R k77 77 w' w.heap.size (fun _ => True) (.slice Ao16 t354.length co16) x7_2) ∧ Aside0 (Below w.heap.size w w'))
    case atStart => exact ⟨(t354), (0), (by first | rfl | (simp; done) | (simp [*]; done)), H', ⟨Nat.le_refl _⟩, ⟨by exact RL HO_7.out rfl⟩, ⟨by exact BL HB.out rfl rfl rfl rfl⟩⟩
    case round =>
     clear H'
     try clear c1
     try clear p2
     try clear c5
     try clear c8
     try clear c10
     try clear c12
     try clear c15
     try clear p2
     obtain ⟨x7_2, x28_2, rfl, HA, HK2, HO_7, HB⟩ := hrel
     have hl7_2 := (Kd.R_reads' HO_7.out).1
     rw [hl7_2] at HO_7
     (try simp only [hl7_2])
     cases gk with
     | zero => exact absurd HA.out (by simp [impl_MarkIndex.l0])
     | succ k2 =>
      have H := HA.out
      clear HA
      simp only [impl_MarkIndex.l0] at H
      by_cases c17 : x28_2 < (t354.length : Int)
      ·rw [if_pos c17] at H
       have c17b0 : decide (x28_2 < (t354.length : Int)) = true := decide_eq_true c17
       clear c17
       by_cases c18 : 0 ≤ x28_2
       ·rw [if_pos c18] at H
        have c18b0 : decide (0 ≤ x28_2) = true := decide_eq_true c18
        clear c18
        by_cases c19 : x28_2 < (x7_2.length : Int)
        ·rw [if_pos c19] at H
         have c19b0 : decide (x28_2 < (x7_2.length : Int)) = true := decide_eq_true c19
         clear c19
         replace H := Option.bind_eq_some_iff.mp H
         obtain ⟨t362, A200, H⟩ := H
         replace H : (if t362 = true then (impl_MarkIndex.l0 k2 a1 a2 (x7_2.set (x28_2 : Int).toNat (⟨(rd_T77 x7_2 x28_2).f0, (rd_T77 x7_2 x28_2).f1, mx ((rd_T77 x7_2 x28_2).f2) a2⟩ : S77)) (t354.length : Int) (wrap64 (x28_2 + 1))) else (impl_MarkIndex.l0 k2 a1 a2 x7_2 (t354.length : Int) (wrap64 (x28_2 + 1)))) = some r := H
         have A20 := AM_ A200
         clear A200
         by_cases c21 : t362 = true
         ·subst c21
          have H1 : (impl_MarkIndex.l0 k2 a1 a2 (x7_2.set (x28_2 : Int).toNat (⟨(rd_T77 x7_2 x28_2).f0, (rd_T77 x7_2 x28_2).f1, mx ((rd_T77 x7_2 x28_2).f2) a2⟩ : S77)) (t354.length : Int) (wrap64 (x28_2 + 1))) = some r := by rw [if_pos rfl] at H; exact H
          clear H
          have H := H1
          clear H1
          obtain ⟨ji22, hji22⟩ : ∃ j_ : Int, (mx ((rd_T77 x7_2 x28_2).f2) a2) = j_ := ⟨_, rfl⟩
          replace H : (impl_MarkIndex.l0 k2 a1 a2 (x7_2.set (x28_2 : Int).toNat (⟨(rd_T77 x7_2 x28_2).f0, (rd_T77 x7_2 x28_2).f1, ji22⟩ : S77)) (t354.length : Int) (wrap64 (x28_2 + 1))) = some r := by first | (rw [hji22] at H; exact H) | (simp only [hji22] at H ⊢; exact H)
          (try rw [hji22] at A20)
          have hji22_ : (if ((rd_T77 x7_2 x28_2).f2) < a2 then a2 else ((rd_T77 x7_2 x28_2).f2)) = ji22 := hji22
          obtain ⟨y363, hy363⟩ : ∃ y_ : List (S77), y_ = (x7_2.set (x28_2 : Int).toNat (⟨(rd_T77 x7_2 x28_2).f0, (rd_T77 x7_2 x28_2).f1, ji22⟩ : S77)) := ⟨_, rfl⟩
          replace H : (impl_MarkIndex.l0 k2 a1 a2 y363 (t354.length : Int) (wrap64 (x28_2 + 1))) = some r := by first | (rw [hy363]; with_reducible exact H) | (have H2_ := (Option.bind_some _ _).symm.trans H; rw [hy363]; with_reducible exact H2_) | (have H2_ := (Option.bind_some _ _).symm.trans H; with_reducible exact H2_) | with_reducible exact H | (rw [hy363]; exact H) | exact H
          have Ny363 := AM_ hy363
          clear hy363
          have H' := AM_ H
          clear H
          have p360 : 0 ≤ (x28_2 : Int) := of_decide_eq_true (by first | (with_reducible assumption) | assumption)
          have q360 : x28_2 < (x7_2.length : Int) := of_decide_eq_true (by first | (with_reducible assumption) | assumption)
          obtain ⟨ad360, e360, hx360_0, hx360_1, hx360_2⟩ := at_T77 (Kd.R_reads' HO_7.out).2.2 x28_2 p360 q360
          cases e360
          replace p360 := eq_true p360
          replace q360 := eq_true q360
          go_wp2_with (first | ((with_reducible refine gate_dst (N := 9) rfl ?_); refine box_event ?hg (N := 9) ?hd (cs := #[.int .i64 0, .int .i64 0, .int .i64 0]) (t := 77) ?hr ?_; (case hd => rfl); (case hg => rfl); (case hr => first | (go_simp; done) | (go_simp; rfl)); intro gb361 hg w24 hbox hb; have n0_ := AM_ (Kd.R_below (Kd.R_elderB (by exact RL HO_7.out rfl) gb361 (Nat.le_of_eq hg.symm)) hb); have n1_ := AM_ (below_step (by exact BL HB.out rfl rfl rfl rfl) hb); have n2_ := AM_ (hbox); have n3_ := AM_ ((by rw [hg]; exact (below_size (by exact BL HB.out rfl rfl rfl rfl)) : w.heap.size ≤ gb361)); have n4_ := AM_ ((by rw [hg]; exact (below_size (by exact BL HB.out rfl rfl rfl rfl)) : w.heap.size ≤ gb361)); clear HO_7; clear HB; have HO_7 := n0_; have HB := n1_; have BK361 := n2_; have GW361 := n3_; have GE361 := n4_; clear n0_ n1_ n2_ n3_ n4_; clear hb hbox hg; have hcz25_0 : w24.cell? ⟨gb361, 0, none⟩ = some (.int .i64 0) := (blk_cell BK361.out 0).trans rfl; have hcz25_1 : w24.cell? ⟨gb361, 1, none⟩ = some (.int .i64 0) := (blk_cell BK361.out 1).trans rfl; have hcz25_2 : w24.cell? ⟨gb361, 2, none⟩ = some (.int .i64 0) := (blk_cell BK361.out 2).trans rfl; have hfz25_0 := blk_frozen BK361.out 0; have hfz25_1 := blk_frozen BK361.out 1; have hfz25_2 := blk_frozen BK361.out 2) | ((with_reducible refine gate_store (t := 77) (p := 9) rfl ?_); refine store_event (t := 77) (p := 9) (v := ?vo_w26) (w1 := (((w24.setCell ⟨gb361, 0, none⟩ (.int .i64 ((rd_T77 x7_2 x28_2).f0))).setCell ⟨gb361, 1, none⟩ (.int .i64 ((rd_T77 x7_2 x28_2).f1))).setCell ⟨gb361, 2, none⟩ (.int .i64 ((rd_T77 x7_2 x28_2).f2)))) ?hg ?ho ?hn ?hr ?_; (case ho => rfl); (case hg => rfl); (case hn => rfl); (case hr => first | (go_simp; done) | (go_simp; rfl)); intro w26 hw; have n0_ : Aside0 (Kd.R k77 77 w26 w.heap.size (fun k_ => k_ ≠ gb361) (.slice (some ad360) x7_2.length co16) x7_2) := ⟨(by rw [hw]; exact (by (with_reducible repeat (first | apply Kd.R_alloc | apply Kd.R_drewN | apply Kd.R_drew)); exact Kd.R_mono (Kd.R_far (p := ⟨gb361, 2, none⟩) (Kd.R_far (p := ⟨gb361, 1, none⟩) (Kd.R_far (p := ⟨gb361, 0, none⟩) (Kd.R_mono HO_7.out (fun k_ hk => (⟨hk, hk.2⟩ : _ ∧ k_ ≠ gb361))) (fun _ hk => hk.2) (.int .i64 ((rd_T77 x7_2 x28_2).f0))) (fun _ hk => hk.2) (.int .i64 ((rd_T77 x7_2 x28_2).f1))) (fun _ hk => hk.2) (.int .i64 ((rd_T77 x7_2 x28_2).f2))) (fun _ hk => hk.1.2)))⟩; have n1_ : Aside0 (w26.heap[gb361]? = some (.cells #[.int .i64 ((rd_T77 x7_2 x28_2).f0), .int .i64 ((rd_T77 x7_2 x28_2).f1), .int .i64 ((rd_T77 x7_2 x28_2).f2)] 77 (0, 0))) := ⟨(by rw [hw]; exact (by (with_reducible repeat (first | refine blk_drewN ?_ _ | refine blk_drew ?_ | refine blk_alloc ?_ _)); refine blk_put (cs := #[.int .i64 ((rd_T77 x7_2 x28_2).f0), .int .i64 ((rd_T77 x7_2 x28_2).f1), .int .i64 0]) ?_ 2 _ rfl; (with_reducible repeat (first | refine blk_drewN ?_ _ | refine blk_drew ?_ | refine blk_alloc ?_ _)); refine blk_put (cs := #[.int .i64 ((rd_T77 x7_2 x28_2).f0), .int .i64 0, .int .i64 0]) ?_ 1 _ rfl; (with_reducible repeat (first | refine blk_drewN ?_ _ | refine blk_drew ?_ | refine blk_alloc ?_ _)); refine blk_put (cs := #[.int .i64 0, .int .i64 0, .int .i64 0]) ?_ 0 _ rfl; (with_reducible repeat (first | refine blk_drewN ?_ _ | refine blk_drew ?_ | refine blk_alloc ?_ _)); exact BK361.out))⟩; have n2_ : Aside0 (Below w.heap.size w w26) := ⟨(by rw [hw]; exact (by repeat (first | (with_reducible first | exact HB.out | apply below_alloc | apply pw_below_drewN | apply below_drew1 | refine below_set ?_ GE361.out) | exact HB.out)))⟩; clear hw; clear HO_7; clear BK361; clear HB; have HO_7 := n0_; have BK361 := n1_; have HB := n2_; clear n0_ n1_ n2_; have hcz27_0 : w26.cell? ⟨gb361, 0, none⟩ = some (.int .i64 ((rd_T77 x7_2 x28_2).f0)) := (blk_cell BK361.out 0).trans rfl; have hcz27_1 : w26.cell? ⟨gb361, 1, none⟩ = some (.int .i64 ((rd_T77 x7_2 x28_2).f1)) := (blk_cell BK361.out 1).trans rfl; have hcz27_2 : w26.cell? ⟨gb361, 2, none⟩ = some (.int .i64 ((rd_T77 x7_2 x28_2).f2)) := (blk_cell BK361.out 2).trans rfl; have hfz27_0 := blk_frozen BK361.out 0; have hfz27_1 := blk_frozen BK361.out 1; have hfz27_2 := blk_frozen BK361.out 2) | ((with_reducible refine gate_callee (f := 98) rfl ?_); refine goesL_ (some 38) rfl rfl Try.func98 (by kernel_rfl) rfl #[.int .i64 a1, .int .i64 ((rd_T77 x7_2 x28_2).f0), .int .i64 ((rd_T77 x7_2 x28_2).f1)] rfl (by (try simp only [List.map_toArray, List.map_cons, List.map_nil]); first | done | rfl | (simp only [List.length_drop, List.length_take]; rfl)) ?_; (with_reducible refine (impl_in.calls a1 ((rd_T77 x7_2 x28_2).f0) ((rd_T77 x7_2 x28_2).f1) true _ A20.out).mono ?_); rintro e w' ⟨rfl, ⟨nd, rfl⟩⟩; refine ⟨_, rfl, ?_⟩; (try (rw [drewN_self w26]; generalize hq_ : World.drewN w26 _ = w26; have n0_ : Aside0 (Kd.R k77 77 w26 w.heap.size (fun k_ => k_ ≠ gb361) (.slice (some ad360) x7_2.length co16) x7_2) := ⟨by rw [← hq_]; exact (by exact RL HO_7.out rfl)⟩; have n1_ : Aside0 (w26.heap[gb361]? = some (.cells #[.int .i64 ((rd_T77 x7_2 x28_2).f0), .int .i64 ((rd_T77 x7_2 x28_2).f1), .int .i64 ((rd_T77 x7_2 x28_2).f2)] 77 (0, 0))) := ⟨by rw [← hq_]; exact (by (with_reducible repeat (first | refine blk_drewN ?_ _ | refine blk_drew ?_ | refine blk_alloc ?_ _)); exact BK361.out)⟩; have n2_ : Aside0 (Below w.heap.size w w26) := ⟨by rw [← hq_]; exact (by repeat (first | (with_reducible first | exact HB.out | apply below_alloc | apply pw_below_drewN | apply below_drew1 | refine below_set ?_ GE361.out) | exact HB.out))⟩; clear HO_7 BK361 HB hq_; have HO_7 := n0_; have BK361 := n1_; have HB := n2_; clear n0_ n1_ n2_)); (try (have hcz28_0 : w26.cell? ⟨gb361, 0, none⟩ = some (.int .i64 ((rd_T77 x7_2 x28_2).f0)) := (blk_cell BK361.out 0).trans rfl)); (try (have hcz28_1 : w26.cell? ⟨gb361, 1, none⟩ = some (.int .i64 ((rd_T77 x7_2 x28_2).f1)) := (blk_cell BK361.out 1).trans rfl)); (try (have hcz28_2 : w26.cell? ⟨gb361, 2, none⟩ = some (.int .i64 ((rd_T77 x7_2 x28_2).f2)) := (blk_cell BK361.out 2).trans rfl)); (try (have hfz28_0 := blk_frozen BK361.out 0)); (try (have hfz28_1 := blk_frozen BK361.out 1)); (try (have hfz28_2 := blk_frozen BK361.out 2)); have p23 : 0 ≤ (x28_2 : Int) := of_decide_eq_true (by first | (with_reducible assumption) | assumption); have q23 : (x28_2 : Int) < ((x7_2.length : Int) : Int) := of_decide_eq_true (by first | (with_reducible assumption) | assumption); obtain ⟨go23, co23, eo23, gb23, gl23, cl23, HG23⟩ := Kd.R_form HO_7.out (by omega); (first | cases eo23 | (injection eo23 with ea_ en_ ec_; (first | subst ea_ | (injection ea_ with ea_; subst ea_)); subst ec_; clear en_)); have GB23 := AM_ gb23; have GG23 := AM_ HG23; clear gb23 gl23 HG23; (first | simp only [add_plain] at hx360_0 | skip); (first | simp only [add_plain] at hx360_1 | skip); (first | simp only [add_plain] at hx360_2 | skip); obtain ⟨ce23, hcl23, hM23, hcc23, hfr23⟩ := Kd.R_elem HO_7.out z77 (x28_2 : Int) p23 q23; obtain rfl := k77_openM hM23; have hx23_0 : w26.cell? ⟨go23, (x28_2 : Int).toNat * 3, none⟩ = some (.int .i64 ((rd_T77 x7_2 x28_2).f0)) := hcc23 0 _ rfl; have hx23_1 : w26.cell? ⟨go23, (x28_2 : Int).toNat * 3 + 1, none⟩ = some (.int .i64 ((rd_T77 x7_2 x28_2).f1)) := hcc23 1 _ rfl; have hx23_2 : w26.cell? ⟨go23, (x28_2 : Int).toNat * 3 + 2, none⟩ = some (.int .i64 ((rd_T77 x7_2 x28_2).f2)) := hcc23 2 _ rfl; have hf23_0 : w26.frozen? ⟨go23, (x28_2 : Int).toNat * 3, none⟩ = false := hfr23 0; have hf23_1 : w26.frozen? ⟨go23, (x28_2 : Int).toNat * 3 + 1, none⟩ = false := hfr23 1; have hf23_2 : w26.frozen? ⟨go23, (x28_2 : Int).toNat * 3 + 2, none⟩ = false := hfr23 2; clear hcl23 hcc23 hfr23; (try clear hM23); replace p23 := eq_true p23; replace q23 := eq_true q23; have HX29 := AM_ (show Kd.R k77 77 w26 w.heap.size (fun k_ => k_ ≠ gb361) (.slice (some ⟨go23, 0, none⟩) x7_2.length co16) x7_2 from (by exact RL HO_7.out rfl)); obtain ⟨ce29, hcl29, hM29, hcc29, hfr29⟩ := Kd.R_elem HX29.out z77 (x28_2 : Int) (of_decide_eq_true (by first | (with_reducible assumption) | assumption)) (by have h_ : (x28_2 : Int) < ((x7_2.length : Int) : Int) := of_decide_eq_true (by first | (with_reducible assumption) | assumption); first | exact h_ | (have e_ := (Kd.R_reads' HO_7.out).1; omega) | simpa using h_); obtain rfl := k77_openM hM29; have HP29 := Kd.R_seg HX29.out (x28_2 : Int) (of_decide_eq_true (by first | (with_reducible assumption) | assumption)) (by have h_ : (x28_2 : Int) < ((x7_2.length : Int) : Int) := of_decide_eq_true (by first | (with_reducible assumption) | assumption); first | exact h_ | (have e_ := (Kd.R_reads' HO_7.out).1; omega) | simpa using h_) (seg := [.int .i64 ji22]) (j := 2) hcl29 hcc29 (show 3 ≤ 3 from by decide) (x' := (⟨(rd_T77 x7_2 x28_2).f0, (rd_T77 x7_2 x28_2).f1, ji22⟩ : S77)) (k77_mkM _ _ _ (⟨(rd_T77 x7_2 x28_2).f0, (rd_T77 x7_2 x28_2).f1, ji22⟩ : S77) ) (fun _ hk => hk); have hx29_2 := hcc29 2 _ rfl; (try simp only [show (k77).sz = 3 from rfl, Nat.mul_one, Nat.add_zero] at hx29_2); have hf29_2 := hfr29 2; (try simp only [show (k77).sz = 3 from rfl, Nat.mul_one, Nat.add_zero] at hf29_2); clear hcl29 hcc29 hfr29; (try clear hM29)) | ((with_reducible refine gate_store (t := 3) (p := 46) rfl ?_); refine store_event (t := 3) (p := 46) (v := ?vo_w30) (w1 := (w26.setCell ⟨go23, (x28_2 : Int).toNat * 3 + 2, none⟩ (.int .i64 ji22))) ?hg ?ho ?hn ?hr ?_; (case ho => rfl); (case hg => rfl); (case hn => rfl); (case hr => first | (go_simp; done) | (go_simp; rfl)); intro w30 hw; have hg : w26.grownBy w30 (some go23) := (by rw [hw]; exact HP29.2); have hp_ : Kd.R k77 77 w30 w.heap.size (fun k_ => k_ ≠ gb361) (.slice (some ⟨go23, 0, none⟩) x7_2.length co16) y363 := (by rw [hw, Ny363.out]; exact HP29.1); clear HP29; have n0_ := AM_ (hp_); have n1_ := AM_ (blk_grown (g := gb361) (o := .cells #[.int .i64 ((rd_T77 x7_2 x28_2).f0), .int .i64 ((rd_T77 x7_2 x28_2).f1), .int .i64 ((rd_T77 x7_2 x28_2).f2)] 77 (0, 0)) (by (with_reducible repeat (first | refine blk_drewN ?_ _ | refine blk_drew ?_ | refine blk_alloc ?_ _)); exact BK361.out) hg (Kd.R_away HO_7.out (fun _ hk => hk))); have n2_ := AM_ ((by rw [hw]; exact below_set (HB.out) GB23.out : Below w.heap.size w w30)); clear HO_7; clear BK361; clear HB; have HO_7 := n0_; have BK361 := n1_; have HB := n2_; clear n0_ n1_ n2_; clear hg hw hp_))
          (try simp only [← hl7_2])
          go_roundg k2
          case measure => have := HJ4.out; have := HK2.out; omega
          case rel => exact ⟨(y363), (wrap64 (x28_2 + 1)), (by first | rfl | (simp; done) | (simp [*]; done)), H', ⟨by have := HJ4.out; have := HK2.out; omega⟩, ⟨by (try simp only [hl7_2]); (with_reducible repeat (first | apply Kd.R_alloc | apply Kd.R_drewN | apply Kd.R_drew)); exact Kd.R_mono HO_7.out (fun _ hk => trivial)⟩, ⟨by repeat (first | (with_reducible first | exact HB.out | apply below_alloc | apply pw_below_drewN | apply below_drew1 | refine below_set ?_ GE361.out) | exact HB.out)⟩⟩
         ·replace c21 := Bool.eq_false_iff.mpr c21
          subst c21
          have H1 : (impl_MarkIndex.l0 k2 a1 a2 x7_2 (t354.length : Int) (wrap64 (x28_2 + 1))) = some r := by rw [if_neg (show ¬ (false = true) by decide)] at H; exact H
          clear H
          have H := H1
          clear H1
          have H' := AM_ H
          clear H
          have p360 : 0 ≤ (x28_2 : Int) := of_decide_eq_true (by first | (with_reducible assumption) | assumption)
          have q360 : x28_2 < (x7_2.length : Int) := of_decide_eq_true (by first | (with_reducible assumption) | assumption)
          obtain ⟨ad360, e360, hx360_0, hx360_1, hx360_2⟩ := at_T77 (Kd.R_reads' HO_7.out).2.2 x28_2 p360 q360
          cases e360
          replace p360 := eq_true p360
          replace q360 := eq_true q360
          go_wp2_with (first | ((with_reducible refine gate_dst (N := 9) rfl ?_); refine box_event ?hg (N := 9) ?hd (cs := #[.int .i64 0, .int .i64 0, .int .i64 0]) (t := 77) ?hr ?_; (case hd => rfl); (case hg => rfl); (case hr => first | (go_simp; done) | (go_simp; rfl)); intro gb361 hg w31 hbox hb; have n0_ := AM_ (Kd.R_below (Kd.R_elderB (by exact RL HO_7.out rfl) gb361 (Nat.le_of_eq hg.symm)) hb); have n1_ := AM_ (below_step (by exact BL HB.out rfl rfl rfl rfl) hb); have n2_ := AM_ (hbox); have n3_ := AM_ ((by rw [hg]; exact (below_size (by exact BL HB.out rfl rfl rfl rfl)) : w.heap.size ≤ gb361)); have n4_ := AM_ ((by rw [hg]; exact (below_size (by exact BL HB.out rfl rfl rfl rfl)) : w.heap.size ≤ gb361)); clear HO_7; clear HB; have HO_7 := n0_; have HB := n1_; have BK361 := n2_; have GW361 := n3_; have GE361 := n4_; clear n0_ n1_ n2_ n3_ n4_; clear hb hbox hg; have hcz32_0 : w31.cell? ⟨gb361, 0, none⟩ = some (.int .i64 0) := (blk_cell BK361.out 0).trans rfl; have hcz32_1 : w31.cell? ⟨gb361, 1, none⟩ = some (.int .i64 0) := (blk_cell BK361.out 1).trans rfl; have hcz32_2 : w31.cell? ⟨gb361, 2, none⟩ = some (.int .i64 0) := (blk_cell BK361.out 2).trans rfl; have hfz32_0 := blk_frozen BK361.out 0; have hfz32_1 := blk_frozen BK361.out 1; have hfz32_2 := blk_frozen BK361.out 2) | ((with_reducible refine gate_callee (f := 98) rfl ?_); refine goesL_ (some 38) rfl rfl Try.func98 (by kernel_rfl) rfl #[.int .i64 a1, .int .i64 ((rd_T77 x7_2 x28_2).f0), .int .i64 ((rd_T77 x7_2 x28_2).f1)] rfl (by (try simp only [List.map_toArray, List.map_cons, List.map_nil]); first | done | rfl | (simp only [List.length_drop, List.length_take]; rfl)) ?_; (with_reducible refine (impl_in.calls a1 ((rd_T77 x7_2 x28_2).f0) ((rd_T77 x7_2 x28_2).f1) false _ A20.out).mono ?_); rintro e w' ⟨rfl, ⟨nd, rfl⟩⟩; refine ⟨_, rfl, ?_⟩))
          (try simp only [← hl7_2])
          go_roundg k2
          case measure => have := HJ4.out; have := HK2.out; omega
          case rel => exact ⟨(x7_2), (wrap64 (x28_2 + 1)), (by first | rfl | (simp; done) | (simp [*]; done)), H', ⟨by have := HJ4.out; have := HK2.out; omega⟩, ⟨by (try simp only [hl7_2]); (with_reducible repeat (first | apply Kd.R_alloc | apply Kd.R_drewN | apply Kd.R_drew)); exact Kd.R_mono (Kd.R_far (p := ⟨gb361, 2, none⟩) (Kd.R_far (p := ⟨gb361, 1, none⟩) (Kd.R_far (p := ⟨gb361, 0, none⟩) (Kd.R_mono HO_7.out (fun k_ hk => (⟨hk, hk.2⟩ : _ ∧ k_ ≠ gb361))) (fun _ hk => hk.2) (.int .i64 ((rd_T77 x7_2 x28_2).f0))) (fun _ hk => hk.2) (.int .i64 ((rd_T77 x7_2 x28_2).f1))) (fun _ hk => hk.2) (.int .i64 ((rd_T77 x7_2 x28_2).f2))) (fun _ hk => trivial)⟩, ⟨by repeat (first | (with_reducible first | exact HB.out | apply below_alloc | apply pw_below_drewN | apply below_drew1 | refine below_set ?_ GE361.out) | exact HB.out)⟩⟩
        ·rw [if_neg c19] at H
         exact absurd H (by simp)
       ·rw [if_neg c18] at H
        exact absurd H (by simp)
      ·rw [if_neg c17] at H
       have c17b0 : decide (x28_2 < (t354.length : Int)) = false := decide_eq_false c17
       (try simp only [hl7_2] at c17b0)
       clear c17
       obtain rfl := Option.some.inj H
       go_wp2
       go_ret
       exact ⟨_, by first | rfl | (simp [errW_none, errW_some] <;> rfl) | (simp [*, errW_none, errW_some] <;> rfl), by exact RL HO_7.out rfl, by exact BL HB.out rfl rfl rfl rfl⟩

end Go.Proofs.Ytpiaeinfneoioaa.PFnIndexes
