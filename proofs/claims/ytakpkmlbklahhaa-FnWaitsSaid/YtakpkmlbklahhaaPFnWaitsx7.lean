-- Printed by a program of mine (wip/myprint.py), which runs the printer of the kit with contracts of mine beside it.
import Derived.Test.YtakpkmlbklahhaaPFnWaitsx0
import Derived.Test.YtakpkmlbklahhaaPFnWaitsx3
import Derived.Test.YtakpkmlbklahhaaPFnWaitsx4
import Derived.Test.YtakpkmlbklahhaaPFnWaitsx6
namespace Go.Proofs.Ytakpkmlbklahhaa.PFnWaits
open Go.RowKit Go.Proofs.YtakpkmlbklahhaaW.PrintWords Go.Proofs.YtakpkmlbklahhaaW.PrintLast Go.Proofs.YtakpkmlbklahhaaW.PrintMore
attribute [local go_sem] max2_int min2_int max_two min_two max_three min_three max_four min_four   -- for this text's walks alone
set_option linter.unusedVariables false
set_option linter.unusedSimpArgs false

/-! ### impl_WaitChain: function 22 -/
mutual
def impl_WaitChain.j0 : Nat → List (S36) → Int → Bool → Option (List Int)
 | 0, _, _, _ => none
 | k + 1, x0, x1, x15 => if x15 = true then (some ([] : List Int)) else (impl_WaitChain.l0 k x0 (([x1] : List Int)))
def impl_WaitChain.l0 : Nat → List (S36) → List Int → Option (List Int)
 | 0, _, _ => none
 | k + 1, x0, x282000 => (impl_Wait_83_b7.f k x0 x282000).bind fun t282 => (if t282 < 0 then (some x282000) else (if 0 ≤ t282 then (if t282 < (x0.length : Int) then ((slices_Contains_int_int.f k x282000 ((rd_T36 x0 t282).f1)).bind fun t284 => (if x282000.length < 17592186044416 then ((some (x282000 ++ [(rd_T36 x0 t282).f1] : List Int)).bind fun y286 => (if t284 = true then (some y286) else (impl_WaitChain.l0 k x0 y286))) else (none))) else (none)) else (none)))
end
def impl_WaitChain.f (k : Nat) (l0 : List (S36)) (a1 : Int) : Option (List Int) := (impl_AreWaits.f k l0).bind fun t276 => (if t276 = true then ((impl_isID.f a1).bind fun t277 => (impl_WaitChain.j0 k l0 a1 (!t277))) else (impl_WaitChain.j0 k l0 a1 true))
theorem impl_WaitChain.mono_l : ∀ k, (∀ y0 y1 y2, LeO (impl_WaitChain.j0 k y0 y1 y2) (impl_WaitChain.j0 (k + 1) y0 y1 y2)) ∧ (∀ y0 y1, LeO (impl_WaitChain.l0 k y0 y1) (impl_WaitChain.l0 (k + 1) y0 y1))
 | 0 => ⟨fun _ _ _ r h => by simp [impl_WaitChain.j0] at h, fun _ _ r h => by simp [impl_WaitChain.l0] at h⟩
 | k + 1 => by
  obtain ⟨ih0, ih1⟩ := impl_WaitChain.mono_l k
  refine ⟨?_, ?_⟩
  ·intro y0 y1 y2
   unfold impl_WaitChain.j0
   repeat' first
   | (with_reducible exact ih0 _ _ _)
   | (with_reducible exact ih1 _ _)
   | (with_reducible exact impl_AreWaits.mono _ _)
   | (with_reducible exact impl_Wait_83_b7.mono _ _ _)
   | (with_reducible exact slices_Contains_int_int.mono _ _ _)
   | (with_reducible exact LeO.refl _)
   | (with_reducible exact LeO.none _)
   | (with_reducible refine LeO.ite ?_ ?_)
   | (with_reducible refine LeO.bind ?_ (fun _ => ?_))
   | exact ih0 _ _ _
   | exact ih1 _ _
   | exact impl_AreWaits.mono _ _
   | exact impl_Wait_83_b7.mono _ _ _
   | exact slices_Contains_int_int.mono _ _ _
   | exact LeO.none _
   | refine LeO.ite ?_ ?_
   | refine LeO.bind ?_ (fun _ => ?_)
  ·intro y0 y1
   unfold impl_WaitChain.l0
   repeat' first
   | (with_reducible exact ih0 _ _ _)
   | (with_reducible exact ih1 _ _)
   | (with_reducible exact impl_AreWaits.mono _ _)
   | (with_reducible exact impl_Wait_83_b7.mono _ _ _)
   | (with_reducible exact slices_Contains_int_int.mono _ _ _)
   | (with_reducible exact LeO.refl _)
   | (with_reducible exact LeO.none _)
   | (with_reducible refine LeO.ite ?_ ?_)
   | (with_reducible refine LeO.bind ?_ (fun _ => ?_))
   | exact ih0 _ _ _
   | exact ih1 _ _
   | exact impl_AreWaits.mono _ _
   | exact impl_Wait_83_b7.mono _ _ _
   | exact slices_Contains_int_int.mono _ _ _
   | exact LeO.none _
   | refine LeO.ite ?_ ?_
   | refine LeO.bind ?_ (fun _ => ?_)
theorem impl_WaitChain.mono : ∀ a0 a1 k, LeO (impl_WaitChain.f k a0 a1) (impl_WaitChain.f (k + 1) a0 a1) := by
 intro a0 a1 k
 obtain ⟨ih0, ih1⟩ := impl_WaitChain.mono_l k
 unfold impl_WaitChain.f
 repeat' first
   | (with_reducible exact ih0 _ _ _)
   | (with_reducible exact ih1 _ _)
   | (with_reducible exact impl_AreWaits.mono _ _)
   | (with_reducible exact impl_Wait_83_b7.mono _ _ _)
   | (with_reducible exact slices_Contains_int_int.mono _ _ _)
   | (with_reducible exact LeO.refl _)
   | (with_reducible exact LeO.none _)
   | (with_reducible refine LeO.ite ?_ ?_)
   | (with_reducible refine LeO.bind ?_ (fun _ => ?_))
   | exact ih0 _ _ _
   | exact ih1 _ _
   | exact impl_AreWaits.mono _ _
   | exact impl_Wait_83_b7.mono _ _ _
   | exact slices_Contains_int_int.mono _ _ _
   | exact LeO.none _
   | refine LeO.ite ?_ ?_
   | refine LeO.bind ?_ (fun _ => ?_)
def impl_WaitChain.T7 : Bool × List (List Nat × List Nat) := (true, [([], []), ([], []), ([], []), ([1, 2], [1, 2]), ([3], [3]), ([4], [4]), ([0, 5], [0, 5]), ([6, 6, 0, 1, 2, 3, 4, 5, 6], [6])])
def impl_WaitChain.B7 : List Nat := [0, 0, 0, 6, 14, 30, 63, 127]
theorem impl_WaitChain.tab7 : rtab .any (opsOf Try.f22 7) = impl_WaitChain.T7 := by kernel_rfl
theorem impl_WaitChain.bits7 : waitsOk impl_WaitChain.T7.2 impl_WaitChain.B7 = true := by kernel_rfl
def impl_WaitChain.T8 : Bool × List (List Nat × List Nat) := (true, [([], []), ([], []), ([], []), ([1, 2], [1, 2]), ([3], [3]), ([4], [4]), ([5], [5]), ([0, 6], [0, 6]), ([7, 7, 0, 1, 2, 3, 4, 5, 6, 7], [7])])
def impl_WaitChain.B8 : List Nat := [0, 0, 0, 6, 14, 30, 62, 127, 255]
theorem impl_WaitChain.tab8 : rtab .any (opsOf Try.f22 8) = impl_WaitChain.T8 := by kernel_rfl
theorem impl_WaitChain.bits8 : waitsOk impl_WaitChain.T8.2 impl_WaitChain.B8 = true := by kernel_rfl
set_option maxHeartbeats 8000000 in
set_option maxRecDepth 100000 in
theorem impl_WaitChain.calls (k : Nat) (A0 : Option Addr) (c0 : Nat) (l0 : List (S36)) (a1 : Int) (r : List Int) (w : World) (hr0 : Kd.C k36 w A0 l0.length l0) (hc0 : l0.length ≤ c0) (h : impl_WaitChain.f k l0 a1 = some r) :
  Calls Try.prog 22 #[.slice A0 l0.length c0, .int .i64 a1] w fun e w' => ∃ v0_ : Value, e = .returned (v0_) ∧ Kd.R (Kd.int .i64) 3 w' w.heap.size (fun _ => True) v0_ r ∧ Below w.heap.size w w' := by
 have HR0 := AM_ hr0
 have HC0 := AM_ hc0
 clear hr0 hc0
 have HB := AM_ (Below.refl w.heap.size w)
 have H : ((impl_AreWaits.f k l0).bind fun t276 => (if t276 = true then ((impl_isID.f a1).bind fun t277 => (impl_WaitChain.j0 k l0 a1 (!t277))) else (impl_WaitChain.j0 k l0 a1 true))) = some r := h
 clear h
 have HC3 := AM_ H
 clear H
 go_enter Try.func22, Try.ntmps22
 go_upto_region 1 with (fail)
 go_cut [15] (fun v15 wc => ∃ (kq : Nat) (x15_2 : Bool), v15 = .bool x15_2 ∧ Aside0 (impl_WaitChain.j0 kq l0 a1 x15_2 = some r) ∧ Aside0 (kq ≤ k) ∧ Aside0 (Below w.heap.size w wc))
 case first =>
  have H := HC3.out
  clear HC3
  replace H := Option.bind_eq_some_iff.mp H
  obtain ⟨t276, A40, H⟩ := H
  replace H : (if t276 = true then ((impl_isID.f a1).bind fun t277 => (impl_WaitChain.j0 k l0 a1 (!t277))) else (impl_WaitChain.j0 k l0 a1 true)) = some r := H
  have A4 := AM_ A40
  clear A40
  by_cases c5 : t276 = true
  ·subst c5
   have H1 : ((impl_isID.f a1).bind fun t277 => (impl_WaitChain.j0 k l0 a1 (!t277))) = some r := by rw [if_pos rfl] at H; exact H
   clear H
   have H := H1
   clear H1
   replace H := Option.bind_eq_some_iff.mp H
   obtain ⟨t277, A60, H⟩ := H
   replace H : (impl_WaitChain.j0 k l0 a1 (!t277)) = some r := H
   have A6 := AM_ A60
   clear A60
   have H' := AM_ H
   clear H
   go_wp2_with (first | ((with_reducible refine gate_callee (f := 18) rfl ?_); refine goesL_ (some 9) rfl rfl Try.func18 (by kernel_rfl) rfl #[.slice A0 l0.length c0] rfl (by (try simp only [List.map_toArray, List.map_cons, List.map_nil]); first | done | rfl | (simp only [List.length_drop, List.length_take]; rfl)) ?_; (with_reducible refine (impl_AreWaits.calls k _ _ l0 true _ ?side1 ?side2 A4.out).mono ?_); (case side1 => exact Kd.C_below (Kd.C_below HR0.out HB.out) (BL (Below.refl _ _) rfl rfl rfl rfl)); (case side2 => exact HC0.out); rintro e w7 ⟨rfl, hb⟩; refine ⟨_, rfl, ?_⟩; have n0_ := AM_ (below_step (by exact BL HB.out rfl rfl rfl rfl) hb); clear HB; have HB := n0_; clear n0_; (try clear hb); (try clear hb2); (try clear hk); (try clear hi)) | (go_at_call 77; (with_reducible refine (impl_isID.calls a1 t277 _ A6.out).mono ?_); rintro e w' ⟨rfl, ⟨nd, rfl⟩⟩))
   go_meet
   case rel => exact ⟨_, (!t277), (by first | rfl | (simp; done) | (simp [*]; done)), H', ⟨by first | omega | exact Nat.le_refl _⟩, ⟨by exact BL HB.out rfl rfl rfl rfl⟩⟩
  ·replace c5 := Bool.eq_false_iff.mpr c5
   subst c5
   have H1 : (impl_WaitChain.j0 k l0 a1 true) = some r := by rw [if_neg (show ¬ (false = true) by decide)] at H; exact H
   clear H
   have H := H1
   clear H1
   have H' := AM_ H
   clear H
   go_wp2_with (first | ((with_reducible refine gate_callee (f := 18) rfl ?_); refine goesL_ (some 9) rfl rfl Try.func18 (by kernel_rfl) rfl #[.slice A0 l0.length c0] rfl (by (try simp only [List.map_toArray, List.map_cons, List.map_nil]); first | done | rfl | (simp only [List.length_drop, List.length_take]; rfl)) ?_; (with_reducible refine (impl_AreWaits.calls k _ _ l0 false _ ?side1 ?side2 A4.out).mono ?_); (case side1 => exact Kd.C_below (Kd.C_below HR0.out HB.out) (BL (Below.refl _ _) rfl rfl rfl rfl)); (case side2 => exact HC0.out); rintro e w8 ⟨rfl, hb⟩; refine ⟨_, rfl, ?_⟩; have n0_ := AM_ (below_step (by exact BL HB.out rfl rfl rfl rfl) hb); clear HB; have HB := n0_; clear n0_; (try clear hb); (try clear hb2); (try clear hk); (try clear hi)))
   go_meet
   case rel => exact ⟨_, (true), (by first | rfl | (simp; done) | (simp [*]; done)), H', ⟨by first | omega | exact Nat.le_refl _⟩, ⟨by exact BL HB.out rfl rfl rfl rfl⟩⟩
 case rest =>
  clear HC3
  try clear c1
  try clear c2
  try clear p2
  try clear c5
  obtain ⟨kq, x15_2, rfl, HA, HJ2, HB⟩ := hcut
  cases kq with
  | zero => exact absurd HA.out (by simp [impl_WaitChain.j0])
  | succ kj2 =>
   have H := HA.out
   clear HA
   simp only [impl_WaitChain.j0] at H
   by_cases c9 : x15_2 = true
   ·subst c9
    have H1 : (some ([] : List Int)) = some r := by rw [if_pos rfl] at H; exact H
    clear H
    have H := H1
    clear H1
    obtain rfl := Option.some.inj H
    go_wp2
    go_ret
    exact ⟨_, by first | rfl | (simp [errW_none, errW_some] <;> rfl) | (simp [*, errW_none, errW_some] <;> rfl), by first | exact Kd.R_nil _ _ _ _ _ | exact Kd.N_nil _ _ _ _ _ | exact Kd.V_nil _ _ _ _ _ | exact Kd.Q_nil _ _ _ _ _ | exact Kd.S_nil _ _ _ _ _, by exact BL HB.out rfl rfl rfl rfl⟩
   ·replace c9 := Bool.eq_false_iff.mpr c9
    subst c9
    have H1 : (impl_WaitChain.l0 kj2 l0 (([a1] : List Int))) = some r := by rw [if_neg (show ¬ (false = true) by decide)] at H; exact H
    clear H
    have H := H1
    clear H1
    obtain ⟨y278, hy278⟩ : ∃ y_ : List Int, y_ = (([a1] : List Int)) := ⟨_, rfl⟩
    replace H : (impl_WaitChain.l0 kj2 l0 y278) = some r := by first | (rw [hy278]; with_reducible exact H) | (have H2_ := (Option.bind_some _ _).symm.trans H; rw [hy278]; with_reducible exact H2_) | (have H2_ := (Option.bind_some _ _).symm.trans H; with_reducible exact H2_) | with_reducible exact H | (rw [hy278]; exact H) | exact H
    have Ny278 := AM_ hy278
    clear hy278
    have H' := AM_ H
    clear H
    go_wp2_with (first | ((with_reducible refine gate_dst (N := 17) rfl ?_); refine Kd.R_lit (Kd.int .i64) _ 3 ?hg (N := 17) ?hd (xs := ([a1] : List Int)) (inner := [.int .i64 a1]) (ok := fun _ => True) (okp := fun _ => True) ?hr ?hp (fun _ hk => hk) trivial (Below.refl _ _) (Nat.le_refl _) (by simp) ?_; (case hd => rfl); (case hg => rfl); (case hr => first | (go_simp; done) | (go_simp; rfl)); (case hp => exact (Reps.one (show Kd.M (Kd.int .i64) _ _ _ a1 [.int .i64 a1] from rfl) (Reps.none _ _))); intro v279 w10 ho11 hb hg_ hnew_; clear hg_ hnew_; (first | rw [← Ny278.out] at ho11 | (simp only [Int.reduceToNat] at ho11; rw [← Ny278.out] at ho11)); have n0_ := AM_ (Kd.R_lower ho11 (below_size (by exact BL HB.out rfl rfl rfl rfl))); have n1_ := AM_ (below_step (by exact BL HB.out rfl rfl rfl rfl) hb); clear HB; have HO280 := n0_; have HB := n1_; clear n0_ n1_; clear hb ho11) | ((with_reducible refine gate_dst (N := 5) rfl ?_); refine box_event ?hg (N := 5) ?hd (cs := #[.slice none 0 0]) (t := 31) ?hr ?_; (case hd => rfl); (case hg => rfl); (case hr => first | (go_simp; done) | (go_simp; rfl)); intro gb281 hg w12 hbox hb; have n0_ := AM_ (Kd.R_below (by exact RL HO280.out rfl) hb); have n1_ := AM_ (below_step (by exact BL HB.out rfl rfl rfl rfl) hb); have n2_ := AM_ (hbox); have n3_ := AM_ ((by rw [hg]; exact (below_size (by exact BL HB.out rfl rfl rfl rfl)) : w.heap.size ≤ gb281)); have n4_ := AM_ ((by rw [hg]; exact (below_size (by exact BL HB.out rfl rfl rfl rfl)) : w.heap.size ≤ gb281)); clear HO280; clear HB; have HO280 := n0_; have HB := n1_; have BK281 := n2_; have GW281 := n3_; have GE281 := n4_; clear n0_ n1_ n2_ n3_ n4_; clear hb hbox hg; obtain ⟨Ao13, co13, eo13⟩ := Kd.R_slice HO280.out; subst eo13; have hcz14_0 : w12.cell? ⟨gb281, 0, none⟩ = some (.slice none 0 0) := (blk_cell BK281.out 0).trans rfl; have hfz14_0 := blk_frozen BK281.out 0))
    go_loopg [] kj2 (fun kq w' => ∃ (x282000_2 : List Int) (u282000 : Value), Aside0 (impl_WaitChain.l0 kq l0 x282000_2 = some r) ∧ Aside0 (kq ≤ kj2) ∧ Aside0 (Kd.R (Kd.int .i64) 3 w' w.heap.size (fun _ => True) u282000 x282000_2) ∧ Aside0 (w'.heap[gb281]? = some (.cells #[u282000] 31 (0, 0))) ∧ Aside0 (Below w.heap.size w w'))
    case atStart => exact ⟨(y278), (.slice Ao13 y278.length co13), H', ⟨Nat.le_refl _⟩, ⟨by (with_reducible repeat (first | apply Kd.R_alloc | apply Kd.R_drewN | apply Kd.R_drew)); exact Kd.R_mono (Kd.R_far (p := ⟨gb281, 0, none⟩) (Kd.R_types HO280.out BK281.out (by decide)) (fun _ hk => hk.2) (.slice Ao13 y278.length co13)) (fun _ hk => trivial)⟩, ⟨by (with_reducible repeat (first | refine blk_drewN ?_ _ | refine blk_drew ?_ | refine blk_alloc ?_ _)); refine blk_put (cs := #[.slice none 0 0]) ?_ 0 _ rfl; (with_reducible repeat (first | refine blk_drewN ?_ _ | refine blk_drew ?_ | refine blk_alloc ?_ _)); exact BK281.out⟩, ⟨by repeat (first | (with_reducible first | exact HB.out | apply below_alloc | apply pw_below_drewN | apply below_drew1 | refine below_set ?_ GE281.out) | exact HB.out)⟩⟩
    case round =>
     clear H'
     try clear c1
     try clear c2
     try clear p2
     try clear c5
     try clear c9
     try clear hcz14_0
     try clear hfz14_0
     try clear p2
     obtain ⟨x282000_2, u282000, HA, HK2, HO_282000, BK281, HB⟩ := hrel
     cases gk with
     | zero => exact absurd HA.out (by simp [impl_WaitChain.l0])
     | succ k2 =>
      have H := HA.out
      clear HA
      simp only [impl_WaitChain.l0] at H
      replace H := Option.bind_eq_some_iff.mp H
      obtain ⟨t282, A150, H⟩ := H
      replace H : (if t282 < 0 then (some x282000_2) else (if 0 ≤ t282 then (if t282 < (l0.length : Int) then ((slices_Contains_int_int.f k2 x282000_2 ((rd_T36 l0 t282).f1)).bind fun t284 => (if x282000_2.length < 17592186044416 then ((some (x282000_2 ++ [(rd_T36 l0 t282).f1] : List Int)).bind fun y286 => (if t284 = true then (some y286) else (impl_WaitChain.l0 k2 l0 y286))) else (none))) else (none)) else (none))) = some r := H
      have A15 := AM_ A150
      clear A150
      by_cases c16 : t282 < 0
      ·rw [if_pos c16] at H
       have c16b0 : decide (t282 < 0) = true := decide_eq_true c16
       clear c16
       obtain rfl := Option.some.inj H
       obtain ⟨Ao17, co17, eo17⟩ := Kd.R_slice HO_282000.out
       subst eo17
       go_wp2_with (first | ((with_reducible refine gate_callee (f := 83) rfl ?_); refine goesL_ (some 20) rfl rfl Try.func83 (by kernel_rfl) rfl #[.slice A0 l0.length c0, .func (.func 84) #[] #[.pointer (some ⟨gb281, 0, none⟩)]] rfl (by (try simp only [List.map_toArray, List.map_cons, List.map_nil]); first | done | rfl | (simp only [List.length_drop, List.length_take]; rfl)) ?_; (with_reducible refine (impl_Wait_83_b7.calls k2 _ _ l0 gb281 Ao17 co17 x282000_2 t282 _ ?side1 ?side2 ?side3 ?side4 ?side5 A15.out).mono ?_); (case side1 => exact Kd.C_below (Kd.C_below HR0.out HB.out) (BL (Below.refl _ _) rfl rfl rfl rfl)); (case side2 => exact HC0.out); (case side3 => exact by (with_reducible repeat (first | refine blk_drewN ?_ _ | refine blk_drew ?_ | refine blk_alloc ?_ _)); exact BK281.out); (case side4 => exact Kd.C_below (Kd.R_reads' HO_282000.out).2.2 (BL (Below.refl _ _) rfl rfl rfl rfl)); (case side5 => exact (Kd.R_reads' HO_282000.out).2.1); rintro e w18 ⟨rfl, hb⟩; refine ⟨_, rfl, ?_⟩; have n0_ := AM_ (Kd.R_below (by exact RL HO_282000.out rfl) hb); have n1_ := AM_ (blk_below (g := gb281) (o := .cells #[.slice Ao17 x282000_2.length co17] 31 (0, 0)) (by (with_reducible repeat (first | refine blk_drewN ?_ _ | refine blk_drew ?_ | refine blk_alloc ?_ _)); exact BK281.out) hb); have n2_ := AM_ (below_step (by repeat (first | (with_reducible first | exact HB.out | apply below_alloc | apply pw_below_drewN | apply below_drew1 | refine below_set ?_ GE281.out) | exact HB.out)) hb); clear HO_282000; clear BK281; clear HB; have HO_282000 := n0_; have BK281 := n1_; have HB := n2_; clear n0_ n1_ n2_; (try clear hb); (try clear hb2); (try clear hk); (try clear hi); have hcz19_0 : w18.cell? ⟨gb281, 0, none⟩ = some (.slice Ao17 x282000_2.length co17) := (blk_cell BK281.out 0).trans rfl; have hfz19_0 := blk_frozen BK281.out 0))
       go_ret
       exact ⟨_, by first | rfl | (simp [errW_none, errW_some] <;> rfl) | (simp [*, errW_none, errW_some] <;> rfl), by exact RL HO_282000.out rfl, by repeat (first | (with_reducible first | exact HB.out | apply below_alloc | apply pw_below_drewN | apply below_drew1 | refine below_set ?_ GE281.out) | exact HB.out)⟩
      ·rw [if_neg c16] at H
       have c16b0 : decide (t282 < 0) = false := decide_eq_false c16
       clear c16
       by_cases c20 : 0 ≤ t282
       ·rw [if_pos c20] at H
        have c20b0 : decide (0 ≤ t282) = true := decide_eq_true c20
        clear c20
        by_cases c21 : t282 < (l0.length : Int)
        ·rw [if_pos c21] at H
         have c21b0 : decide (t282 < (l0.length : Int)) = true := decide_eq_true c21
         clear c21
         replace H := Option.bind_eq_some_iff.mp H
         obtain ⟨t284, A220, H⟩ := H
         replace H : (if x282000_2.length < 17592186044416 then ((some (x282000_2 ++ [(rd_T36 l0 t282).f1] : List Int)).bind fun y286 => (if t284 = true then (some y286) else (impl_WaitChain.l0 k2 l0 y286))) else (none)) = some r := H
         have A22 := AM_ A220
         clear A220
         by_cases c23 : x282000_2.length < 17592186044416
         ·rw [if_pos c23] at H
          have LMc23 := AM_ c23
          clear c23
          obtain ⟨y286, hy286⟩ : ∃ y_ : List Int, y_ = (x282000_2 ++ [(rd_T36 l0 t282).f1]) := ⟨_, rfl⟩
          replace H : (if t284 = true then (some y286) else (impl_WaitChain.l0 k2 l0 y286)) = some r := by first | (rw [hy286]; with_reducible exact H) | (have H2_ := (Option.bind_some _ _).symm.trans H; rw [hy286]; with_reducible exact H2_) | (have H2_ := (Option.bind_some _ _).symm.trans H; with_reducible exact H2_) | with_reducible exact H | (rw [hy286]; exact H) | exact H
          have Ny286 := AM_ hy286
          clear hy286
          by_cases c24 : t284 = true
          ·subst c24
           have H1 : (some y286) = some r := by rw [if_pos rfl] at H; exact H
           clear H
           have H := H1
           clear H1
           obtain rfl := Option.some.inj H
           obtain ⟨Ao25, co25, eo25⟩ := Kd.R_slice HO_282000.out
           subst eo25
           try go_wp2_with (first | ((with_reducible refine gate_callee (f := 83) rfl ?_); refine goesL_ (some 20) rfl rfl Try.func83 (by kernel_rfl) rfl #[.slice A0 l0.length c0, .func (.func 84) #[] #[.pointer (some ⟨gb281, 0, none⟩)]] rfl (by (try simp only [List.map_toArray, List.map_cons, List.map_nil]); first | done | rfl | (simp only [List.length_drop, List.length_take]; rfl)) ?_; (with_reducible refine (impl_Wait_83_b7.calls k2 _ _ l0 gb281 Ao25 co25 x282000_2 t282 _ ?side1 ?side2 ?side3 ?side4 ?side5 A15.out).mono ?_); (case side1 => exact Kd.C_below (Kd.C_below HR0.out HB.out) (BL (Below.refl _ _) rfl rfl rfl rfl)); (case side2 => exact HC0.out); (case side3 => exact by (with_reducible repeat (first | refine blk_drewN ?_ _ | refine blk_drew ?_ | refine blk_alloc ?_ _)); exact BK281.out); (case side4 => exact Kd.C_below (Kd.R_reads' HO_282000.out).2.2 (BL (Below.refl _ _) rfl rfl rfl rfl)); (case side5 => exact (Kd.R_reads' HO_282000.out).2.1); rintro e w26 ⟨rfl, hb⟩; refine ⟨_, rfl, ?_⟩; have n0_ := AM_ (Kd.R_below (by exact RL HO_282000.out rfl) hb); have n1_ := AM_ (blk_below (g := gb281) (o := .cells #[.slice Ao25 x282000_2.length co25] 31 (0, 0)) (by (with_reducible repeat (first | refine blk_drewN ?_ _ | refine blk_drew ?_ | refine blk_alloc ?_ _)); exact BK281.out) hb); have n2_ := AM_ (below_step (by repeat (first | (with_reducible first | exact HB.out | apply below_alloc | apply pw_below_drewN | apply below_drew1 | refine below_set ?_ GE281.out) | exact HB.out)) hb); clear HO_282000; clear BK281; clear HB; have HO_282000 := n0_; have BK281 := n1_; have HB := n2_; clear n0_ n1_ n2_; (try clear hb); (try clear hb2); (try clear hk); (try clear hi)))
           have n0_ := AM_ (Kd.R_drew HO_282000.out)
           have n1_ := AM_ (blk_drew BK281.out)
           have n2_ := AM_ (below_drew1 HB.out)
           clear HO_282000
           clear BK281
           clear HB
           have HO_282000 := n0_
           have BK281 := n1_
           have HB := n2_
           clear n0_ n1_ n2_
           have p283 : 0 ≤ (t282 : Int) := of_decide_eq_true (by first | (with_reducible assumption) | assumption)
           have q283 : t282 < (l0.length : Int) := of_decide_eq_true (by first | (with_reducible assumption) | assumption)
           obtain ⟨ad283, e283, hx283_0, hx283_1⟩ := at_T36 HR0.out t282 p283 q283
           have hw283_1 := hx283_1
           have hw283_0 := hx283_0
           cases e283
           replace hx283_0 := BC HB.out hx283_0
           replace hx283_1 := BC HB.out hx283_1
           replace p283 := eq_true p283
           replace q283 := eq_true q283
           refine start_ (n := 8) (S := fun w' => w'.cell? ⟨gb281, 0, none⟩ = some (.slice Ao25 x282000_2.length co25) ∧ w'.cell? (ad283.add ((t282).toNat * 2)) = some (.int .i64 ((rd_T36 l0 t282).f0)) ∧ w'.cell? ⟨(ad283.add ((t282).toNat * 2)).block, (ad283.add ((t282).toNat * 2)).off + 1, none⟩ = some (.int .i64 ((rd_T36 l0 t282).f1))) (ds := []) (bs 0 8) (by kernel_rfl) rfl rfl ⟨(blk_cell BK281.out 0).trans rfl, (BD HB.out hw283_0), (BD HB.out hw283_1)⟩ (fun hHeld => ?_); refine with_tabW impl_WaitChain.tab7 impl_WaitChain.bits7 (fun HT_ HW_ => ?_)
           generalize w26.drew = w27 at HO_282000 BK281 HB hx283_0 hx283_1 hHeld ⊢
           refine pure_ (i := 1) (N := some 25) (v := ?_) (a' := ?_) (bs 2 8) rfl rfl (any_of HT_.out (by kernel_rfl)) (fun _ _ _ h => h) (Or.inl ⟨by rfl, ?_⟩) ?_ ?_
           rotate_left
           ·intro w'
            go_simp
            with_reducible rfl
           rotate_left
           ·simp only [pA, pS, pZ, pK, i64_w, i32_w]
            rfl
           refine pure_ (i := 2) (N := some 26) (v := ?_) (a' := ?_) (bs 6 8) rfl rfl (any_of HT_.out (by kernel_rfl)) (fun _ _ _ h => h) (Or.inl ⟨by rfl, ?_⟩) ?_ ?_
           rotate_left
           ·intro w'
            go_simp
            with_reducible rfl
           rotate_left
           ·simp only [pA, pS, pZ, pK, i64_w, i32_w]
            rfl
           refine pure_ (i := 3) (N := some 27) (v := ?_) (a' := ?_) (bs 14 8) rfl rfl (any_of HT_.out (by kernel_rfl)) (fun _ _ _ h => h) (Or.inl ⟨by rfl, ?_⟩) ?_ ?_
           rotate_left
           ·intro w'
            go_simp
            with_reducible rfl
           rotate_left
           ·simp only [pA, pS, pZ, pK, i64_w, i32_w]
            rfl
           refine pure_ (i := 4) (N := some 28) (v := ?_) (a' := ?_) (bs 30 8) rfl rfl (any_of HT_.out (by kernel_rfl)) (fun _ _ _ h => h) (Or.inl ⟨by rfl, ?_⟩) ?_ ?_
           rotate_left
           ·intro w'
            go_simp
            with_reducible rfl
           rotate_left
           ·simp only [pA, pS, pZ, pK, i64_w, i32_w]
            rfl
           refine take_ (i := 0) (N := some 24) (v := ?_) (a' := ?_) (bs 31 8) rfl rfl (take_ofW HT_.out HW_.out (by kernel_rfl)) (fun _ _ _ h => h) (Or.inl ⟨by rfl, ?_⟩) hHeld ?_ ?_
           rotate_left
           ·rintro w' ⟨s0, s1, s2⟩
            go_simp
            with_reducible rfl
           rotate_left
           ·simp only [pA, pS, pZ, pK, i64_w, i32_w]
            rfl
           refine take_ (i := 5) (N := some 29) (v := ?_) (a' := ?_) (bs 63 8) rfl rfl (take_ofW HT_.out HW_.out (by kernel_rfl)) (fun _ _ _ h => h) (Or.inl ⟨by rfl, ?_⟩) hHeld ?_ ?_
           rotate_left
           ·rintro w' ⟨s0, s1, s2⟩
            go_simp
            with_reducible rfl
           rotate_left
           ·simp only [pA, pS, pZ, pK, i64_w, i32_w]
            rfl
           refine one_ (i := 6) (N := some 30) (bs 127 8) rfl rfl (one_of HT_.out (by kernel_rfl)) (by decide) (fun K hK => ?_)
           refine goes_ Try.func85 (by kernel_rfl) rfl #[.slice Ao25 x282000_2.length co25, .int .i64 ((rd_T36 l0 t282).f1)] (by rfl) rfl rfl (by (try simp only [List.map_toArray, List.map_cons, List.map_nil]); first | done | rfl | (simp only [List.length_drop, List.length_take]; rfl)) ?_
           with_reducible refine (slices_Contains_int_int.calls k2 _ _ x282000_2 ((rd_T36 l0 t282).f1) true _ ?side1 ?side2 A22.out).mono ?_
           (case side1 => exact Kd.C_below (Kd.R_reads' HO_282000.out).2.2 (BL (Below.refl _ _) rfl rfl rfl rfl))
           (case side2 => exact (Kd.R_reads' HO_282000.out).2.1)
           rintro e w' ⟨rfl, ⟨nd, rfl⟩⟩
           refine ⟨_, rfl, ?_⟩
           refine hK.out _ _ ⟨(blk_cell BK281.out 0).trans rfl, (BD HB.out hw283_0), (BD HB.out hw283_1)⟩ (fun hHeld => ?_)
           clear hK K
           refine norm_ (a' := ?_) ?_ ?_
           rotate_left
           ·show Act.put _ (some 30) _ = _
            simp only [pA, pS, pZ, pK, i64_w, i32_w]
            rfl
           refine pure_ (i := 7) (N := some 7) (v := ?_) (a' := ?_) (bs 255 8) rfl rfl (any_of HT_.out (by kernel_rfl)) (fun _ _ _ h => h) (Or.inl ⟨by rfl, ?_⟩) ?_ ?_
           rotate_left
           ·intro w'
            go_simp
            with_reducible rfl
           rotate_left
           ·simp only [pA, pS, pZ, pK, i64_w, i32_w]
            rfl
           refine done_ (done_of HT_.out (by kernel_rfl)) ?_
           try go_wp2
           (try (rw [drewN_self w27]; generalize hq_ : World.drewN w27 _ = w27; have n0_ : Aside0 (Kd.R (Kd.int .i64) 3 w27 w.heap.size (fun _ => True) (.slice Ao25 x282000_2.length co25) x282000_2) := ⟨by rw [← hq_]; exact (by exact RL HO_282000.out rfl)⟩; have n1_ : Aside0 (w27.heap[gb281]? = some (.cells #[.slice Ao25 x282000_2.length co25] 31 (0, 0))) := ⟨by rw [← hq_]; exact (by (with_reducible repeat (first | refine blk_drewN ?_ _ | refine blk_drew ?_ | refine blk_alloc ?_ _)); exact BK281.out)⟩; have n2_ : Aside0 (Below w.heap.size w w27) := ⟨by rw [← hq_]; exact (by repeat (first | (with_reducible first | exact HB.out | apply below_alloc | apply pw_below_drewN | apply below_drew1 | refine below_set ?_ GE281.out) | exact HB.out))⟩; clear HO_282000 BK281 HB hq_; have HO_282000 := n0_; have BK281 := n1_; have HB := n2_; clear n0_ n1_ n2_))
           have n0_ := AM_ (Kd.R_drew HO_282000.out)
           have n1_ := AM_ (blk_drew BK281.out)
           have n2_ := AM_ (below_drew1 HB.out)
           clear HO_282000
           clear BK281
           clear HB
           have HO_282000 := n0_
           have BK281 := n1_
           have HB := n2_
           clear n0_ n1_ n2_
           have p285 : 0 ≤ (t282 : Int) := of_decide_eq_true (by first | (with_reducible assumption) | assumption)
           have q285 : t282 < (l0.length : Int) := of_decide_eq_true (by first | (with_reducible assumption) | assumption)
           obtain ⟨ad285, e285, hx285_0, hx285_1⟩ := at_T36 HR0.out t282 p285 q285
           have hw285_1 := hx285_1
           have hw285_0 := hx285_0
           obtain rfl : ad283 = ad285 := (by injection e285)
           replace hx285_0 := BC HB.out hx285_0
           replace hx285_1 := BC HB.out hx285_1
           replace p285 := eq_true p285
           replace q285 := eq_true q285
           refine start_ (n := 9) (S := fun w' => w'.cell? ⟨gb281, 0, none⟩ = some (.slice Ao25 x282000_2.length co25) ∧ w'.cell? (ad283.add ((t282).toNat * 2)) = some (.int .i64 ((rd_T36 l0 t282).f0)) ∧ w'.cell? ⟨(ad283.add ((t282).toNat * 2)).block, (ad283.add ((t282).toNat * 2)).off + 1, none⟩ = some (.int .i64 ((rd_T36 l0 t282).f1))) (ds := [8]) (bs 0 9) (by kernel_rfl) rfl rfl ⟨(blk_cell BK281.out 0).trans rfl, (BD HB.out hw285_0), (BD HB.out hw285_1)⟩ (fun hHeld => ?_); refine with_tabW impl_WaitChain.tab8 impl_WaitChain.bits8 (fun HT_ HW_ => ?_)
           generalize w27.drew = w28 at HO_282000 BK281 HB hx285_0 hx285_1 hHeld ⊢
           refine pure_ (i := 1) (N := some 32) (v := ?_) (a' := ?_) (bs 2 9) rfl rfl (any_of HT_.out (by kernel_rfl)) (fun _ _ _ h => h) (Or.inl ⟨by rfl, ?_⟩) ?_ ?_
           rotate_left
           ·intro w'
            go_simp
            with_reducible rfl
           rotate_left
           ·simp only [pA, pS, pZ, pK, i64_w, i32_w]
            rfl
           refine pure_ (i := 2) (N := some 33) (v := ?_) (a' := ?_) (bs 6 9) rfl rfl (any_of HT_.out (by kernel_rfl)) (fun _ _ _ h => h) (Or.inl ⟨by rfl, ?_⟩) ?_ ?_
           rotate_left
           ·intro w'
            go_simp
            with_reducible rfl
           rotate_left
           ·simp only [pA, pS, pZ, pK, i64_w, i32_w]
            rfl
           refine pure_ (i := 3) (N := some 34) (v := ?_) (a' := ?_) (bs 14 9) rfl rfl (any_of HT_.out (by kernel_rfl)) (fun _ _ _ h => h) (Or.inl ⟨by rfl, ?_⟩) ?_ ?_
           rotate_left
           ·intro w'
            go_simp
            with_reducible rfl
           rotate_left
           ·simp only [pA, pS, pZ, pK, i64_w, i32_w]
            rfl
           refine pure_ (i := 4) (N := some 35) (v := ?_) (a' := ?_) (bs 30 9) rfl rfl (any_of HT_.out (by kernel_rfl)) (fun _ _ _ h => h) (Or.inl ⟨by rfl, ?_⟩) ?_ ?_
           rotate_left
           ·intro w'
            go_simp
            with_reducible rfl
           rotate_left
           ·simp only [pA, pS, pZ, pK, i64_w, i32_w]
            rfl
           refine take_ (i := 0) (N := some 31) (v := ?_) (a' := ?_) (bs 31 9) rfl rfl (take_ofW HT_.out HW_.out (by kernel_rfl)) (fun _ _ _ h => h) (Or.inl ⟨by rfl, ?_⟩) hHeld ?_ ?_
           rotate_left
           ·rintro w' ⟨s0, s1, s2⟩
            go_simp
            with_reducible rfl
           rotate_left
           ·simp only [pA, pS, pZ, pK, i64_w, i32_w]
            rfl
           refine take_ (i := 5) (N := some 36) (v := ?_) (a' := ?_) (bs 63 9) rfl rfl (take_ofW HT_.out HW_.out (by kernel_rfl)) (fun _ _ _ h => h) (Or.inl ⟨by rfl, ?_⟩) hHeld ?_ ?_
           rotate_left
           ·rintro w' ⟨s0, s1, s2⟩
            go_simp
            with_reducible rfl
           rotate_left
           ·simp only [pA, pS, pZ, pK, i64_w, i32_w]
            rfl
           refine one_ (i := 6) (N := some 37) (bs 127 9) rfl rfl (one_of HT_.out (by kernel_rfl)) (by decide) (fun K hK => ?_)
           refine value_ (w1 := ?_) (v := ?_) (by rfl) rfl ?_ ?_
           rotate_left 2
           ·go_simp
            constructor
            ·rfl
            ·rfl
           refine hK.out _ _ ⟨(blk_cell (blk_alloc BK281.out _) 0).trans rfl, (World.cell?_alloc_lt _ _ _ (World.block_lt_of_cell? _ _ ((BD HB.out hw285_0)))).trans ((BD HB.out hw285_0)), (World.cell?_alloc_lt _ _ _ (World.block_lt_of_cell? _ _ ((BD HB.out hw285_1)))).trans ((BD HB.out hw285_1))⟩ (fun hHeld => ?_)
           clear hK K
           refine norm_ (a' := ?_) ?_ ?_
           rotate_left
           ·show Act.put _ (some 37) _ = _
            simp only [pA, pS, pZ, pK, i64_w, i32_w]
            rfl
           refine one_ (i := 7) (N := some 38) (bs 255 9) rfl rfl (one_of HT_.out (by kernel_rfl)) (by decide) (fun K hK => ?_)
           refine Kd.R_append_step (Kd.int .i64) (w0 := w) w.heap.size (by rfl) (.tmp 31) (.tmp 37) 31 3 (.int .i64 0) 8 rfl Try.underlying31 info3 rfl (by decide) (by omega) (.slice Ao25 x282000_2.length co25) x282000_2 ((rd_T36 l0 t282).f1) [.int .i64 ((rd_T36 l0 t282).f1)] (fun _ => True) (fun _ => False) rfl rfl ?aP (fun _ hk => hk.elim) ?aF ?aO ?aB ?aS ?aL ?_
           (case aP => exact rfl)
           (case aB => exact (by repeat (first | (with_reducible first | exact HB.out | apply below_alloc | apply pw_below_drewN | apply below_drew1 | refine below_set ?_ GE281.out) | exact HB.out)))
           (case aF => exact (fun _ _ => trivial))
           (case aO => exact (by exact RL HO_282000.out rfl))
           (case aS => exact (below_size (by repeat (first | (with_reducible first | exact HB.out | apply below_alloc | apply pw_below_drewN | apply below_drew1 | refine below_set ?_ GE281.out) | exact HB.out))))
           (case aL => have := LMc23.out; omega)
           intro v287 w29 ho hb hg hat
           rw [← Ny286.out] at ho
           have n0_ := AM_ (blk_grown (g := gb281) (o := .cells #[.slice Ao25 x282000_2.length co25] 31 (0, 0)) (by (with_reducible repeat (first | refine blk_drewN ?_ _ | refine blk_drew ?_ | refine blk_alloc ?_ _)); exact BK281.out) hg (Kd.R_ne HO_282000.out BK281.out (by decide)))
           have n1_ := AM_ (hb)
           have n2_ := AM_ (ho)
           clear BK281
           clear HB
           clear HO_282000
           have BK281 := n0_
           have HB := n1_
           have HO288 := n2_
           clear n0_ n1_ n2_
           clear ho hb hg hat
           obtain ⟨Ao30, co30, eo30⟩ := Kd.R_slice HO288.out
           (first | subst eo30 | (injection eo30 with f1_ f2_ f3_; have f4_ := f1_.symm; have f5_ := f3_.symm; clear f1_ f2_ f3_; subst f4_; subst f5_))
           refine hK.out _ _ ⟨(blk_cell BK281.out 0).trans rfl, (BD HB.out hw285_0), (BD HB.out hw285_1)⟩ (fun hHeld => ?_)
           clear hK K
           refine norm_ (a' := ?_) ?_ ?_
           rotate_left
           ·show Act.put _ (some 38) _ = _
            simp only [pA, pS, pZ, pK, i64_w, i32_w]
            rfl
           refine last_ (i := 8) (N := none) (bs 511 9) rfl rfl (one_of HT_.out (by kernel_rfl)) (by decide) (fun K hK => ?_)
           have hs31 : w29.cell? ⟨gb281, 0, none⟩ = some (.slice Ao25 x282000_2.length co25) := (blk_cell BK281.out 0).trans rfl
           have hfs31 := blk_frozen BK281.out 0
           refine skip_ (w1 := ?_) (by rfl) rfl ?_ ?_
           rotate_left
           ·go_simp
            rfl
           refine hK.out _ _ ?_
           clear hK K
           refine done_ (done_of HT_.out (by kernel_rfl)) ?_
           have hcz32_0 : w29.cell? ⟨gb281, 0, none⟩ = some (.slice Ao25 x282000_2.length co25) := (blk_cell BK281.out 0).trans rfl
           have hfz32_0 := blk_frozen BK281.out 0
           try go_wp2
           go_ret
           exact ⟨_, by first | rfl | (simp [errW_none, errW_some] <;> rfl) | (simp [*, errW_none, errW_some] <;> rfl), by (with_reducible repeat (first | apply Kd.R_alloc | apply Kd.R_drewN | apply Kd.R_drew)); exact Kd.R_mono (Kd.R_far (p := ⟨gb281, 0, none⟩) (Kd.R_types HO288.out BK281.out (by decide)) (fun _ hk => hk.2) (.slice Ao30 y286.length co30)) (fun _ hk => trivial), by repeat (first | (with_reducible first | exact HB.out | apply below_alloc | apply pw_below_drewN | apply below_drew1 | refine below_set ?_ GE281.out) | exact HB.out)⟩
          ·replace c24 := Bool.eq_false_iff.mpr c24
           subst c24
           have H1 : (impl_WaitChain.l0 k2 l0 y286) = some r := by rw [if_neg (show ¬ (false = true) by decide)] at H; exact H
           clear H
           have H := H1
           clear H1
           have H' := AM_ H
           clear H
           obtain ⟨Ao33, co33, eo33⟩ := Kd.R_slice HO_282000.out
           subst eo33
           try go_wp2_with (first | ((with_reducible refine gate_callee (f := 83) rfl ?_); refine goesL_ (some 20) rfl rfl Try.func83 (by kernel_rfl) rfl #[.slice A0 l0.length c0, .func (.func 84) #[] #[.pointer (some ⟨gb281, 0, none⟩)]] rfl (by (try simp only [List.map_toArray, List.map_cons, List.map_nil]); first | done | rfl | (simp only [List.length_drop, List.length_take]; rfl)) ?_; (with_reducible refine (impl_Wait_83_b7.calls k2 _ _ l0 gb281 Ao33 co33 x282000_2 t282 _ ?side1 ?side2 ?side3 ?side4 ?side5 A15.out).mono ?_); (case side1 => exact Kd.C_below (Kd.C_below HR0.out HB.out) (BL (Below.refl _ _) rfl rfl rfl rfl)); (case side2 => exact HC0.out); (case side3 => exact by (with_reducible repeat (first | refine blk_drewN ?_ _ | refine blk_drew ?_ | refine blk_alloc ?_ _)); exact BK281.out); (case side4 => exact Kd.C_below (Kd.R_reads' HO_282000.out).2.2 (BL (Below.refl _ _) rfl rfl rfl rfl)); (case side5 => exact (Kd.R_reads' HO_282000.out).2.1); rintro e w34 ⟨rfl, hb⟩; refine ⟨_, rfl, ?_⟩; have n0_ := AM_ (Kd.R_below (by exact RL HO_282000.out rfl) hb); have n1_ := AM_ (blk_below (g := gb281) (o := .cells #[.slice Ao33 x282000_2.length co33] 31 (0, 0)) (by (with_reducible repeat (first | refine blk_drewN ?_ _ | refine blk_drew ?_ | refine blk_alloc ?_ _)); exact BK281.out) hb); have n2_ := AM_ (below_step (by repeat (first | (with_reducible first | exact HB.out | apply below_alloc | apply pw_below_drewN | apply below_drew1 | refine below_set ?_ GE281.out) | exact HB.out)) hb); clear HO_282000; clear BK281; clear HB; have HO_282000 := n0_; have BK281 := n1_; have HB := n2_; clear n0_ n1_ n2_; (try clear hb); (try clear hb2); (try clear hk); (try clear hi)))
           have n0_ := AM_ (Kd.R_drew HO_282000.out)
           have n1_ := AM_ (blk_drew BK281.out)
           have n2_ := AM_ (below_drew1 HB.out)
           clear HO_282000
           clear BK281
           clear HB
           have HO_282000 := n0_
           have BK281 := n1_
           have HB := n2_
           clear n0_ n1_ n2_
           have p283 : 0 ≤ (t282 : Int) := of_decide_eq_true (by first | (with_reducible assumption) | assumption)
           have q283 : t282 < (l0.length : Int) := of_decide_eq_true (by first | (with_reducible assumption) | assumption)
           obtain ⟨ad283, e283, hx283_0, hx283_1⟩ := at_T36 HR0.out t282 p283 q283
           have hw283_1 := hx283_1
           have hw283_0 := hx283_0
           cases e283
           replace hx283_0 := BC HB.out hx283_0
           replace hx283_1 := BC HB.out hx283_1
           replace p283 := eq_true p283
           replace q283 := eq_true q283
           refine start_ (n := 8) (S := fun w' => w'.cell? ⟨gb281, 0, none⟩ = some (.slice Ao33 x282000_2.length co33) ∧ w'.cell? (ad283.add ((t282).toNat * 2)) = some (.int .i64 ((rd_T36 l0 t282).f0)) ∧ w'.cell? ⟨(ad283.add ((t282).toNat * 2)).block, (ad283.add ((t282).toNat * 2)).off + 1, none⟩ = some (.int .i64 ((rd_T36 l0 t282).f1))) (ds := []) (bs 0 8) (by kernel_rfl) rfl rfl ⟨(blk_cell BK281.out 0).trans rfl, (BD HB.out hw283_0), (BD HB.out hw283_1)⟩ (fun hHeld => ?_); refine with_tabW impl_WaitChain.tab7 impl_WaitChain.bits7 (fun HT_ HW_ => ?_)
           generalize w34.drew = w35 at HO_282000 BK281 HB hx283_0 hx283_1 hHeld ⊢
           refine pure_ (i := 1) (N := some 25) (v := ?_) (a' := ?_) (bs 2 8) rfl rfl (any_of HT_.out (by kernel_rfl)) (fun _ _ _ h => h) (Or.inl ⟨by rfl, ?_⟩) ?_ ?_
           rotate_left
           ·intro w'
            go_simp
            with_reducible rfl
           rotate_left
           ·simp only [pA, pS, pZ, pK, i64_w, i32_w]
            rfl
           refine pure_ (i := 2) (N := some 26) (v := ?_) (a' := ?_) (bs 6 8) rfl rfl (any_of HT_.out (by kernel_rfl)) (fun _ _ _ h => h) (Or.inl ⟨by rfl, ?_⟩) ?_ ?_
           rotate_left
           ·intro w'
            go_simp
            with_reducible rfl
           rotate_left
           ·simp only [pA, pS, pZ, pK, i64_w, i32_w]
            rfl
           refine pure_ (i := 3) (N := some 27) (v := ?_) (a' := ?_) (bs 14 8) rfl rfl (any_of HT_.out (by kernel_rfl)) (fun _ _ _ h => h) (Or.inl ⟨by rfl, ?_⟩) ?_ ?_
           rotate_left
           ·intro w'
            go_simp
            with_reducible rfl
           rotate_left
           ·simp only [pA, pS, pZ, pK, i64_w, i32_w]
            rfl
           refine pure_ (i := 4) (N := some 28) (v := ?_) (a' := ?_) (bs 30 8) rfl rfl (any_of HT_.out (by kernel_rfl)) (fun _ _ _ h => h) (Or.inl ⟨by rfl, ?_⟩) ?_ ?_
           rotate_left
           ·intro w'
            go_simp
            with_reducible rfl
           rotate_left
           ·simp only [pA, pS, pZ, pK, i64_w, i32_w]
            rfl
           refine take_ (i := 0) (N := some 24) (v := ?_) (a' := ?_) (bs 31 8) rfl rfl (take_ofW HT_.out HW_.out (by kernel_rfl)) (fun _ _ _ h => h) (Or.inl ⟨by rfl, ?_⟩) hHeld ?_ ?_
           rotate_left
           ·rintro w' ⟨s0, s1, s2⟩
            go_simp
            with_reducible rfl
           rotate_left
           ·simp only [pA, pS, pZ, pK, i64_w, i32_w]
            rfl
           refine take_ (i := 5) (N := some 29) (v := ?_) (a' := ?_) (bs 63 8) rfl rfl (take_ofW HT_.out HW_.out (by kernel_rfl)) (fun _ _ _ h => h) (Or.inl ⟨by rfl, ?_⟩) hHeld ?_ ?_
           rotate_left
           ·rintro w' ⟨s0, s1, s2⟩
            go_simp
            with_reducible rfl
           rotate_left
           ·simp only [pA, pS, pZ, pK, i64_w, i32_w]
            rfl
           refine one_ (i := 6) (N := some 30) (bs 127 8) rfl rfl (one_of HT_.out (by kernel_rfl)) (by decide) (fun K hK => ?_)
           refine goes_ Try.func85 (by kernel_rfl) rfl #[.slice Ao33 x282000_2.length co33, .int .i64 ((rd_T36 l0 t282).f1)] (by rfl) rfl rfl (by (try simp only [List.map_toArray, List.map_cons, List.map_nil]); first | done | rfl | (simp only [List.length_drop, List.length_take]; rfl)) ?_
           with_reducible refine (slices_Contains_int_int.calls k2 _ _ x282000_2 ((rd_T36 l0 t282).f1) false _ ?side1 ?side2 A22.out).mono ?_
           (case side1 => exact Kd.C_below (Kd.R_reads' HO_282000.out).2.2 (BL (Below.refl _ _) rfl rfl rfl rfl))
           (case side2 => exact (Kd.R_reads' HO_282000.out).2.1)
           rintro e w' ⟨rfl, ⟨nd, rfl⟩⟩
           refine ⟨_, rfl, ?_⟩
           refine hK.out _ _ ⟨(blk_cell BK281.out 0).trans rfl, (BD HB.out hw283_0), (BD HB.out hw283_1)⟩ (fun hHeld => ?_)
           clear hK K
           refine norm_ (a' := ?_) ?_ ?_
           rotate_left
           ·show Act.put _ (some 30) _ = _
            simp only [pA, pS, pZ, pK, i64_w, i32_w]
            rfl
           refine pure_ (i := 7) (N := some 7) (v := ?_) (a' := ?_) (bs 255 8) rfl rfl (any_of HT_.out (by kernel_rfl)) (fun _ _ _ h => h) (Or.inl ⟨by rfl, ?_⟩) ?_ ?_
           rotate_left
           ·intro w'
            go_simp
            with_reducible rfl
           rotate_left
           ·simp only [pA, pS, pZ, pK, i64_w, i32_w]
            rfl
           refine done_ (done_of HT_.out (by kernel_rfl)) ?_
           try go_wp2
           (try (rw [drewN_self w35]; generalize hq_ : World.drewN w35 _ = w35; have n0_ : Aside0 (Kd.R (Kd.int .i64) 3 w35 w.heap.size (fun _ => True) (.slice Ao33 x282000_2.length co33) x282000_2) := ⟨by rw [← hq_]; exact (by exact RL HO_282000.out rfl)⟩; have n1_ : Aside0 (w35.heap[gb281]? = some (.cells #[.slice Ao33 x282000_2.length co33] 31 (0, 0))) := ⟨by rw [← hq_]; exact (by (with_reducible repeat (first | refine blk_drewN ?_ _ | refine blk_drew ?_ | refine blk_alloc ?_ _)); exact BK281.out)⟩; have n2_ : Aside0 (Below w.heap.size w w35) := ⟨by rw [← hq_]; exact (by repeat (first | (with_reducible first | exact HB.out | apply below_alloc | apply pw_below_drewN | apply below_drew1 | refine below_set ?_ GE281.out) | exact HB.out))⟩; clear HO_282000 BK281 HB hq_; have HO_282000 := n0_; have BK281 := n1_; have HB := n2_; clear n0_ n1_ n2_))
           have n0_ := AM_ (Kd.R_drew HO_282000.out)
           have n1_ := AM_ (blk_drew BK281.out)
           have n2_ := AM_ (below_drew1 HB.out)
           clear HO_282000
           clear BK281
           clear HB
           have HO_282000 := n0_
           have BK281 := n1_
           have HB := n2_
           clear n0_ n1_ n2_
           have p285 : 0 ≤ (t282 : Int) := of_decide_eq_true (by first | (with_reducible assumption) | assumption)
           have q285 : t282 < (l0.length : Int) := of_decide_eq_true (by first | (with_reducible assumption) | assumption)
           obtain ⟨ad285, e285, hx285_0, hx285_1⟩ := at_T36 HR0.out t282 p285 q285
           have hw285_1 := hx285_1
           have hw285_0 := hx285_0
           obtain rfl : ad283 = ad285 := (by injection e285)
           replace hx285_0 := BC HB.out hx285_0
           replace hx285_1 := BC HB.out hx285_1
           replace p285 := eq_true p285
           replace q285 := eq_true q285
           refine start_ (n := 9) (S := fun w' => w'.cell? ⟨gb281, 0, none⟩ = some (.slice Ao33 x282000_2.length co33) ∧ w'.cell? (ad283.add ((t282).toNat * 2)) = some (.int .i64 ((rd_T36 l0 t282).f0)) ∧ w'.cell? ⟨(ad283.add ((t282).toNat * 2)).block, (ad283.add ((t282).toNat * 2)).off + 1, none⟩ = some (.int .i64 ((rd_T36 l0 t282).f1))) (ds := [8]) (bs 0 9) (by kernel_rfl) rfl rfl ⟨(blk_cell BK281.out 0).trans rfl, (BD HB.out hw285_0), (BD HB.out hw285_1)⟩ (fun hHeld => ?_); refine with_tabW impl_WaitChain.tab8 impl_WaitChain.bits8 (fun HT_ HW_ => ?_)
           generalize w35.drew = w36 at HO_282000 BK281 HB hx285_0 hx285_1 hHeld ⊢
           refine pure_ (i := 1) (N := some 32) (v := ?_) (a' := ?_) (bs 2 9) rfl rfl (any_of HT_.out (by kernel_rfl)) (fun _ _ _ h => h) (Or.inl ⟨by rfl, ?_⟩) ?_ ?_
           rotate_left
           ·intro w'
            go_simp
            with_reducible rfl
           rotate_left
           ·simp only [pA, pS, pZ, pK, i64_w, i32_w]
            rfl
           refine pure_ (i := 2) (N := some 33) (v := ?_) (a' := ?_) (bs 6 9) rfl rfl (any_of HT_.out (by kernel_rfl)) (fun _ _ _ h => h) (Or.inl ⟨by rfl, ?_⟩) ?_ ?_
           rotate_left
           ·intro w'
            go_simp
            with_reducible rfl
           rotate_left
           ·simp only [pA, pS, pZ, pK, i64_w, i32_w]
            rfl
           refine pure_ (i := 3) (N := some 34) (v := ?_) (a' := ?_) (bs 14 9) rfl rfl (any_of HT_.out (by kernel_rfl)) (fun _ _ _ h => h) (Or.inl ⟨by rfl, ?_⟩) ?_ ?_
           rotate_left
           ·intro w'
            go_simp
            with_reducible rfl
           rotate_left
           ·simp only [pA, pS, pZ, pK, i64_w, i32_w]
            rfl
           refine pure_ (i := 4) (N := some 35) (v := ?_) (a' := ?_) (bs 30 9) rfl rfl (any_of HT_.out (by kernel_rfl)) (fun _ _ _ h => h) (Or.inl ⟨by rfl, ?_⟩) ?_ ?_
           rotate_left
           ·intro w'
            go_simp
            with_reducible rfl
           rotate_left
           ·simp only [pA, pS, pZ, pK, i64_w, i32_w]
            rfl
           refine take_ (i := 0) (N := some 31) (v := ?_) (a' := ?_) (bs 31 9) rfl rfl (take_ofW HT_.out HW_.out (by kernel_rfl)) (fun _ _ _ h => h) (Or.inl ⟨by rfl, ?_⟩) hHeld ?_ ?_
           rotate_left
           ·rintro w' ⟨s0, s1, s2⟩
            go_simp
            with_reducible rfl
           rotate_left
           ·simp only [pA, pS, pZ, pK, i64_w, i32_w]
            rfl
           refine take_ (i := 5) (N := some 36) (v := ?_) (a' := ?_) (bs 63 9) rfl rfl (take_ofW HT_.out HW_.out (by kernel_rfl)) (fun _ _ _ h => h) (Or.inl ⟨by rfl, ?_⟩) hHeld ?_ ?_
           rotate_left
           ·rintro w' ⟨s0, s1, s2⟩
            go_simp
            with_reducible rfl
           rotate_left
           ·simp only [pA, pS, pZ, pK, i64_w, i32_w]
            rfl
           refine one_ (i := 6) (N := some 37) (bs 127 9) rfl rfl (one_of HT_.out (by kernel_rfl)) (by decide) (fun K hK => ?_)
           refine value_ (w1 := ?_) (v := ?_) (by rfl) rfl ?_ ?_
           rotate_left 2
           ·go_simp
            constructor
            ·rfl
            ·rfl
           refine hK.out _ _ ⟨(blk_cell (blk_alloc BK281.out _) 0).trans rfl, (World.cell?_alloc_lt _ _ _ (World.block_lt_of_cell? _ _ ((BD HB.out hw285_0)))).trans ((BD HB.out hw285_0)), (World.cell?_alloc_lt _ _ _ (World.block_lt_of_cell? _ _ ((BD HB.out hw285_1)))).trans ((BD HB.out hw285_1))⟩ (fun hHeld => ?_)
           clear hK K
           refine norm_ (a' := ?_) ?_ ?_
           rotate_left
           ·show Act.put _ (some 37) _ = _
            simp only [pA, pS, pZ, pK, i64_w, i32_w]
            rfl
           refine one_ (i := 7) (N := some 38) (bs 255 9) rfl rfl (one_of HT_.out (by kernel_rfl)) (by decide) (fun K hK => ?_)
           refine Kd.R_append_step (Kd.int .i64) (w0 := w) w.heap.size (by rfl) (.tmp 31) (.tmp 37) 31 3 (.int .i64 0) 8 rfl Try.underlying31 info3 rfl (by decide) (by omega) (.slice Ao33 x282000_2.length co33) x282000_2 ((rd_T36 l0 t282).f1) [.int .i64 ((rd_T36 l0 t282).f1)] (fun _ => True) (fun _ => False) rfl rfl ?aP (fun _ hk => hk.elim) ?aF ?aO ?aB ?aS ?aL ?_
           (case aP => exact rfl)
           (case aB => exact (by repeat (first | (with_reducible first | exact HB.out | apply below_alloc | apply pw_below_drewN | apply below_drew1 | refine below_set ?_ GE281.out) | exact HB.out)))
           (case aF => exact (fun _ _ => trivial))
           (case aO => exact (by exact RL HO_282000.out rfl))
           (case aS => exact (below_size (by repeat (first | (with_reducible first | exact HB.out | apply below_alloc | apply pw_below_drewN | apply below_drew1 | refine below_set ?_ GE281.out) | exact HB.out))))
           (case aL => have := LMc23.out; omega)
           intro v287 w37 ho hb hg hat
           rw [← Ny286.out] at ho
           have n0_ := AM_ (blk_grown (g := gb281) (o := .cells #[.slice Ao33 x282000_2.length co33] 31 (0, 0)) (by (with_reducible repeat (first | refine blk_drewN ?_ _ | refine blk_drew ?_ | refine blk_alloc ?_ _)); exact BK281.out) hg (Kd.R_ne HO_282000.out BK281.out (by decide)))
           have n1_ := AM_ (hb)
           have n2_ := AM_ (ho)
           clear BK281
           clear HB
           clear HO_282000
           have BK281 := n0_
           have HB := n1_
           have HO288 := n2_
           clear n0_ n1_ n2_
           clear ho hb hg hat
           obtain ⟨Ao38, co38, eo38⟩ := Kd.R_slice HO288.out
           (first | subst eo38 | (injection eo38 with f1_ f2_ f3_; have f4_ := f1_.symm; have f5_ := f3_.symm; clear f1_ f2_ f3_; subst f4_; subst f5_))
           refine hK.out _ _ ⟨(blk_cell BK281.out 0).trans rfl, (BD HB.out hw285_0), (BD HB.out hw285_1)⟩ (fun hHeld => ?_)
           clear hK K
           refine norm_ (a' := ?_) ?_ ?_
           rotate_left
           ·show Act.put _ (some 38) _ = _
            simp only [pA, pS, pZ, pK, i64_w, i32_w]
            rfl
           refine last_ (i := 8) (N := none) (bs 511 9) rfl rfl (one_of HT_.out (by kernel_rfl)) (by decide) (fun K hK => ?_)
           have hs39 : w37.cell? ⟨gb281, 0, none⟩ = some (.slice Ao33 x282000_2.length co33) := (blk_cell BK281.out 0).trans rfl
           have hfs39 := blk_frozen BK281.out 0
           refine skip_ (w1 := ?_) (by rfl) rfl ?_ ?_
           rotate_left
           ·go_simp
            rfl
           refine hK.out _ _ ?_
           clear hK K
           refine done_ (done_of HT_.out (by kernel_rfl)) ?_
           try go_wp2
           go_roundg k2
           case measure => have := HJ2.out; have := HK2.out; omega
           case rel => exact ⟨(y286), (.slice Ao38 y286.length co38), H', ⟨by have := HJ2.out; have := HK2.out; omega⟩, ⟨by (with_reducible repeat (first | apply Kd.R_alloc | apply Kd.R_drewN | apply Kd.R_drew)); exact Kd.R_mono (Kd.R_far (p := ⟨gb281, 0, none⟩) (Kd.R_types HO288.out BK281.out (by decide)) (fun _ hk => hk.2) (.slice Ao38 y286.length co38)) (fun _ hk => trivial)⟩, ⟨by (with_reducible repeat (first | refine blk_drewN ?_ _ | refine blk_drew ?_ | refine blk_alloc ?_ _)); refine blk_put (cs := #[.slice Ao33 x282000_2.length co33]) ?_ 0 _ rfl; (with_reducible repeat (first | refine blk_drewN ?_ _ | refine blk_drew ?_ | refine blk_alloc ?_ _)); exact BK281.out⟩, ⟨by repeat (first | (with_reducible first | exact HB.out | apply below_alloc | apply pw_below_drewN | apply below_drew1 | refine below_set ?_ GE281.out) | exact HB.out)⟩⟩
         ·rw [if_neg c23] at H
          exact absurd H (by simp)
        ·rw [if_neg c21] at H
         exact absurd H (by simp)
       ·rw [if_neg c20] at H
        exact absurd H (by simp)

/-! ### impl_WouldDeadlock: function 20 -/
def impl_WouldDeadlock.f (k : Nat) (l0 : List (S36)) (a1 : Int) (a2 : Int) : Option (Bool) := (impl_SetWait.f k l0 a1 a2).bind fun bt289 => (if bt289.2 = true then ((impl_WaitChain.f k bt289.1 a1).bind fun t293 => (if 0 ≤ (wrap64 ((t293.length : Int) - 1)) then (if (wrap64 ((t293.length : Int) - 1)) < (t293.length : Int) then (some ((rd t293 (wrap64 ((t293.length : Int) - 1))) == a1)) else (none)) else (none))) else (some false))
theorem impl_WouldDeadlock.mono : ∀ a0 a1 a2 k, LeO (impl_WouldDeadlock.f k a0 a1 a2) (impl_WouldDeadlock.f (k + 1) a0 a1 a2) := by
 intro a0 a1 a2 k
 unfold impl_WouldDeadlock.f
 repeat' first
   | (with_reducible exact impl_SetWait.mono _ _ _ _)
   | (with_reducible exact impl_WaitChain.mono _ _ _)
   | (with_reducible exact LeO.refl _)
   | (with_reducible exact LeO.none _)
   | (with_reducible refine LeO.ite ?_ ?_)
   | (with_reducible refine LeO.bind ?_ (fun _ => ?_))
   | exact impl_SetWait.mono _ _ _ _
   | exact impl_WaitChain.mono _ _ _
   | exact LeO.none _
   | refine LeO.ite ?_ ?_
   | refine LeO.bind ?_ (fun _ => ?_)
set_option maxHeartbeats 8000000 in
set_option maxRecDepth 100000 in
theorem impl_WouldDeadlock.calls (k : Nat) (A0 : Option Addr) (c0 : Nat) (l0 : List (S36)) (a1 : Int) (a2 : Int) (r : Bool) (w : World) (hr0 : Kd.C k36 w A0 l0.length l0) (hc0 : l0.length ≤ c0) (h : impl_WouldDeadlock.f k l0 a1 a2 = some r) :
  Calls Try.prog 20 #[.slice A0 l0.length c0, .int .i64 a1, .int .i64 a2] w fun e w' => e = .returned (.bool r) ∧ Below w.heap.size w w' := by
 have HR0 := AM_ hr0
 have HC0 := AM_ hc0
 clear hr0 hc0
 have HB := AM_ (Below.refl w.heap.size w)
 have H : ((impl_SetWait.f k l0 a1 a2).bind fun bt289 => (if bt289.2 = true then ((impl_WaitChain.f k bt289.1 a1).bind fun t293 => (if 0 ≤ (wrap64 ((t293.length : Int) - 1)) then (if (wrap64 ((t293.length : Int) - 1)) < (t293.length : Int) then (some ((rd t293 (wrap64 ((t293.length : Int) - 1))) == a1)) else (none)) else (none))) else (some false))) = some r := h
 clear h
 replace H := Option.bind_eq_some_iff.mp H
 obtain ⟨⟨t289, t290⟩, A40, H⟩ := H
 replace H : (if t290 = true then ((impl_WaitChain.f k t289 a1).bind fun t293 => (if 0 ≤ (wrap64 ((t293.length : Int) - 1)) then (if (wrap64 ((t293.length : Int) - 1)) < (t293.length : Int) then (some ((rd t293 (wrap64 ((t293.length : Int) - 1))) == a1)) else (none)) else (none))) else (some false)) = some r := H
 have A4 := AM_ A40
 clear A40
 by_cases c5 : t290 = true
 ·subst c5
  have H1 : ((impl_WaitChain.f k t289 a1).bind fun t293 => (if 0 ≤ (wrap64 ((t293.length : Int) - 1)) then (if (wrap64 ((t293.length : Int) - 1)) < (t293.length : Int) then (some ((rd t293 (wrap64 ((t293.length : Int) - 1))) == a1)) else (none)) else (none))) = some r := by rw [if_pos rfl] at H; exact H
  clear H
  have H := H1
  clear H1
  replace H := Option.bind_eq_some_iff.mp H
  obtain ⟨t293, A60, H⟩ := H
  replace H : (if 0 ≤ (wrap64 ((t293.length : Int) - 1)) then (if (wrap64 ((t293.length : Int) - 1)) < (t293.length : Int) then (some ((rd t293 (wrap64 ((t293.length : Int) - 1))) == a1)) else (none)) else (none)) = some r := H
  have A6 := AM_ A60
  clear A60
  obtain ⟨ji7, hji7⟩ : ∃ j_ : Int, (wrap64 ((t293.length : Int) - 1)) = j_ := ⟨_, rfl⟩
  replace H : (if 0 ≤ (ji7) then (if (ji7) < (t293.length : Int) then (some ((rd t293 (ji7)) == a1)) else (none)) else (none)) = some r := by first | (rw [hji7] at H; exact H) | (simp only [hji7] at H ⊢; exact H)
  (try rw [hji7] at A4)
  (try rw [hji7] at A6)
  have hji7w : (IntKind.i64.wrap ((t293.length : Int) - 1)) = ji7 := (i64_w _).trans hji7
  by_cases c8 : 0 ≤ (ji7)
  ·rw [if_pos c8] at H
   have c8b0 : decide (0 ≤ (ji7)) = true := decide_eq_true c8
   clear c8
   by_cases c9 : (ji7) < (t293.length : Int)
   ·rw [if_pos c9] at H
    have c9b0 : decide ((ji7) < (t293.length : Int)) = true := decide_eq_true c9
    clear c9
    obtain rfl := Option.some.inj H
    go_enter Try.func20, Try.ntmps20
    go_wp2_with (first | ((with_reducible refine gate_callee (f := 16) rfl ?_); refine goesL_ (some 14) rfl rfl Try.func16 (by kernel_rfl) rfl #[.slice A0 l0.length c0, .int .i64 a1, .int .i64 a2] rfl (by (try simp only [List.map_toArray, List.map_cons, List.map_nil]); first | done | rfl | (simp only [List.length_drop, List.length_take]; rfl)) ?_; (with_reducible refine (impl_SetWait.calls k _ _ l0 a1 a2 t289 true _ ?side1 ?side2 A4.out).mono ?_); (case side1 => repeat (first | exact HR0.out | (with_reducible refine Kd.C_alloc ?_ _) | (with_reducible refine Kd.C_drewN ?_ _) | (with_reducible refine Kd.C_drew ?_))); (case side2 => exact HC0.out); rintro e w10 ⟨v291, rfl, ho0, hb⟩; refine ⟨_, rfl, ?_⟩; have n0_ := AM_ (Kd.R_lower ho0 (below_size (by exact BL HB.out rfl rfl rfl rfl))); have n1_ := AM_ (below_step (by exact BL HB.out rfl rfl rfl rfl) hb); clear HB; have HO292 := n0_; have HB := n1_; clear n0_ n1_; (try clear hb); (try clear hb2); (try clear hk); (try clear hi); (try clear ho0); obtain ⟨Ao11, co11, eo11⟩ := Kd.R_slice HO292.out; subst eo11) | ((with_reducible refine gate_callee (f := 22) rfl ?_); refine goesL_ (some 21) rfl rfl Try.func22 (by kernel_rfl) rfl #[.slice Ao11 t289.length co11, .int .i64 a1] rfl (by (try simp only [List.map_toArray, List.map_cons, List.map_nil]); first | done | rfl | (simp only [List.length_drop, List.length_take]; rfl)) ?_; (with_reducible refine (impl_WaitChain.calls k _ _ t289 a1 t293 _ ?side1 ?side2 A6.out).mono ?_); (case side1 => exact Kd.C_below (Kd.R_reads' HO292.out).2.2 (BL (Below.refl _ _) rfl rfl rfl rfl)); (case side2 => exact (Kd.R_reads' HO292.out).2.1); rintro e w12 ⟨v294, rfl, ho0, hb⟩; refine ⟨_, rfl, ?_⟩; have n0_ := AM_ (Kd.R_below (by exact RL HO292.out rfl) hb); have n1_ := AM_ (Kd.R_lower ho0 (below_size (by exact BL HB.out rfl rfl rfl rfl))); have n2_ := AM_ (below_step (by exact BL HB.out rfl rfl rfl rfl) hb); clear HO292; clear HB; have HO292 := n0_; have HO295 := n1_; have HB := n2_; clear n0_ n1_ n2_; (try clear hb); (try clear hb2); (try clear hk); (try clear hi); (try clear ho0); obtain ⟨Ao13, co13, eo13⟩ := Kd.R_slice HO295.out; subst eo13; have p296 : 0 ≤ ((ji7) : Int) := of_decide_eq_true (by first | (with_reducible assumption) | assumption); have q296 : (ji7) < (t293.length : Int) := of_decide_eq_true (by first | (with_reducible assumption) | assumption); obtain ⟨ad296, e296, hx296_0⟩ := Kd.at_int (Kd.R_reads' HO295.out).2.2 (ji7) p296 q296; cases e296; replace p296 := eq_true p296; replace q296 := eq_true q296))
    go_ret
    exact ⟨by first | rfl | (simp [errW_none, errW_some] <;> rfl) | (simp only [← hji7]; first | rfl | (simp [errW_none, errW_some] <;> rfl)) | (simp [*, errW_none, errW_some] <;> rfl), by exact BL HB.out rfl rfl rfl rfl⟩
   ·rw [if_neg c9] at H
    exact absurd H (by simp)
  ·rw [if_neg c8] at H
   exact absurd H (by simp)
 ·replace c5 := Bool.eq_false_iff.mpr c5
  subst c5
  have H1 : (some false) = some r := by rw [if_neg (show ¬ (false = true) by decide)] at H; exact H
  clear H
  have H := H1
  clear H1
  obtain rfl := Option.some.inj H
  go_enter Try.func20, Try.ntmps20
  go_wp2_with (first | ((with_reducible refine gate_callee (f := 16) rfl ?_); refine goesL_ (some 14) rfl rfl Try.func16 (by kernel_rfl) rfl #[.slice A0 l0.length c0, .int .i64 a1, .int .i64 a2] rfl (by (try simp only [List.map_toArray, List.map_cons, List.map_nil]); first | done | rfl | (simp only [List.length_drop, List.length_take]; rfl)) ?_; (with_reducible refine (impl_SetWait.calls k _ _ l0 a1 a2 t289 false _ ?side1 ?side2 A4.out).mono ?_); (case side1 => repeat (first | exact HR0.out | (with_reducible refine Kd.C_alloc ?_ _) | (with_reducible refine Kd.C_drewN ?_ _) | (with_reducible refine Kd.C_drew ?_))); (case side2 => exact HC0.out); rintro e w14 ⟨v291, rfl, ho0, hb⟩; refine ⟨_, rfl, ?_⟩; have n0_ := AM_ (Kd.R_lower ho0 (below_size (by exact BL HB.out rfl rfl rfl rfl))); have n1_ := AM_ (below_step (by exact BL HB.out rfl rfl rfl rfl) hb); clear HB; have HO292 := n0_; have HB := n1_; clear n0_ n1_; (try clear hb); (try clear hb2); (try clear hk); (try clear hi); (try clear ho0)))
  go_ret
  exact ⟨by first | rfl | (simp [errW_none, errW_some] <;> rfl) | (simp [*, errW_none, errW_some] <;> rfl), by exact BL HB.out rfl rfl rfl rfl⟩

/-! ### spec_l11For: function 86 -/
def spec_l11For.l0 : Nat → List (S36) → Int → Int → Option (Int)
 | 0, _, _, _ => none
 | k + 1, x0, x1, x5 => if x5 < (x0.length : Int) then (if 0 ≤ x5 then (if ((rd_T36 x0 x5).f0) = x1 then (some ((rd_T36 x0 x5).f1)) else (spec_l11For.l0 k x0 x1 (wrap64 (x5 + 1)))) else (none)) else (some 0)
def spec_l11For.f (k : Nat) (l0 : List (S36)) (a1 : Int) : Option (Int) := spec_l11For.l0 k l0 a1 0
theorem spec_l11For.mono_l : ∀ k, (∀ y0 y1 y2, LeO (spec_l11For.l0 k y0 y1 y2) (spec_l11For.l0 (k + 1) y0 y1 y2))
 | 0 => fun _ _ _ r h => by simp [spec_l11For.l0] at h
 | k + 1 => by
  have ih0 := spec_l11For.mono_l k
  ·intro y0 y1 y2
   unfold spec_l11For.l0
   repeat' first
   | (with_reducible exact ih0 _ _ _)
   | (with_reducible exact LeO.refl _)
   | (with_reducible exact LeO.none _)
   | (with_reducible refine LeO.ite ?_ ?_)
   | (with_reducible refine LeO.bind ?_ (fun _ => ?_))
   | exact ih0 _ _ _
   | exact LeO.none _
   | refine LeO.ite ?_ ?_
   | refine LeO.bind ?_ (fun _ => ?_)
theorem spec_l11For.mono : ∀ a0 a1 k, LeO (spec_l11For.f k a0 a1) (spec_l11For.f (k + 1) a0 a1) := by
 intro a0 a1 k
 have ih0 := spec_l11For.mono_l k
 unfold spec_l11For.f
 repeat' first
   | (with_reducible exact ih0 _ _ _)
   | (with_reducible exact LeO.refl _)
   | (with_reducible exact LeO.none _)
   | (with_reducible refine LeO.ite ?_ ?_)
   | (with_reducible refine LeO.bind ?_ (fun _ => ?_))
   | exact ih0 _ _ _
   | exact LeO.none _
   | refine LeO.ite ?_ ?_
   | refine LeO.bind ?_ (fun _ => ?_)
set_option maxHeartbeats 8000000 in
set_option maxRecDepth 100000 in
theorem spec_l11For.calls (k : Nat) (A0 : Option Addr) (c0 : Nat) (l0 : List (S36)) (a1 : Int) (r : Int) (w : World) (hr0 : Kd.C k36 w A0 l0.length l0) (hc0 : l0.length ≤ c0) (h : spec_l11For.f k l0 a1 = some r) :
  Calls Try.prog 86 #[.slice A0 l0.length c0, .int .i64 a1] w fun e w' => e = .returned (.int .i64 r) ∧ Drawn0 w w' := by
 have HR0 := AM_ hr0
 have HC0 := AM_ hc0
 clear hr0 hc0
 have H : (spec_l11For.l0 k l0 a1 0) = some r := h
 clear h
 have H' := AM_ H
 clear H
 go_enter Try.func86, Try.ntmps86
 go_wp2
 go_loopg [5] k (fun kq v5 w' => ∃ (x5_1 : Int), v5 = .int .i64 x5_1 ∧ Aside0 (spec_l11For.l0 kq l0 a1 x5_1 = some r) ∧ Aside0 (kq ≤ k) ∧ Drawn0 w w')
 case atStart => exact ⟨(0), (by first | rfl | (simp; done) | (simp [*]; done)), H', ⟨Nat.le_refl _⟩, by repeat (first | exact Drawn0.refl _ | apply Drawn0.step)⟩
 case round =>
  clear H'
  try clear p2
  obtain ⟨x5_1, rfl, HA, HK1, ⟨m1, rfl⟩⟩ := hrel
  cases gk with
  | zero => exact absurd HA.out (by simp [spec_l11For.l0])
  | succ k1 =>
   have H := HA.out
   clear HA
   simp only [spec_l11For.l0] at H
   by_cases c3 : x5_1 < (l0.length : Int)
   ·rw [if_pos c3] at H
    have c3b0 : decide (x5_1 < (l0.length : Int)) = true := decide_eq_true c3
    clear c3
    by_cases c4 : 0 ≤ x5_1
    ·rw [if_pos c4] at H
     have c4b0 : decide (0 ≤ x5_1) = true := decide_eq_true c4
     clear c4
     by_cases c5 : ((rd_T36 l0 x5_1).f0) = a1
     ·rw [if_pos c5] at H
      have c5b0 : (((rd_T36 l0 x5_1).f0) == a1) = true := beq_iff_eq.mpr c5
      have c5b1 : (((rd_T36 l0 x5_1).f0) != a1) = false := bne_eq_false_iff_eq.mpr c5
      clear c5
      obtain rfl := Option.some.inj H
      have p297 : 0 ≤ (x5_1 : Int) := of_decide_eq_true (by first | (with_reducible assumption) | assumption)
      have q297 : x5_1 < (l0.length : Int) := of_decide_eq_true (by first | (with_reducible assumption) | assumption)
      obtain ⟨ad297, e297, hx297_0, hx297_1⟩ := at_T36 HR0.out x5_1 p297 q297
      cases e297
      replace p297 := eq_true p297
      replace q297 := eq_true q297
      have p298 : 0 ≤ (x5_1 : Int) := of_decide_eq_true (by first | (with_reducible assumption) | assumption)
      have q298 : x5_1 < (l0.length : Int) := of_decide_eq_true (by first | (with_reducible assumption) | assumption)
      obtain ⟨ad298, e298, hx298_0, hx298_1⟩ := at_T36 HR0.out x5_1 p298 q298
      obtain rfl : ad297 = ad298 := (by injection e298)
      replace p298 := eq_true p298
      replace q298 := eq_true q298
      go_wp2
      go_ret
      exact ⟨by first | rfl | (simp; done) | (simp [*]; done), by repeat (first | exact Drawn0.refl _ | apply Drawn0.step)⟩
     ·rw [if_neg c5] at H
      have c5b0 : (((rd_T36 l0 x5_1).f0) == a1) = false := beq_eq_false_iff_ne.mpr c5
      have c5b1 : (((rd_T36 l0 x5_1).f0) != a1) = true := bne_iff_ne.mpr c5
      have H' := AM_ H
      clear H
      have p297 : 0 ≤ (x5_1 : Int) := of_decide_eq_true (by first | (with_reducible assumption) | assumption)
      have q297 : x5_1 < (l0.length : Int) := of_decide_eq_true (by first | (with_reducible assumption) | assumption)
      obtain ⟨ad297, e297, hx297_0, hx297_1⟩ := at_T36 HR0.out x5_1 p297 q297
      cases e297
      replace p297 := eq_true p297
      replace q297 := eq_true q297
      go_wp2
      go_roundg k1
      case measure => have := HK1.out; omega
      case rel => exact ⟨(wrap64 (x5_1 + 1)), (by first | rfl | (simp; done) | (simp [*]; done)), H', ⟨by have := HK1.out; omega⟩, by repeat (first | exact Drawn0.refl _ | apply Drawn0.step)⟩
    ·rw [if_neg c4] at H
     exact absurd H (by simp)
   ·rw [if_neg c3] at H
    have c3b0 : decide (x5_1 < (l0.length : Int)) = false := decide_eq_false c3
    clear c3
    obtain rfl := Option.some.inj H
    go_wp2
    go_ret
    exact ⟨by first | rfl | (simp; done) | (simp [*]; done), by repeat (first | exact Drawn0.refl _ | apply Drawn0.step)⟩

end Go.Proofs.Ytakpkmlbklahhaa.PFnWaits
