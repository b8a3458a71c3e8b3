-- Printed by a program of mine (wip/myprint.py), which runs the printer of the kit with contracts of mine beside it.
import Derived.Test.YtgpmfkmdchcagaaDoorPFnExactParseOpsx0
import Derived.Test.YtgpmfkmdchcagaaDoorPFnExactParseOpsx2
import Derived.Test.YtgpmfkmdchcagaaDoorPFnExactParseOpsx6
namespace Go.Proofs.YtgpmfkmdchcagaaDoor.PFnExactParseOps
open Go.RowKit Go.Proofs.YtgpmfkmdchcagaaDoorW.PrintWords Go.Proofs.YtgpmfkmdchcagaaDoorW.PrintLast Go.Proofs.YtgpmfkmdchcagaaDoorW.PrintMore
attribute [local go_sem] max2_int min2_int max_two min_two max_three min_three max_four min_four   -- for this text's walks alone
set_option linter.unusedVariables false
set_option linter.unusedSimpArgs false

/-! ### spec_ParseOps: function 6 -/
mutual
def spec_ParseOps.l0 : Nat → List (S36) → List ByteArray → Int → Option ((List (S36)) × Bool)
 | 0, _, _, _ => none
 | k + 1, x4, x5, x6 => if x6 < (x5.length : Int) then (spec_ParseOps.j1 k x4 x5 x6 (decide ((x5.length : Int) ≤ 60))) else (spec_ParseOps.j1 k x4 x5 x6 false)
def spec_ParseOps.j1 : Nat → List (S36) → List ByteArray → Int → Bool → Option ((List (S36)) × Bool)
 | 0, _, _, _, _ => none
 | k + 1, x4, x5, x6, x23 => if x23 = true then (if 0 ≤ x6 then (if x6 < (x5.length : Int) then ((spec_ParseOp.f k (rdOf ByteArray.empty x5 x6)).bind fun bt179 => (if bt179.2.2.2.2.2.2 = true then (if x4.length < 2932031007402 then (spec_ParseOps.l0 k (x4 ++ [(⟨bt179.1, bt179.2.1, bt179.2.2.1, bt179.2.2.2.1, bt179.2.2.2.2.1, bt179.2.2.2.2.2.1⟩ : S36)]) x5 (wrap64 (x6 + 1))) else (none)) else (some ((([] : List (S36))), false)))) else (none)) else (none)) else (some (x4, decide ((x5.length : Int) ≤ 60)))
end
def spec_ParseOps.f (k : Nat) (a0 : ByteArray) : Option ((List (S36)) × Bool) := (some (([] : List (S36)) : List (S36))).bind fun y172 => (if a0.toList = ([] : List UInt8) then (some (y172, true)) else ((spec_l2Cut.f k a0 59).bind fun t175 => (spec_ParseOps.l0 k y172 t175 0)))
theorem spec_ParseOps.mono_l : ∀ k, (∀ y0 y1 y2, LeO (spec_ParseOps.l0 k y0 y1 y2) (spec_ParseOps.l0 (k + 1) y0 y1 y2)) ∧ (∀ y0 y1 y2 y3, LeO (spec_ParseOps.j1 k y0 y1 y2 y3) (spec_ParseOps.j1 (k + 1) y0 y1 y2 y3))
 | 0 => ⟨fun _ _ _ r h => by simp [spec_ParseOps.l0] at h, fun _ _ _ _ r h => by simp [spec_ParseOps.j1] at h⟩
 | k + 1 => by
  obtain ⟨ih0, ih1⟩ := spec_ParseOps.mono_l k
  refine ⟨?_, ?_⟩
  ·intro y0 y1 y2
   unfold spec_ParseOps.l0
   repeat' first
   | (with_reducible exact ih0 _ _ _)
   | (with_reducible exact ih1 _ _ _ _)
   | (with_reducible exact spec_ParseOp.mono _ _)
   | (with_reducible exact spec_l2Cut.mono _ _ _)
   | (with_reducible exact LeO.refl _)
   | (with_reducible exact LeO.none _)
   | (with_reducible refine LeO.ite ?_ ?_)
   | (with_reducible refine LeO.bind ?_ (fun _ => ?_))
   | exact ih0 _ _ _
   | exact ih1 _ _ _ _
   | exact spec_ParseOp.mono _ _
   | exact spec_l2Cut.mono _ _ _
   | exact LeO.none _
   | refine LeO.ite ?_ ?_
   | refine LeO.bind ?_ (fun _ => ?_)
  ·intro y0 y1 y2 y3
   unfold spec_ParseOps.j1
   repeat' first
   | (with_reducible exact ih0 _ _ _)
   | (with_reducible exact ih1 _ _ _ _)
   | (with_reducible exact spec_ParseOp.mono _ _)
   | (with_reducible exact spec_l2Cut.mono _ _ _)
   | (with_reducible exact LeO.refl _)
   | (with_reducible exact LeO.none _)
   | (with_reducible refine LeO.ite ?_ ?_)
   | (with_reducible refine LeO.bind ?_ (fun _ => ?_))
   | exact ih0 _ _ _
   | exact ih1 _ _ _ _
   | exact spec_ParseOp.mono _ _
   | exact spec_l2Cut.mono _ _ _
   | exact LeO.none _
   | refine LeO.ite ?_ ?_
   | refine LeO.bind ?_ (fun _ => ?_)
theorem spec_ParseOps.mono : ∀ a0 k, LeO (spec_ParseOps.f k a0) (spec_ParseOps.f (k + 1) a0) := by
 intro a0 k
 obtain ⟨ih0, ih1⟩ := spec_ParseOps.mono_l k
 unfold spec_ParseOps.f
 repeat' first
   | (with_reducible exact ih0 _ _ _)
   | (with_reducible exact ih1 _ _ _ _)
   | (with_reducible exact spec_ParseOp.mono _ _)
   | (with_reducible exact spec_l2Cut.mono _ _ _)
   | (with_reducible exact LeO.refl _)
   | (with_reducible exact LeO.none _)
   | (with_reducible refine LeO.ite ?_ ?_)
   | (with_reducible refine LeO.bind ?_ (fun _ => ?_))
   | exact ih0 _ _ _
   | exact ih1 _ _ _ _
   | exact spec_ParseOp.mono _ _
   | exact spec_l2Cut.mono _ _ _
   | exact LeO.none _
   | refine LeO.ite ?_ ?_
   | refine LeO.bind ?_ (fun _ => ?_)
set_option maxHeartbeats 8000000 in
set_option maxRecDepth 100000 in
theorem spec_ParseOps.calls (k : Nat) (a0 : ByteArray) (r1 : List (S36)) (r2 : Bool) (w : World) (h : spec_ParseOps.f k a0 = some (r1, r2)) :
  Calls Tryd.prog 6 #[.string a0] w fun e w' => ∃ v0_ : Value, e = .returned (.tuple #[v0_, .bool r2]) ∧ Kd.R k36 36 w' w.heap.size (fun _ => True) v0_ r1 ∧ Below w.heap.size w w' := by
 have hu36 := Tryd.underlying36
 have HB := AM_ (Below.refl w.heap.size w)
 have H : ((some (([] : List (S36)) : List (S36))).bind fun y172 => (if a0.toList = ([] : List UInt8) then (some (y172, true)) else ((spec_l2Cut.f k a0 59).bind fun t175 => (spec_ParseOps.l0 k y172 t175 0)))) = some (r1, r2) := h
 clear h
 obtain ⟨y172, hy172⟩ : ∃ y_ : List (S36), y_ = (([] : List (S36))) := ⟨_, rfl⟩
 replace H : (if a0.toList = ([] : List UInt8) then (some (y172, true)) else ((spec_l2Cut.f k a0 59).bind fun t175 => (spec_ParseOps.l0 k y172 t175 0))) = some (r1, r2) := by first | (rw [hy172]; with_reducible exact H) | (have H2_ := (Option.bind_some _ _).symm.trans H; rw [hy172]; with_reducible exact H2_) | (have H2_ := (Option.bind_some _ _).symm.trans H; with_reducible exact H2_) | with_reducible exact H | (rw [hy172]; exact H) | exact H
 have Ny172 := AM_ hy172
 clear hy172
 by_cases c2 : a0.toList = ([] : List UInt8)
 ·rw [if_pos c2] at H
  have c2b0 : (a0.toList == ([] : List UInt8)) = true := beq_iff_eq.mpr c2
  have c2b1 : (a0.toList != ([] : List UInt8)) = false := bne_eq_false_iff_eq.mpr c2
  clear c2
  simp only [Option.some.injEq, Prod.mk.injEq] at H
  obtain ⟨rfl, rfl⟩ := H
  go_enter Tryd.func6, Tryd.ntmps6
  go_wp2_with (first | ((with_reducible refine gate_dst (N := 9) rfl ?_); (try (refine gate_guard (by rfl) ?_; dsimp only)); refine Kd.R_lit k36 _ 36 ?hg (N := 9) ?hd (xs := ([] : List (S36))) (inner := []) (ok := fun _ => True) (okp := fun _ => True) ?hr ?hp (fun _ hk => hk) trivial (Below.refl _ _) (Nat.le_refl _) (by simp) ?_; (case hd => rfl); (case hg => rfl); (case hr => first | (go_simp; done) | (go_simp; rfl)); (case hp => exact (Reps.none _ _)); intro v173 w3 ho4 hb hg_ hnew_; clear hg_ hnew_; (first | rw [← Ny172.out] at ho4 | (simp only [Int.reduceToNat] at ho4; rw [← Ny172.out] at ho4)); have HO174 := AM_ (Kd.R_lower ho4 (below_size (BT HB.out))); replace HB := AM_ (below_step (BT HB.out) hb); clear hb ho4))
  go_ret2
  exact ⟨_, by first | rfl | (simp [errW_none, errW_some] <;> rfl) | (simp [*, errW_none, errW_some] <;> rfl), RT HO174.out, BT HB.out⟩
 rw [if_neg c2] at H
 have c2b0 : (a0.toList == ([] : List UInt8)) = false := beq_eq_false_iff_ne.mpr c2
 have c2b1 : (a0.toList != ([] : List UInt8)) = true := bne_iff_ne.mpr c2
 replace H := Option.bind_eq_some_iff.mp H
 obtain ⟨t175, A50, H⟩ := H
 replace H : (spec_ParseOps.l0 k y172 t175 0) = some (r1, r2) := H
 have A5 := AM_ A50
 clear A50
 have H' := AM_ H
 clear H
 go_enter Tryd.func6, Tryd.ntmps6
 go_wp2_with (first | ((with_reducible refine gate_dst (N := 9) rfl ?_); (try (refine gate_guard (by rfl) ?_; dsimp only)); refine Kd.R_lit k36 _ 36 ?hg (N := 9) ?hd (xs := ([] : List (S36))) (inner := []) (ok := fun _ => True) (okp := fun _ => True) ?hr ?hp (fun _ hk => hk) trivial (Below.refl _ _) (Nat.le_refl _) (by simp) ?_; (case hd => rfl); (case hg => rfl); (case hr => first | (go_simp; done) | (go_simp; rfl)); (case hp => exact (Reps.none _ _)); intro v173 w6 ho7 hb hg_ hnew_; clear hg_ hnew_; (first | rw [← Ny172.out] at ho7 | (simp only [Int.reduceToNat] at ho7; rw [← Ny172.out] at ho7)); have HO174 := AM_ (Kd.R_lower ho7 (below_size (BT HB.out))); replace HB := AM_ (below_step (BT HB.out) hb); clear hb ho7) | ((with_reducible refine gate_callee (f := 19) rfl ?_); refine goesL_ (some 14) rfl rfl Tryd.func19 (by kernel_rfl) rfl #[.string a0, .int .u8 59] rfl (by (try simp only [List.map_toArray, List.map_cons, List.map_nil]); first | done | rfl | (simp only [List.length_drop, List.length_take]; rfl)) ?_; (with_reducible refine (spec_l2Cut.calls k a0 59 t175 _ A5.out).mono ?_); rintro e w8 ⟨v176, rfl, ho0, hb⟩; refine ⟨_, rfl, ?_⟩; replace HO174 := AM_ (Kd.R_below (RT HO174.out) hb); have HO177 := AM_ (Kd.R_lower ho0 (below_size (BT HB.out))); replace HB := AM_ (below_step (BT HB.out) hb); (try clear hb); (try clear hb2); (try clear hk); (try clear hi); (try clear ho0)))
 go_loopg [4, 6] k (fun kq v4 v6 w' => ∃ (x4_1 : List (S36)) (x6_1 : Int), v6 = .int .i64 x6_1 ∧ Aside0 (spec_ParseOps.l0 kq x4_1 t175 x6_1 = some (r1, r2)) ∧ Aside0 (kq ≤ k) ∧ Aside0 (Kd.R k36 36 w' w.heap.size (fun _ => True) v4 x4_1) ∧ Aside0 (Kd.R Kd.string 9 w' w.heap.size (fun _ => True) v176 t175) ∧ Aside0 (Below w.heap.size w w'))
 case atStart => exact ⟨(y172), (0), (by first | rfl | (simp; done) | (simp [*]; done)), H', ⟨Nat.le_refl _⟩, ⟨RT HO174.out⟩, ⟨RT HO177.out⟩, ⟨BT HB.out⟩⟩
 case round =>
  clear H'
  try clear c1
  try clear c2
  try clear c2b0
  try clear c2b1
  try clear p2
  try clear c6
  obtain ⟨x4_1, x6_1, rfl, HA, HK1, HO_4, HO_5, HB⟩ := hrel
  cases gk with
  | zero => exact absurd HA.out (by simp [spec_ParseOps.l0])
  | succ k1 =>
   have H := HA.out
   clear HA
   simp only [spec_ParseOps.l0] at H
   have HC9 := AM_ H
   clear H
   go_upto_region 6 with (fail)
   go_cut [23] (fun v23 wc => ∃ (kq : Nat) (x23_8 : Bool), v23 = .bool x23_8 ∧ Aside0 (spec_ParseOps.j1 kq x4_1 t175 x6_1 x23_8 = some (r1, r2)) ∧ Aside0 (kq ≤ k1) ∧ Aside0 (Kd.R k36 36 wc w.heap.size (fun _ => True) u4 x4_1) ∧ Aside0 (Kd.R Kd.string 9 wc w.heap.size (fun _ => True) v176 t175) ∧ Aside0 (Below w.heap.size w wc))
   case first =>
    have H := HC9.out
    clear HC9
    by_cases c10 : x6_1 < (t175.length : Int)
    rotate_left
    ·rw [if_neg c10] at H
     have c10b0 : decide (x6_1 < (t175.length : Int)) = false := decide_eq_false c10
     clear c10
     (first | rw [c10b0] | (simp only [i64_w, i32_w]; rw [c10b0]) | skip)
     have H' := AM_ H
     clear H
     obtain ⟨Ao12, co12, eo12⟩ := Kd.R_slice HO_5.out
     subst eo12
     go_wp2
     go_meet
     case rel => exact ⟨_, (false), (by first | rfl | (simp; done) | (simp [*]; done)), H', ⟨by have := HK1.out; first | omega | exact Nat.le_refl _⟩, ⟨RT HO_4.out⟩, ⟨RT HO_5.out⟩, ⟨BT HB.out⟩⟩
    rw [if_pos c10] at H
    have c10b0 : decide (x6_1 < (t175.length : Int)) = true := decide_eq_true c10
    clear c10
    (first | rw [c10b0] | (simp only [i64_w, i32_w]; rw [c10b0]) | skip)
    have H' := AM_ H
    clear H
    obtain ⟨Ao11, co11, eo11⟩ := Kd.R_slice HO_5.out
    subst eo11
    go_wp2
    go_meet
    case rel => exact ⟨_, (decide ((t175.length : Int) ≤ 60)), (by first | rfl | (simp; done) | (simp [*]; done)), H', ⟨by have := HK1.out; first | omega | exact Nat.le_refl _⟩, ⟨RT HO_4.out⟩, ⟨RT HO_5.out⟩, ⟨BT HB.out⟩⟩
   case rest =>
    clear HC9
    try clear c1
    try clear c2
    try clear c2b0
    try clear c2b1
    try clear p2
    try clear c6
    try clear c10
    try clear c10b0
    try clear p2
    obtain ⟨kq, x23_8, rfl, HA, HJ8, HO_4, HO_5, HB⟩ := hcut
    cases kq with
    | zero => exact absurd HA.out (by simp [spec_ParseOps.j1])
    | succ kj8 =>
     have H := HA.out
     clear HA
     simp only [spec_ParseOps.j1] at H
     by_cases c13 : x23_8 = true
     rotate_left
     ·replace c13 := Bool.eq_false_iff.mpr c13
      subst c13
      have H1 : (some (x4_1, decide ((t175.length : Int) ≤ 60))) = some (r1, r2) := by rw [if_neg (show ¬ (false = true) by decide)] at H; exact H
      clear H
      have H := H1
      clear H1
      simp only [Option.some.injEq, Prod.mk.injEq] at H
      obtain ⟨rfl, rfl⟩ := H
      obtain ⟨Ao30, co30, eo30⟩ := Kd.R_slice HO_5.out
      subst eo30
      go_wp2
      go_ret2
      exact ⟨_, by first | rfl | (simp [errW_none, errW_some] <;> rfl) | (simp [*, errW_none, errW_some] <;> rfl), RT HO_4.out, BT HB.out⟩
     subst c13
     have H1 : (if 0 ≤ x6_1 then (if x6_1 < (t175.length : Int) then ((spec_ParseOp.f kj8 (rdOf ByteArray.empty t175 x6_1)).bind fun bt179 => (if bt179.2.2.2.2.2.2 = true then (if x4_1.length < 2932031007402 then (spec_ParseOps.l0 kj8 (x4_1 ++ [(⟨bt179.1, bt179.2.1, bt179.2.2.1, bt179.2.2.2.1, bt179.2.2.2.2.1, bt179.2.2.2.2.2.1⟩ : S36)]) t175 (wrap64 (x6_1 + 1))) else (none)) else (some ((([] : List (S36))), false)))) else (none)) else (none)) = some (r1, r2) := by rw [if_pos rfl] at H; exact H
     clear H
     have H := H1
     clear H1
     by_cases c14 : 0 ≤ x6_1
     rotate_left
     ·rw [if_neg c14] at H
      exact absurd H (by simp)
     rw [if_pos c14] at H
     have c14b0 : decide (0 ≤ x6_1) = true := decide_eq_true c14
     clear c14
     by_cases c15 : x6_1 < (t175.length : Int)
     rotate_left
     ·rw [if_neg c15] at H
      exact absurd H (by simp)
     rw [if_pos c15] at H
     have c15b0 : decide (x6_1 < (t175.length : Int)) = true := decide_eq_true c15
     clear c15
     replace H := Option.bind_eq_some_iff.mp H
     obtain ⟨⟨t179, t180, t181, t182, t183, t184, t185⟩, A160, H⟩ := H
     replace H : (if t185 = true then (if x4_1.length < 2932031007402 then (spec_ParseOps.l0 kj8 (x4_1 ++ [(⟨t179, t180, t181, t182, t183, t184⟩ : S36)]) t175 (wrap64 (x6_1 + 1))) else (none)) else (some ((([] : List (S36))), false))) = some (r1, r2) := H
     have A16 := AM_ A160
     clear A160
     by_cases c17 : t185 = true
     rotate_left
     ·replace c17 := Bool.eq_false_iff.mpr c17
      subst c17
      have H1 : (some ((([] : List (S36))), false)) = some (r1, r2) := by rw [if_neg (show ¬ (false = true) by decide)] at H; exact H
      clear H
      have H := H1
      clear H1
      obtain ⟨y190, hy190⟩ : ∃ y_ : List (S36), y_ = (([] : List (S36))) := ⟨_, rfl⟩
      replace H : (some (y190, false)) = some (r1, r2) := by first | (rw [hy190]; with_reducible exact H) | (have H2_ := (Option.bind_some _ _).symm.trans H; rw [hy190]; with_reducible exact H2_) | (have H2_ := (Option.bind_some _ _).symm.trans H; with_reducible exact H2_) | with_reducible exact H | (rw [hy190]; exact H) | exact H
      have Ny190 := AM_ hy190
      clear hy190
      simp only [Option.some.injEq, Prod.mk.injEq] at H
      obtain ⟨rfl, rfl⟩ := H
      obtain ⟨Ao24, co24, eo24⟩ := Kd.R_slice HO_5.out
      subst eo24
      have p178 : 0 ≤ (x6_1 : Int) := DT
      have q178 : x6_1 < (t175.length : Int) := DT
      obtain ⟨ad178, e178, hx178_0⟩ := Kd.at_string (Kd.R_reads' HO_5.out).2.2 x6_1 p178 q178
      cases e178
      replace p178 := eq_true p178
      replace q178 := eq_true q178
      go_wp2_with (first | ((with_reducible refine gate_callee (f := 16) rfl ?_); refine goesL_ (some 31) rfl rfl Tryd.func16 (by kernel_rfl) rfl #[.string (rdOf ByteArray.empty t175 x6_1)] rfl (by (try simp only [List.map_toArray, List.map_cons, List.map_nil]); first | done | rfl | (simp only [List.length_drop, List.length_take]; rfl)) ?_; (with_reducible refine (spec_ParseOp.calls kj8 (rdOf ByteArray.empty t175 x6_1) t179 t180 t181 t182 t183 t184 false _ A16.out).mono ?_); rintro e w25 ⟨rfl, hb⟩; refine ⟨_, rfl, ?_⟩; replace HO_4 := AM_ (Kd.R_below (RT HO_4.out) hb); replace HO_5 := AM_ (Kd.R_below (RT HO_5.out) hb); replace HB := AM_ (below_step (BT HB.out) hb); (try clear hb); (try clear hb2); (try clear hk); (try clear hi)) | ((with_reducible refine gate_dst (N := 7) rfl ?_); (try (refine gate_guard (by rfl) ?_; dsimp only)); refine box_event ?hg (N := 7) ?hd (cs := #[.int .i64 0, .int .i64 0, .int .i64 0, .int .i64 0, .int .i64 0, .int .i64 0]) (t := 36) ?hr ?_; (case hd => rfl); (case hg => rfl); (case hr => first | (go_simp; done) | (go_simp; rfl)); intro gb186 hg w26 hbox hb; replace HO_4 := AM_ (Kd.R_below (Kd.R_elderB (RT HO_4.out) gb186 (Nat.le_of_eq hg.symm)) hb); replace HO_5 := AM_ (Kd.R_below (RT HO_5.out) hb); have BK186 := AM_ (hbox); have GW186 := AM_ ((GS HB.out hg)); have GE186 := AM_ ((GS HB.out hg)); replace HB := AM_ (below_step (BT HB.out) hb); clear hb hbox hg; obtain ⟨hcz27_0, hcz27_1, hcz27_2, hcz27_3, hcz27_4, hcz27_5, hfz27_0, hfz27_1, hfz27_2, hfz27_3, hfz27_4, hfz27_5⟩ := bk6 BK186.out) | ((with_reducible refine gate_dst (N := 36) rfl ?_); (try (refine gate_guard (by rfl) ?_; dsimp only)); refine Kd.R_lit k36 _ 36 ?hg (N := 36) ?hd (xs := ([] : List (S36))) (inner := []) (ok := fun _ => True) (okp := fun _ => True) ?hr ?hp (fun _ hk => hk) trivial (Below.refl _ _) (Nat.le_refl _) (by simp) ?_; (case hd => rfl); (case hg => rfl); (case hr => first | (go_simp; done) | (go_simp; rfl)); (case hp => exact (Reps.none _ _)); intro v191 w28 ho29 hb hg_ hnew_; clear hg_ hnew_; (first | rw [← Ny190.out] at ho29 | (simp only [Int.reduceToNat] at ho29; rw [← Ny190.out] at ho29)); replace HO_5 := AM_ (Kd.R_below (RF HO_5.out BK186.out) hb); have HO192 := AM_ (Kd.R_lower (Kd.R_newB (Kd.R_new' ho29 (Kd.R_lt (by (with_reducible repeat (first | apply Kd.R_alloc | apply Kd.R_drewN | apply Kd.R_drew)); exact (Kd.R_mono (Kd.R_far (p := ⟨gb186, 5, none⟩) (Kd.R_far (p := ⟨gb186, 4, none⟩) (Kd.R_far (p := ⟨gb186, 3, none⟩) (Kd.R_far (p := ⟨gb186, 2, none⟩) (Kd.R_far (p := ⟨gb186, 1, none⟩) (Kd.R_far (p := ⟨gb186, 0, none⟩) (Kd.R_mono HO_4.out (fun k_ hk => (⟨hk, hk.2⟩ : _ ∧ k_ ≠ gb186))) (fun _ hk => hk.2) (.int .i64 t179)) (fun _ hk => hk.2) (.int .i64 t180)) (fun _ hk => hk.2) (.int .i64 t181)) (fun _ hk => hk.2) (.int .i64 t182)) (fun _ hk => hk.2) (.int .i64 t183)) (fun _ hk => hk.2) (.int .i64 t184)) (fun _ h_ => h_.1))))) (g := gb186) (o := .cells #[.int .i64 t179, .int .i64 t180, .int .i64 t181, .int .i64 t182, .int .i64 t183, .int .i64 t184] 36 (0, 0)) (by (with_reducible repeat (first | refine blk_drewN ?_ _ | refine blk_drew ?_ | refine blk_alloc ?_ _)); refine blk_put (cs := #[.int .i64 t179, .int .i64 t180, .int .i64 t181, .int .i64 t182, .int .i64 t183, .int .i64 0]) ?_ 5 _ rfl; (with_reducible repeat (first | refine blk_drewN ?_ _ | refine blk_drew ?_ | refine blk_alloc ?_ _)); refine blk_put (cs := #[.int .i64 t179, .int .i64 t180, .int .i64 t181, .int .i64 t182, .int .i64 0, .int .i64 0]) ?_ 4 _ rfl; (with_reducible repeat (first | refine blk_drewN ?_ _ | refine blk_drew ?_ | refine blk_alloc ?_ _)); refine blk_put (cs := #[.int .i64 t179, .int .i64 t180, .int .i64 t181, .int .i64 0, .int .i64 0, .int .i64 0]) ?_ 3 _ rfl; (with_reducible repeat (first | refine blk_drewN ?_ _ | refine blk_drew ?_ | refine blk_alloc ?_ _)); refine blk_put (cs := #[.int .i64 t179, .int .i64 t180, .int .i64 0, .int .i64 0, .int .i64 0, .int .i64 0]) ?_ 2 _ rfl; (with_reducible repeat (first | refine blk_drewN ?_ _ | refine blk_drew ?_ | refine blk_alloc ?_ _)); refine blk_put (cs := #[.int .i64 t179, .int .i64 0, .int .i64 0, .int .i64 0, .int .i64 0, .int .i64 0]) ?_ 1 _ rfl; (with_reducible repeat (first | refine blk_drewN ?_ _ | refine blk_drew ?_ | refine blk_alloc ?_ _)); refine blk_put (cs := #[.int .i64 0, .int .i64 0, .int .i64 0, .int .i64 0, .int .i64 0, .int .i64 0]) ?_ 0 _ rfl; (with_reducible repeat (first | refine blk_drewN ?_ _ | refine blk_drew ?_ | refine blk_alloc ?_ _)); exact BK186.out)) (below_size (BT HB.out))); replace HO_4 := AM_ (Kd.R_elder' (by (with_reducible repeat (first | apply Kd.R_alloc | apply Kd.R_drewN | apply Kd.R_drew)); exact (Kd.R_mono (Kd.R_far (p := ⟨gb186, 5, none⟩) (Kd.R_far (p := ⟨gb186, 4, none⟩) (Kd.R_far (p := ⟨gb186, 3, none⟩) (Kd.R_far (p := ⟨gb186, 2, none⟩) (Kd.R_far (p := ⟨gb186, 1, none⟩) (Kd.R_far (p := ⟨gb186, 0, none⟩) (Kd.R_mono HO_4.out (fun k_ hk => (⟨hk, hk.2⟩ : _ ∧ k_ ≠ gb186))) (fun _ hk => hk.2) (.int .i64 t179)) (fun _ hk => hk.2) (.int .i64 t180)) (fun _ hk => hk.2) (.int .i64 t181)) (fun _ hk => hk.2) (.int .i64 t182)) (fun _ hk => hk.2) (.int .i64 t183)) (fun _ hk => hk.2) (.int .i64 t184)) (fun _ h_ => h_.1))) (Kd.R_base ho29) hb); replace BK186 := AM_ (BP #[.int .i64 t179, .int .i64 t180, .int .i64 t181, .int .i64 t182, .int .i64 t183, .int .i64 t184] BK186.out hb); replace HB := AM_ (below_step (BT HB.out) hb); clear hb ho29))
      go_ret2
      exact ⟨_, by first | rfl | (simp [errW_none, errW_some] <;> rfl) | (simp [*, errW_none, errW_some] <;> rfl), by (with_reducible repeat (first | apply Kd.R_alloc | apply Kd.R_drewN | apply Kd.R_drew)); exact Kd.R_mono HO192.out (fun _ hk => trivial), BT HB.out⟩
     subst c17
     have H1 : (if x4_1.length < 2932031007402 then (spec_ParseOps.l0 kj8 (x4_1 ++ [(⟨t179, t180, t181, t182, t183, t184⟩ : S36)]) t175 (wrap64 (x6_1 + 1))) else (none)) = some (r1, r2) := by rw [if_pos rfl] at H; exact H
     clear H
     have H := H1
     clear H1
     by_cases c18 : x4_1.length < 2932031007402
     rotate_left
     ·rw [if_neg c18] at H
      exact absurd H (by simp)
     rw [if_pos c18] at H
     have LMc18 := AM_ c18
     clear c18
     obtain ⟨y187, hy187⟩ : ∃ y_ : List (S36), y_ = (x4_1 ++ [(⟨t179, t180, t181, t182, t183, t184⟩ : S36)]) := ⟨_, rfl⟩
     replace H : (spec_ParseOps.l0 kj8 y187 t175 (wrap64 (x6_1 + 1))) = some (r1, r2) := by first | (rw [hy187]; with_reducible exact H) | (have H2_ := (Option.bind_some _ _).symm.trans H; rw [hy187]; with_reducible exact H2_) | (have H2_ := (Option.bind_some _ _).symm.trans H; with_reducible exact H2_) | with_reducible exact H | (rw [hy187]; exact H) | exact H
     have Ny187 := AM_ hy187
     clear hy187
     have H' := AM_ H
     clear H
     obtain ⟨Ao19, co19, eo19⟩ := Kd.R_slice HO_5.out
     subst eo19
     have p178 : 0 ≤ (x6_1 : Int) := DT
     have q178 : x6_1 < (t175.length : Int) := DT
     obtain ⟨ad178, e178, hx178_0⟩ := Kd.at_string (Kd.R_reads' HO_5.out).2.2 x6_1 p178 q178
     cases e178
     replace p178 := eq_true p178
     replace q178 := eq_true q178
     go_wp2_with (first | ((with_reducible refine gate_callee (f := 16) rfl ?_); refine goesL_ (some 31) rfl rfl Tryd.func16 (by kernel_rfl) rfl #[.string (rdOf ByteArray.empty t175 x6_1)] rfl (by (try simp only [List.map_toArray, List.map_cons, List.map_nil]); first | done | rfl | (simp only [List.length_drop, List.length_take]; rfl)) ?_; (with_reducible refine (spec_ParseOp.calls kj8 (rdOf ByteArray.empty t175 x6_1) t179 t180 t181 t182 t183 t184 true _ A16.out).mono ?_); rintro e w20 ⟨rfl, hb⟩; refine ⟨_, rfl, ?_⟩; replace HO_4 := AM_ (Kd.R_below (RT HO_4.out) hb); replace HO_5 := AM_ (Kd.R_below (RT HO_5.out) hb); replace HB := AM_ (below_step (BT HB.out) hb); (try clear hb); (try clear hb2); (try clear hk); (try clear hi)) | ((with_reducible refine gate_dst (N := 7) rfl ?_); (try (refine gate_guard (by rfl) ?_; dsimp only)); refine box_event ?hg (N := 7) ?hd (cs := #[.int .i64 0, .int .i64 0, .int .i64 0, .int .i64 0, .int .i64 0, .int .i64 0]) (t := 36) ?hr ?_; (case hd => rfl); (case hg => rfl); (case hr => first | (go_simp; done) | (go_simp; rfl)); intro gb186 hg w21 hbox hb; replace HO_4 := AM_ (Kd.R_below (Kd.R_elderB (RT HO_4.out) gb186 (Nat.le_of_eq hg.symm)) hb); replace HO_5 := AM_ (Kd.R_below (RT HO_5.out) hb); have BK186 := AM_ (hbox); have GW186 := AM_ ((GS HB.out hg)); have GE186 := AM_ ((GS HB.out hg)); replace HB := AM_ (below_step (BT HB.out) hb); clear hb hbox hg; obtain ⟨hcz22_0, hcz22_1, hcz22_2, hcz22_3, hcz22_4, hcz22_5, hfz22_0, hfz22_1, hfz22_2, hfz22_3, hfz22_4, hfz22_5⟩ := bk6 BK186.out) | ((with_reducible refine gate_builtin (b := .append) (xs := #[.tmp 37, .tmp 39]) rfl ?_); (try (refine gate_guard (by rfl) ?_; dsimp only)); at_builtin; refine Kd.R_append k36 (w0 := w) w.heap.size rfl (.tmp 37) (.tmp 39) 22 36 (.agg #[(.int .i64 0), (.int .i64 0), (.int .i64 0), (.int .i64 0), (.int .i64 0), (.int .i64 0)]) 48 rfl Tryd.underlying22 info36 rfl (by decide) (by omega) u4 x4_1 (⟨t179, t180, t181, t182, t183, t184⟩ : S36) [.int .i64 t179, .int .i64 t180, .int .i64 t181, .int .i64 t182, .int .i64 t183, .int .i64 t184] (fun k_ => k_ ≠ gb186) (fun _ => False) rfl (by first | (go_simp; done) | (go_simp; rfl)) ?aP (fun _ hk => hk.elim) ?aF ?aO ?aB ?aS ?aL ?_; (case aP => exact k36_mkM _ _ _ (⟨t179, t180, t181, t182, t183, t184⟩ : S36)); (case aB => exact (BT HB.out)); (case aF => exact (fun k_ hk => Kd.freshB (g := gb186) (o := .cells #[.int .i64 t179, .int .i64 t180, .int .i64 t181, .int .i64 t182, .int .i64 t183, .int .i64 t184] 36 (0, 0)) (by (with_reducible repeat (first | refine blk_drewN ?_ _ | refine blk_drew ?_ | refine blk_alloc ?_ _)); refine blk_put (cs := #[.int .i64 t179, .int .i64 t180, .int .i64 t181, .int .i64 t182, .int .i64 t183, .int .i64 0]) ?_ 5 _ rfl; (with_reducible repeat (first | refine blk_drewN ?_ _ | refine blk_drew ?_ | refine blk_alloc ?_ _)); refine blk_put (cs := #[.int .i64 t179, .int .i64 t180, .int .i64 t181, .int .i64 t182, .int .i64 0, .int .i64 0]) ?_ 4 _ rfl; (with_reducible repeat (first | refine blk_drewN ?_ _ | refine blk_drew ?_ | refine blk_alloc ?_ _)); refine blk_put (cs := #[.int .i64 t179, .int .i64 t180, .int .i64 t181, .int .i64 0, .int .i64 0, .int .i64 0]) ?_ 3 _ rfl; (with_reducible repeat (first | refine blk_drewN ?_ _ | refine blk_drew ?_ | refine blk_alloc ?_ _)); refine blk_put (cs := #[.int .i64 t179, .int .i64 t180, .int .i64 0, .int .i64 0, .int .i64 0, .int .i64 0]) ?_ 2 _ rfl; (with_reducible repeat (first | refine blk_drewN ?_ _ | refine blk_drew ?_ | refine blk_alloc ?_ _)); refine blk_put (cs := #[.int .i64 t179, .int .i64 0, .int .i64 0, .int .i64 0, .int .i64 0, .int .i64 0]) ?_ 1 _ rfl; (with_reducible repeat (first | refine blk_drewN ?_ _ | refine blk_drew ?_ | refine blk_alloc ?_ _)); refine blk_put (cs := #[.int .i64 0, .int .i64 0, .int .i64 0, .int .i64 0, .int .i64 0, .int .i64 0]) ?_ 0 _ rfl; (with_reducible repeat (first | refine blk_drewN ?_ _ | refine blk_drew ?_ | refine blk_alloc ?_ _)); exact BK186.out) k_ hk)); (case aO => exact (by (with_reducible repeat (first | apply Kd.R_alloc | apply Kd.R_drewN | apply Kd.R_drew)); exact Kd.R_mono (Kd.R_far (p := ⟨gb186, 5, none⟩) (Kd.R_far (p := ⟨gb186, 4, none⟩) (Kd.R_far (p := ⟨gb186, 3, none⟩) (Kd.R_far (p := ⟨gb186, 2, none⟩) (Kd.R_far (p := ⟨gb186, 1, none⟩) (Kd.R_far (p := ⟨gb186, 0, none⟩) (Kd.R_mono HO_4.out (fun k_ hk => (⟨hk, hk.2⟩ : _ ∧ k_ ≠ gb186))) (fun _ hk => hk.2) (.int .i64 t179)) (fun _ hk => hk.2) (.int .i64 t180)) (fun _ hk => hk.2) (.int .i64 t181)) (fun _ hk => hk.2) (.int .i64 t182)) (fun _ hk => hk.2) (.int .i64 t183)) (fun _ hk => hk.2) (.int .i64 t184)) (fun _ hk => hk.1.2))); (case aS => exact (below_size (BT HB.out))); (case aL => have := LMc18.out; omega); intro v188 w23 ho hb hg hat; rw [← Ny187.out] at ho; have n0_ := AM_ (Kd.R_over' (RF HO_5.out BK186.out) (Kd.R_typed (by (with_reducible repeat (first | apply Kd.R_alloc | apply Kd.R_drewN | apply Kd.R_drew)); exact (Kd.R_mono (Kd.R_far (p := ⟨gb186, 5, none⟩) (Kd.R_far (p := ⟨gb186, 4, none⟩) (Kd.R_far (p := ⟨gb186, 3, none⟩) (Kd.R_far (p := ⟨gb186, 2, none⟩) (Kd.R_far (p := ⟨gb186, 1, none⟩) (Kd.R_far (p := ⟨gb186, 0, none⟩) (Kd.R_mono HO_4.out (fun k_ hk => (⟨hk, hk.2⟩ : _ ∧ k_ ≠ gb186))) (fun _ hk => hk.2) (.int .i64 t179)) (fun _ hk => hk.2) (.int .i64 t180)) (fun _ hk => hk.2) (.int .i64 t181)) (fun _ hk => hk.2) (.int .i64 t182)) (fun _ hk => hk.2) (.int .i64 t183)) (fun _ hk => hk.2) (.int .i64 t184)) (fun _ h_ => h_.1)))) (by decide) hg); have n1_ := AM_ (blk_grown (g := gb186) (o := .cells #[.int .i64 t179, .int .i64 t180, .int .i64 t181, .int .i64 t182, .int .i64 t183, .int .i64 t184] 36 (0, 0)) (by (with_reducible repeat (first | refine blk_drewN ?_ _ | refine blk_drew ?_ | refine blk_alloc ?_ _)); refine blk_put (cs := #[.int .i64 t179, .int .i64 t180, .int .i64 t181, .int .i64 t182, .int .i64 t183, .int .i64 0]) ?_ 5 _ rfl; (with_reducible repeat (first | refine blk_drewN ?_ _ | refine blk_drew ?_ | refine blk_alloc ?_ _)); refine blk_put (cs := #[.int .i64 t179, .int .i64 t180, .int .i64 t181, .int .i64 t182, .int .i64 0, .int .i64 0]) ?_ 4 _ rfl; (with_reducible repeat (first | refine blk_drewN ?_ _ | refine blk_drew ?_ | refine blk_alloc ?_ _)); refine blk_put (cs := #[.int .i64 t179, .int .i64 t180, .int .i64 t181, .int .i64 0, .int .i64 0, .int .i64 0]) ?_ 3 _ rfl; (with_reducible repeat (first | refine blk_drewN ?_ _ | refine blk_drew ?_ | refine blk_alloc ?_ _)); refine blk_put (cs := #[.int .i64 t179, .int .i64 t180, .int .i64 0, .int .i64 0, .int .i64 0, .int .i64 0]) ?_ 2 _ rfl; (with_reducible repeat (first | refine blk_drewN ?_ _ | refine blk_drew ?_ | refine blk_alloc ?_ _)); refine blk_put (cs := #[.int .i64 t179, .int .i64 0, .int .i64 0, .int .i64 0, .int .i64 0, .int .i64 0]) ?_ 1 _ rfl; (with_reducible repeat (first | refine blk_drewN ?_ _ | refine blk_drew ?_ | refine blk_alloc ?_ _)); refine blk_put (cs := #[.int .i64 0, .int .i64 0, .int .i64 0, .int .i64 0, .int .i64 0, .int .i64 0]) ?_ 0 _ rfl; (with_reducible repeat (first | refine blk_drewN ?_ _ | refine blk_drew ?_ | refine blk_alloc ?_ _)); exact BK186.out) hg (Kd.R_away HO_4.out (fun _ hk => hk.2))); have n2_ := AM_ (hb); have n3_ := AM_ (ho); clear HO_5; clear BK186; clear HB; clear HO_4; have HO_5 := n0_; have BK186 := n1_; have HB := n2_; have HO189 := n3_; clear n0_ n1_ n2_ n3_; clear ho hb hg hat))
     go_roundg kj8
     case measure => have := HK1.out; have := HJ8.out; omega
     case rel => exact ⟨(y187), (wrap64 (x6_1 + 1)), (by first | rfl | (simp; done) | (simp [*]; done)), H', ⟨by have := HK1.out; have := HJ8.out; omega⟩, ⟨by (with_reducible repeat (first | apply Kd.R_alloc | apply Kd.R_drewN | apply Kd.R_drew)); exact Kd.R_mono HO189.out (fun _ hk => trivial)⟩, ⟨RT HO_5.out⟩, ⟨BT HB.out⟩⟩

/-! ### strings_Split: function 20 -/
def strings_Split.f (a0 a1 : ByteArray) : Option (List ByteArray) := if a0.size < 4294967281 then (if 1 ≤ a1.size then (some (Lib.splitB a1 0 (Lib.countB a0 a1) a0)) else (none)) else (none)
theorem strings_Split.calls (a0 a1 : ByteArray) (r : List ByteArray) (w : World) (hTB : Tryd.TB w) (h : strings_Split.f a0 a1 = some r) :
  Calls Tryd.prog 20 #[.string a0, .string a1] w fun e w' => ∃ v0_ : Value, e = .returned (v0_) ∧ Kd.R Kd.string 9 w' w.heap.size (fun _ => True) v0_ r ∧ Below w.heap.size w w' := by
 unfold strings_Split.f at h
 by_cases c0 : a0.size < 4294967281
 rotate_left
 ·rw [if_neg c0] at h; exact absurd h (by simp)
 rw [if_pos c0] at h
 by_cases c1 : 1 ≤ a1.size
 rotate_left
 ·rw [if_neg c1] at h; exact absurd h (by simp)
 rw [if_pos c1] at h
 obtain rfl := Option.some.inj h
 obtain ⟨_, ⟨m, hm⟩, _⟩ := hTB
 have hlen : (Lib.splitB a1 0 (Lib.countB a0 a1) a0).length = Lib.countB a0 a1 + 1 := Lib.splitB_all a1 c1 0 _ a0 rfl
 have hle := Lib.countB_le a1 c1 a0.size a0 (Nat.le_refl _)
 refine (Tryd.strings_Split a0 a1 m w c0 hm c1).mono ?_
 rintro e w' ⟨rfl, rfl⟩
 generalize Lib.splitB a1 0 (Lib.countB a0 a1) a0 = xs at hlen ⊢
 have hb : Below w.heap.size w (w.alloc (.cells (xs.map Value.string).toArray 9)) := below_alloc (Below.refl _ _) _
 refine ⟨_, rfl, ⟨fun _ _ => trivial, xs.map Value.string, ⟨by rw [List.length_map]; exact (Nat.mul_one _).symm, .inr ⟨w.heap.size, Lib.countB a0 a1 + 1, (xs.map Value.string).toArray, ?_, Nat.le_refl _, ?_, by omega, by unfold maxLen; omega, ?_, ?_⟩⟩, ?_, ?_⟩, hb⟩
 ·rw [hlen]
 ·exact heap_alloc_new _ _
 ·simp [hlen, Kd.string, Kd.scalar]
 ·simp [Kd.string, Kd.scalar, List.take_of_length_le]
 ·simp [Kd.string, Kd.scalar]
 ·intro j p hj
  show ((xs.map Value.string).drop (j * 1)).take 1 = [Value.string p]
  obtain ⟨hjl, rfl⟩ := List.getElem?_eq_some_iff.1 hj
  have hjm : j < (xs.map Value.string).length := by simpa using hjl
  rw [Nat.mul_one, List.drop_eq_getElem_cons hjm, List.take_succ_cons, List.take_zero, List.getElem_map]

/-! ### strings_IndexByte: function 34 -/
def strings_IndexByte.f (a0 : ByteArray) (a1 : Int) : Option Int := some (Lib.indexByte a0.data.toList a1.toNat.toUInt8)
theorem strings_IndexByte.calls (a0 : ByteArray) (a1 : Int) (r : Int) (w : World) (h : strings_IndexByte.f a0 a1 = some r) :
  Calls Tryd.prog 34 #[.string a0, .int .u8 a1] w fun e w' => e = .returned (.int .i64 r) ∧ Below w.heap.size w w' := by
 obtain rfl := Option.some.inj h
 refine (Tryd.strings_IndexByte a0 a1 w).mono ?_
 rintro e w' ⟨rfl, rfl⟩
 exact ⟨rfl, Below.refl _ _⟩

/-! ### strconv_Itoa: function 51 -/
def strconv_Itoa.f (a0 : Int) : Option ByteArray := if -9223372036854775808 ≤ a0 then (if a0 ≤ 9223372036854775807 then (some (⟨(Lib.itoa a0).toArray⟩ : ByteArray)) else (none)) else (none)
theorem strconv_Itoa.calls (a0 : Int) (r : ByteArray) (w : World) (hTB : Tryd.TB w) (h : strconv_Itoa.f a0 = some r) :
  Calls Tryd.prog 51 #[.int .i64 a0] w fun e w' => e = .returned (.string r) ∧ Below w.heap.size w w' := by
 unfold strconv_Itoa.f at h
 by_cases c0 : -9223372036854775808 ≤ a0
 rotate_left
 ·rw [if_neg c0] at h; exact absurd h (by simp)
 rw [if_pos c0] at h
 by_cases c1 : a0 ≤ 9223372036854775807
 rotate_left
 ·rw [if_neg c1] at h; exact absurd h (by simp)
 rw [if_pos c1] at h
 obtain rfl := Option.some.inj h
 refine (Tryd.strconv_Itoa a0 c0 c1 w hTB.1).mono ?_
 rintro e w' ⟨rfl, k, os, rfl⟩
 exact ⟨rfl, Lib.below_grow _ _ (Nat.le_refl _) _ _⟩

/-! ### impl_in: function 63 -/
def impl_in.f (a0 : Int) (a1 : Int) (a2 : Int) : Option (Bool) := if a1 ≤ a0 then (some (decide (a0 ≤ a2))) else (some false)
set_option maxHeartbeats 8000000 in
set_option maxRecDepth 100000 in
theorem impl_in.calls (a0 : Int) (a1 : Int) (a2 : Int) (r : Bool) (w : World) (h : impl_in.f a0 a1 a2 = some r) :
  Calls Tryd.prog 63 #[.int .i64 a0, .int .i64 a1, .int .i64 a2] w fun e w' => e = .returned (.bool r) ∧ Drawn0 w w' := by
 have H : (if a1 ≤ a0 then (some (decide (a0 ≤ a2))) else (some false)) = some r := h
 clear h
 by_cases c4 : a1 ≤ a0
 ·rw [if_pos c4] at H
  have c4b0 : decide (a1 ≤ a0) = true := decide_eq_true c4
  clear c4
  obtain rfl := Option.some.inj H
  go_enter Tryd.func63, Tryd.ntmps63
  go_wp2
  go_ret
  exact ⟨by first | rfl | (simp; done) | (simp [*]; done), by repeat (first | exact Drawn0.refl _ | apply Drawn0.step)⟩
 rw [if_neg c4] at H
 have c4b0 : decide (a1 ≤ a0) = false := decide_eq_false c4
 clear c4
 obtain rfl := Option.some.inj H
 go_enter Tryd.func63, Tryd.ntmps63
 go_wp2
 go_ret
 exact ⟨by first | rfl | (simp; done) | (simp [*]; done), by repeat (first | exact Drawn0.refl _ | apply Drawn0.step)⟩

/-! ### impl_ParseInt: function 35 -/
def impl_ParseInt.f (a0 : ByteArray) : Option (Int × Bool) := if a0.size ≤ 281474976710656 then (match Lib.atoiAll a0.data.toList with | .ok v => if (-999999999 ≤ v ∧ v ≤ 999999999) ∧ Lib.itoa v = a0.data.toList then some (v, true) else some (0, false) | _ => some (0, false)) else none
theorem impl_ParseInt_atoi (s : ByteArray) (hs : s.size ≤ 281474976710656) (w : World) (hTB : Tryd.TB w) :
  (∀ v, Lib.atoiAll s.data.toList = .ok v → Calls Tryd.prog 62 #[.string s] w fun e w' => e = .returned (.tuple #[.int .i64 v, .nilIface]) ∧ Below w.heap.size w w') ∧
  ((∀ v, Lib.atoiAll s.data.toList ≠ .ok v) → Calls Tryd.prog 62 #[.string s] w fun e w' => ∃ n t p, e = .returned (.tuple #[.int .i64 n, .iface t (.pointer (some p))]) ∧ Below w.heap.size w w') := by
 obtain ⟨_, _, ⟨e1, h1, h1'⟩, ⟨e2, h2, h2'⟩⟩ := hTB
 refine ⟨fun v hv => ?_, fun hn => ?_⟩
 ·refine (Tryd.strconv_Atoi_ok s (by omega) v hv w).mono ?_
  rintro e w' ⟨rfl, hw⟩
  refine ⟨rfl, ?_⟩
  rcases hw with rfl | ⟨t, rfl⟩
  ·exact Below.refl _ _
  ·exact Lib.bytesWorld_below _ _ _
 ·by_cases hr : Lib.atoiAll s.data.toList = .range
  ·refine (Tryd.strconv_Atoi_range s hs hr e2 w h2 h2').mono ?_
   rintro e w' ⟨N, rfl, _, _, hb⟩
   exact ⟨_, _, _, rfl, hb⟩
  refine (Tryd.strconv_Atoi_none s hs hn hr e1 w h1 h1').mono ?_
  rintro e w' ⟨N, rfl, _, _, hb⟩
  exact ⟨_, _, _, rfl, hb⟩
theorem impl_ParseInt.calls (a0 : ByteArray) (r1 : Int) (r2 : Bool) (w : World) (hTB : Tryd.TB w) (h : impl_ParseInt.f a0 = some (r1, r2)) :
  Calls Tryd.prog 35 #[.string a0] w fun e w' => e = .returned (.tuple #[.int .i64 r1, .bool r2]) ∧ Below w.heap.size w w' := by
 unfold impl_ParseInt.f at h
 by_cases c0 : a0.size ≤ 281474976710656
 rotate_left
 ·rw [if_neg c0] at h; exact absurd h (by simp)
 rw [if_pos c0] at h
 obtain ⟨hok, hbad⟩ := impl_ParseInt_atoi a0 c0 w hTB
 have HT := AM_ hTB
 clear hTB
 by_cases hv : ∃ v, Lib.atoiAll a0.data.toList = .ok v
 rotate_left
 ·have hn : ∀ v, Lib.atoiAll a0.data.toList ≠ .ok v := fun v h_ => hv ⟨v, h_⟩
  have hr : r1 = 0 ∧ r2 = false := by
   rcases hc : Lib.atoiAll a0.data.toList with v | _ | _
   ·exact absurd hc (hn v)
   all_goals (rw [hc] at h; have := Option.some.inj h; injection this with h1 h2; exact ⟨h1.symm, h2.symm⟩)
  obtain ⟨rfl, rfl⟩ := hr
  have HV := AM_ (hbad hn)
  clear hok hbad hv hn h c0
  go_enter Tryd.func35, Tryd.ntmps35
  go_wp2_with (first | (go_at_call 62; refine HV.out.mono ?_; rintro e W1 ⟨n_, t_, p_, rfl, hb1⟩; have HB := AM_ hb1; clear hb1))
  go_ret2
  exact ⟨by first | rfl | (simp; done), by repeat (first | exact HB.out | apply below_alloc | apply pw_below_drewN | apply below_drew1)⟩
 obtain ⟨v, hv⟩ := hv
 replace hok := hok v hv
 clear hbad
 rw [hv] at h
 dsimp only at h
 have vb := Lib.atoiAll_bounds hv
 by_cases cr : -999999999 ≤ v ∧ v ≤ 999999999
 rotate_left
 ·rw [if_neg (fun h_ => cr h_.1)] at h
  obtain ⟨rfl, rfl⟩ : 0 = r1 ∧ false = r2 := by simpa using h
  have ci : impl_in.f v (-999999999) 999999999 = some false := by
   unfold impl_in.f
   by_cases c1 : -999999999 ≤ v
   rotate_left
   ·rw [if_neg c1]
   rw [if_pos c1, decide_eq_false (fun c2 => cr ⟨c1, c2⟩)]
  have HI := AM_ ci
  have HV := AM_ hok
  clear ci hok vb h hv cr c0
  go_enter Tryd.func35, Tryd.ntmps35
  go_wp2_with (first | (go_at_call 62; refine HV.out.mono ?_; rintro e W1 ⟨rfl, hb1⟩; have HB := AM_ hb1; clear hb1) | (go_at_call 63; refine (impl_in.calls _ _ _ _ _ HI.out).mono ?_; rintro e W2 ⟨rfl, ⟨nd, rfl⟩⟩))
  go_ret2
  exact ⟨by first | rfl | (simp; done), by repeat (first | exact HB.out | apply below_alloc | apply pw_below_drewN | apply below_drew1)⟩
 have ci : impl_in.f v (-999999999) 999999999 = some true := by unfold impl_in.f; rw [if_pos cr.1, decide_eq_true cr.2]
 have ct : strconv_Itoa.f v = some ⟨(Lib.itoa v).toArray⟩ := by unfold strconv_Itoa.f; rw [if_pos (by omega), if_pos (by omega)]
 have HI := AM_ ci
 have HC := AM_ ct
 have HV := AM_ hok
 clear ci ct hok vb
 by_cases ce : Lib.itoa v = a0.data.toList
 ·rw [if_pos ⟨cr, ce⟩] at h
  obtain ⟨rfl, rfl⟩ : v = r1 ∧ true = r2 := by simpa using h
  obtain rfl : a0 = ⟨(Lib.itoa v).toArray⟩ := by rw [ce]
  clear h hv cr ce c0
  go_enter Tryd.func35, Tryd.ntmps35
  go_wp2_with (first | (go_at_call 62; refine HV.out.mono ?_; rintro e W1 ⟨rfl, hb1⟩; have HB := AM_ hb1; clear hb1) | (go_at_call 63; refine (impl_in.calls _ _ _ _ _ HI.out).mono ?_; rintro e W2 ⟨rfl, ⟨nd, rfl⟩⟩) | (go_at_call 51; refine (strconv_Itoa.calls _ _ _ ?tb HC.out).mono ?_; (case tb => exact Tryd.TB_below HT.out (by repeat (first | exact HB.out | apply below_alloc | apply pw_below_drewN | apply below_drew1))); rintro e W3 ⟨rfl, hb3⟩; have HB3 := AM_ hb3; clear hb3))
  go_ret2
  exact ⟨by first | rfl | (simp; done), by first | exact below_step (by repeat (first | exact HB.out | apply below_alloc | apply pw_below_drewN | apply below_drew1)) HB3.out | exact HB.out⟩
 rw [if_neg (fun h_ => ce h_.2)] at h
 obtain ⟨rfl, rfl⟩ : 0 = r1 ∧ false = r2 := by simpa using h
 have cq : (Lib.itoa v == a0.toList) = false := by rw [ByteArray.toList_eq]; exact beq_false_of_ne ce
 clear h hv cr ce c0
 go_enter Tryd.func35, Tryd.ntmps35
 go_wp2_with (first | (go_at_call 62; refine HV.out.mono ?_; rintro e W1 ⟨rfl, hb1⟩; have HB := AM_ hb1; clear hb1) | (go_at_call 63; refine (impl_in.calls _ _ _ _ _ HI.out).mono ?_; rintro e W2 ⟨rfl, ⟨nd, rfl⟩⟩) | (go_at_call 51; refine (strconv_Itoa.calls _ _ _ ?tb HC.out).mono ?_; (case tb => exact Tryd.TB_below HT.out (by repeat (first | exact HB.out | apply below_alloc | apply pw_below_drewN | apply below_drew1))); rintro e W3 ⟨rfl, hb3⟩; have HB3 := AM_ hb3; clear hb3))
 all_goals first | (exfalso; rename_i hh; rw [cq] at hh; exact Bool.noConfusion hh) | (go_ret2; exact ⟨by first | rfl | (simp; done), by first | exact below_step (by repeat (first | exact HB.out | apply below_alloc | apply pw_below_drewN | apply below_drew1)) HB3.out | exact HB.out⟩)

/-! ### impl_isScheme: function 89 -/
def impl_isScheme.f (a0 : Int) : Option (Bool) := (impl_in.f a0 1 4).bind fun t193 => (some t193)
set_option maxHeartbeats 8000000 in
set_option maxRecDepth 100000 in
theorem impl_isScheme.calls (a0 : Int) (r : Bool) (w : World) (h : impl_isScheme.f a0 = some r) :
  Calls Tryd.prog 89 #[.int .i64 a0] w fun e w' => e = .returned (.bool r) ∧ Drawn0 w w' := by
 have H : ((impl_in.f a0 1 4).bind fun t193 => (some t193)) = some r := h
 clear h
 replace H := Option.bind_eq_some_iff.mp H
 obtain ⟨t193, A20, H⟩ := H
 replace H : (some t193) = some r := H
 have A2 := AM_ A20
 clear A20
 obtain rfl := Option.some.inj H
 go_enter Tryd.func89, Tryd.ntmps89
 go_wp2_with (first | ((with_reducible refine gate_callee (f := 63) rfl ?_); refine goesL_ (some 4) rfl rfl Tryd.func63 (by kernel_rfl) rfl #[.int .i64 a0, .int .i64 1, .int .i64 4] rfl (by (try simp only [List.map_toArray, List.map_cons, List.map_nil]); first | done | rfl | (simp only [List.length_drop, List.length_take]; rfl)) ?_; (with_reducible refine (impl_in.calls a0 1 4 t193 _ A2.out).mono ?_); rintro e w' ⟨rfl, ⟨nd, rfl⟩⟩; refine ⟨_, rfl, ?_⟩))
 go_ret
 exact ⟨by first | rfl | (simp; done) | (simp [*]; done), by repeat (first | exact Drawn0.refl _ | apply Drawn0.step)⟩

/-! ### impl_SchemeName: function 64 -/
def impl_SchemeName.f (a0 : Int) : Option (ByteArray) := (impl_isScheme.f a0).bind fun t194 => (if t194 = true then ((some (([(⟨#[99, 111, 109, 109, 105, 116, 116, 101, 100]⟩ : ByteArray), (⟨#[115, 110, 97, 112, 115, 104, 111, 116]⟩ : ByteArray), (⟨#[111, 112, 116, 105, 109, 105, 115, 116, 105, 99]⟩ : ByteArray), (⟨#[111, 114, 100, 101, 114, 101, 100]⟩ : ByteArray)] : List ByteArray) : List ByteArray)).bind fun y195 => (if 0 ≤ (wrap64 (a0 - 1)) then (if (wrap64 (a0 - 1)) < (y195.length : Int) then (some (rdOf ByteArray.empty y195 (wrap64 (a0 - 1)))) else (none)) else (none))) else (some (⟨#[]⟩ : ByteArray)))
set_option maxHeartbeats 8000000 in
set_option maxRecDepth 100000 in
theorem impl_SchemeName.calls (a0 : Int) (r : ByteArray) (w : World) (h : impl_SchemeName.f a0 = some r) :
  Calls Tryd.prog 64 #[.int .i64 a0] w fun e w' => e = .returned (.string r) ∧ Below w.heap.size w w' := by
 have HB := AM_ (Below.refl w.heap.size w)
 have H : ((impl_isScheme.f a0).bind fun t194 => (if t194 = true then ((some (([(⟨#[99, 111, 109, 109, 105, 116, 116, 101, 100]⟩ : ByteArray), (⟨#[115, 110, 97, 112, 115, 104, 111, 116]⟩ : ByteArray), (⟨#[111, 112, 116, 105, 109, 105, 115, 116, 105, 99]⟩ : ByteArray), (⟨#[111, 114, 100, 101, 114, 101, 100]⟩ : ByteArray)] : List ByteArray) : List ByteArray)).bind fun y195 => (if 0 ≤ (wrap64 (a0 - 1)) then (if (wrap64 (a0 - 1)) < (y195.length : Int) then (some (rdOf ByteArray.empty y195 (wrap64 (a0 - 1)))) else (none)) else (none))) else (some (⟨#[]⟩ : ByteArray)))) = some r := h
 clear h
 replace H := Option.bind_eq_some_iff.mp H
 obtain ⟨t194, A20, H⟩ := H
 replace H : (if t194 = true then ((some (([(⟨#[99, 111, 109, 109, 105, 116, 116, 101, 100]⟩ : ByteArray), (⟨#[115, 110, 97, 112, 115, 104, 111, 116]⟩ : ByteArray), (⟨#[111, 112, 116, 105, 109, 105, 115, 116, 105, 99]⟩ : ByteArray), (⟨#[111, 114, 100, 101, 114, 101, 100]⟩ : ByteArray)] : List ByteArray) : List ByteArray)).bind fun y195 => (if 0 ≤ (wrap64 (a0 - 1)) then (if (wrap64 (a0 - 1)) < (y195.length : Int) then (some (rdOf ByteArray.empty y195 (wrap64 (a0 - 1)))) else (none)) else (none))) else (some (⟨#[]⟩ : ByteArray))) = some r := H
 have A2 := AM_ A20
 clear A20
 by_cases c3 : t194 = true
 rotate_left
 ·replace c3 := Bool.eq_false_iff.mpr c3
  subst c3
  have H1 : (some (⟨#[]⟩ : ByteArray)) = some r := by rw [if_neg (show ¬ (false = true) by decide)] at H; exact H
  clear H
  have H := H1
  clear H1
  obtain rfl := Option.some.inj H
  go_enter Tryd.func64, Tryd.ntmps64
  go_wp2_with (first | ((with_reducible refine gate_callee (f := 89) rfl ?_); refine goesL_ (some 4) rfl rfl Tryd.func89 (by kernel_rfl) rfl #[.int .i64 a0] rfl (by (try simp only [List.map_toArray, List.map_cons, List.map_nil]); first | done | rfl | (simp only [List.length_drop, List.length_take]; rfl)) ?_; (with_reducible refine (impl_isScheme.calls a0 false _ A2.out).mono ?_); rintro e w' ⟨rfl, ⟨nd, rfl⟩⟩; refine ⟨_, rfl, ?_⟩))
  go_ret
  exact QT (BT HB.out)
 subst c3
 have H1 : ((some (([(⟨#[99, 111, 109, 109, 105, 116, 116, 101, 100]⟩ : ByteArray), (⟨#[115, 110, 97, 112, 115, 104, 111, 116]⟩ : ByteArray), (⟨#[111, 112, 116, 105, 109, 105, 115, 116, 105, 99]⟩ : ByteArray), (⟨#[111, 114, 100, 101, 114, 101, 100]⟩ : ByteArray)] : List ByteArray) : List ByteArray)).bind fun y195 => (if 0 ≤ (wrap64 (a0 - 1)) then (if (wrap64 (a0 - 1)) < (y195.length : Int) then (some (rdOf ByteArray.empty y195 (wrap64 (a0 - 1)))) else (none)) else (none))) = some r := by rw [if_pos rfl] at H; exact H
 clear H
 have H := H1
 clear H1
 obtain ⟨y195, hy195⟩ : ∃ y_ : List ByteArray, y_ = (([(⟨#[99, 111, 109, 109, 105, 116, 116, 101, 100]⟩ : ByteArray), (⟨#[115, 110, 97, 112, 115, 104, 111, 116]⟩ : ByteArray), (⟨#[111, 112, 116, 105, 109, 105, 115, 116, 105, 99]⟩ : ByteArray), (⟨#[111, 114, 100, 101, 114, 101, 100]⟩ : ByteArray)] : List ByteArray)) := ⟨_, rfl⟩
 replace H : (if 0 ≤ (wrap64 (a0 - 1)) then (if (wrap64 (a0 - 1)) < (y195.length : Int) then (some (rdOf ByteArray.empty y195 (wrap64 (a0 - 1)))) else (none)) else (none)) = some r := by first | (rw [hy195]; with_reducible exact H) | (have H2_ := (Option.bind_some _ _).symm.trans H; rw [hy195]; with_reducible exact H2_) | (have H2_ := (Option.bind_some _ _).symm.trans H; with_reducible exact H2_) | with_reducible exact H | (rw [hy195]; exact H) | exact H
 have Ny195 := AM_ hy195
 clear hy195
 obtain ⟨ji4, hji4⟩ : ∃ j_ : Int, (wrap64 (a0 - 1)) = j_ := ⟨_, rfl⟩
 replace H : (if 0 ≤ (ji4) then (if (ji4) < (y195.length : Int) then (some (rdOf ByteArray.empty y195 (ji4))) else (none)) else (none)) = some r := by first | (rw [hji4] at H; exact H) | (simp only [hji4] at H ⊢; exact H)
 (try rw [hji4] at A2)
 have hji4w : (IntKind.i64.wrap (a0 - 1)) = ji4 := (i64_w _).trans hji4
 by_cases c5 : 0 ≤ (ji4)
 rotate_left
 ·rw [if_neg c5] at H
  exact absurd H (by simp)
 rw [if_pos c5] at H
 have c5b0 : decide (0 ≤ (ji4)) = true := decide_eq_true c5
 clear c5
 by_cases c6 : (ji4) < (y195.length : Int)
 rotate_left
 ·rw [if_neg c6] at H
  exact absurd H (by simp)
 rw [if_pos c6] at H
 have c6b0 : decide ((ji4) < (y195.length : Int)) = true := decide_eq_true c6
 clear c6
 obtain rfl := Option.some.inj H
 go_enter Tryd.func64, Tryd.ntmps64
 go_wp2_with (first | ((with_reducible refine gate_callee (f := 89) rfl ?_); refine goesL_ (some 4) rfl rfl Tryd.func89 (by kernel_rfl) rfl #[.int .i64 a0] rfl (by (try simp only [List.map_toArray, List.map_cons, List.map_nil]); first | done | rfl | (simp only [List.length_drop, List.length_take]; rfl)) ?_; (with_reducible refine (impl_isScheme.calls a0 true _ A2.out).mono ?_); rintro e w' ⟨rfl, ⟨nd, rfl⟩⟩; refine ⟨_, rfl, ?_⟩) | ((with_reducible refine gate_dst (N := 6) rfl ?_); refine Kd.R_lit Kd.string _ 9 ?hg (N := 6) ?hd (xs := ([(⟨#[99, 111, 109, 109, 105, 116, 116, 101, 100]⟩ : ByteArray), (⟨#[115, 110, 97, 112, 115, 104, 111, 116]⟩ : ByteArray), (⟨#[111, 112, 116, 105, 109, 105, 115, 116, 105, 99]⟩ : ByteArray), (⟨#[111, 114, 100, 101, 114, 101, 100]⟩ : ByteArray)] : List ByteArray)) (inner := [.string (⟨#[99, 111, 109, 109, 105, 116, 116, 101, 100]⟩ : ByteArray), .string (⟨#[115, 110, 97, 112, 115, 104, 111, 116]⟩ : ByteArray), .string (⟨#[111, 112, 116, 105, 109, 105, 115, 116, 105, 99]⟩ : ByteArray), .string (⟨#[111, 114, 100, 101, 114, 101, 100]⟩ : ByteArray)]) (ok := fun _ => True) (okp := fun _ => True) ?hr ?hp (fun _ hk => hk) trivial (Below.refl _ _) (Nat.le_refl _) (by simp) ?_; (case hd => rfl); (case hg => rfl); (case hr => first | (go_simp; done) | (go_simp; rfl)); (case hp => exact (Reps.one (show Kd.M Kd.string _ _ _ (⟨#[99, 111, 109, 109, 105, 116, 116, 101, 100]⟩ : ByteArray) [.string (⟨#[99, 111, 109, 109, 105, 116, 116, 101, 100]⟩ : ByteArray)] from rfl) (Reps.one (show Kd.M Kd.string _ _ _ (⟨#[115, 110, 97, 112, 115, 104, 111, 116]⟩ : ByteArray) [.string (⟨#[115, 110, 97, 112, 115, 104, 111, 116]⟩ : ByteArray)] from rfl) (Reps.one (show Kd.M Kd.string _ _ _ (⟨#[111, 112, 116, 105, 109, 105, 115, 116, 105, 99]⟩ : ByteArray) [.string (⟨#[111, 112, 116, 105, 109, 105, 115, 116, 105, 99]⟩ : ByteArray)] from rfl) (Reps.one (show Kd.M Kd.string _ _ _ (⟨#[111, 114, 100, 101, 114, 101, 100]⟩ : ByteArray) [.string (⟨#[111, 114, 100, 101, 114, 101, 100]⟩ : ByteArray)] from rfl) (Reps.none _ _)))))); intro v196 w7 ho8 hb hg_ hnew_; clear hg_ hnew_; (first | rw [← Ny195.out] at ho8 | (simp only [Int.reduceToNat] at ho8; rw [← Ny195.out] at ho8)); have HO197 := AM_ (Kd.R_lower ho8 (below_size (BT HB.out))); replace HB := AM_ (below_step (BT HB.out) hb); clear hb ho8; obtain ⟨Ao9, co9, eo9⟩ := Kd.R_slice HO197.out; subst eo9; have p198 : 0 ≤ ((ji4) : Int) := DT; have q198 : (ji4) < (y195.length : Int) := DT; obtain ⟨ad198, e198, hx198_0⟩ := Kd.at_string (Kd.R_reads' HO197.out).2.2 (ji4) p198 q198; cases e198; replace p198 := eq_true p198; replace q198 := eq_true q198))
 go_ret
 exact ⟨by first | rfl | (simp [errW_none, errW_some] <;> rfl) | (simp only [← hji4]; first | rfl | (simp [errW_none, errW_some] <;> rfl)) | (simp [*, errW_none, errW_some] <;> rfl), BT HB.out⟩

/-! ### impl_parseScheme: function 36 -/
def impl_parseScheme.l0 : Nat → ByteArray → Int → Option (Int)
 | 0, _, _ => none
 | k + 1, x0, x3 => if x3 ≤ 4 then ((impl_SchemeName.f x3).bind fun t199 => (if t199.toList = x0.toList then (some x3) else (impl_parseScheme.l0 k x0 (wrap64 (x3 + 1))))) else (some 0)
def impl_parseScheme.f (k : Nat) (a0 : ByteArray) : Option (Int) := impl_parseScheme.l0 k a0 1
theorem impl_parseScheme.mono_l : ∀ k, (∀ y0 y1, LeO (impl_parseScheme.l0 k y0 y1) (impl_parseScheme.l0 (k + 1) y0 y1))
 | 0 => fun _ _ r h => by simp [impl_parseScheme.l0] at h
 | k + 1 => by
  have ih0 := impl_parseScheme.mono_l k
  ·intro y0 y1
   unfold impl_parseScheme.l0
   repeat' first
   | (with_reducible exact ih0 _ _)
   | (with_reducible exact LeO.refl _)
   | (with_reducible exact LeO.none _)
   | (with_reducible refine LeO.ite ?_ ?_)
   | (with_reducible refine LeO.bind ?_ (fun _ => ?_))
   | exact ih0 _ _
   | exact LeO.none _
   | refine LeO.ite ?_ ?_
   | refine LeO.bind ?_ (fun _ => ?_)
theorem impl_parseScheme.mono : ∀ a0 k, LeO (impl_parseScheme.f k a0) (impl_parseScheme.f (k + 1) a0) := by
 intro a0 k
 have ih0 := impl_parseScheme.mono_l k
 unfold impl_parseScheme.f
 repeat' first
   | (with_reducible exact ih0 _ _)
   | (with_reducible exact LeO.refl _)
   | (with_reducible exact LeO.none _)
   | (with_reducible refine LeO.ite ?_ ?_)
   | (with_reducible refine LeO.bind ?_ (fun _ => ?_))
   | exact ih0 _ _
   | exact LeO.none _
   | refine LeO.ite ?_ ?_
   | refine LeO.bind ?_ (fun _ => ?_)
set_option maxHeartbeats 8000000 in
set_option maxRecDepth 100000 in
theorem impl_parseScheme.calls (k : Nat) (a0 : ByteArray) (r : Int) (w : World) (h : impl_parseScheme.f k a0 = some r) :
  Calls Tryd.prog 36 #[.string a0] w fun e w' => e = .returned (.int .i64 r) ∧ Below w.heap.size w w' := by
 have HB := AM_ (Below.refl w.heap.size w)
 have H : (impl_parseScheme.l0 k a0 1) = some r := h
 clear h
 have H' := AM_ H
 clear H
 go_enter Tryd.func36, Tryd.ntmps36
 go_wp2
 go_loopg [3] k (fun kq v3 w' => ∃ (x3_1 : Int), v3 = .int .i64 x3_1 ∧ Aside0 (impl_parseScheme.l0 kq a0 x3_1 = some r) ∧ Aside0 (kq ≤ k) ∧ Aside0 (Below w.heap.size w w'))
 case atStart => exact ⟨(1), (by first | rfl | (simp; done) | (simp [*]; done)), H', ⟨Nat.le_refl _⟩, ⟨BT HB.out⟩⟩
 case round =>
  clear H'
  obtain ⟨x3_1, rfl, HA, HK1, HB⟩ := hrel
  cases gk with
  | zero => exact absurd HA.out (by simp [impl_parseScheme.l0])
  | succ k1 =>
   have H := HA.out
   clear HA
   simp only [impl_parseScheme.l0] at H
   by_cases c2 : x3_1 ≤ 4
   rotate_left
   ·rw [if_neg c2] at H
    have c2b0 : decide (x3_1 ≤ 4) = false := decide_eq_false c2
    clear c2
    obtain rfl := Option.some.inj H
    go_wp2
    go_ret
    exact QT (BT HB.out)
   rw [if_pos c2] at H
   have c2b0 : decide (x3_1 ≤ 4) = true := decide_eq_true c2
   clear c2
   replace H := Option.bind_eq_some_iff.mp H
   obtain ⟨t199, A30, H⟩ := H
   replace H : (if t199.toList = a0.toList then (some x3_1) else (impl_parseScheme.l0 k1 a0 (wrap64 (x3_1 + 1)))) = some r := H
   have A3 := AM_ A30
   clear A30
   by_cases c4 : t199.toList = a0.toList
   ·rw [if_pos c4] at H
    have c4b0 : (t199.toList == a0.toList) = true := beq_iff_eq.mpr c4
    have c4b1 : (t199.toList != a0.toList) = false := bne_eq_false_iff_eq.mpr c4
    clear c4
    obtain rfl := Option.some.inj H
    go_wp2_with (first | ((with_reducible refine gate_callee (f := 64) rfl ?_); refine goesL_ (some 9) rfl rfl Tryd.func64 (by kernel_rfl) rfl #[.int .i64 x3_1] rfl (by (try simp only [List.map_toArray, List.map_cons, List.map_nil]); first | done | rfl | (simp only [List.length_drop, List.length_take]; rfl)) ?_; (with_reducible refine (impl_SchemeName.calls x3_1 t199 _ A3.out).mono ?_); rintro e w5 ⟨rfl, hb⟩; refine ⟨_, rfl, ?_⟩; replace HB := AM_ (below_step (BT HB.out) hb); (try clear hb); (try clear hb2); (try clear hk); (try clear hi)))
    go_ret
    exact QT (BT HB.out)
   rw [if_neg c4] at H
   have c4b0 : (t199.toList == a0.toList) = false := beq_eq_false_iff_ne.mpr c4
   have c4b1 : (t199.toList != a0.toList) = true := bne_iff_ne.mpr c4
   have H' := AM_ H
   clear H
   go_wp2_with (first | ((with_reducible refine gate_callee (f := 64) rfl ?_); refine goesL_ (some 9) rfl rfl Tryd.func64 (by kernel_rfl) rfl #[.int .i64 x3_1] rfl (by (try simp only [List.map_toArray, List.map_cons, List.map_nil]); first | done | rfl | (simp only [List.length_drop, List.length_take]; rfl)) ?_; (with_reducible refine (impl_SchemeName.calls x3_1 t199 _ A3.out).mono ?_); rintro e w6 ⟨rfl, hb⟩; refine ⟨_, rfl, ?_⟩; replace HB := AM_ (below_step (BT HB.out) hb); (try clear hb); (try clear hb2); (try clear hk); (try clear hi)))
   go_roundg k1
   case measure => have := HK1.out; omega
   case rel => exact ⟨(wrap64 (x3_1 + 1)), (by first | rfl | (simp; done) | (simp [*]; done)), H', ⟨by have := HK1.out; omega⟩, ⟨BT HB.out⟩⟩

/-! ### impl_parseValue: function 37 -/
def impl_parseValue.f (a0 : ByteArray) : Option (Int × Bool) := (impl_ParseInt.f a0).bind fun bt200 => (if a0.toList = ([45] : List UInt8) then (some ((-1), true)) else (if bt200.2 = true then ((impl_in.f bt200.1 0 99).bind fun t202 => (some (bt200.1, t202))) else (some (bt200.1, false))))
set_option maxHeartbeats 8000000 in
set_option maxRecDepth 100000 in
theorem impl_parseValue.calls (a0 : ByteArray) (r1 : Int) (r2 : Bool) (w : World) (hTB : Tryd.TB w) (h : impl_parseValue.f a0 = some (r1, r2)) :
  Calls Tryd.prog 37 #[.string a0] w fun e w' => e = .returned (.tuple #[.int .i64 r1, .bool r2]) ∧ Below w.heap.size w w' := by
 have HB := AM_ (Below.refl w.heap.size w)
 have H : ((impl_ParseInt.f a0).bind fun bt200 => (if a0.toList = ([45] : List UInt8) then (some ((-1), true)) else (if bt200.2 = true then ((impl_in.f bt200.1 0 99).bind fun t202 => (some (bt200.1, t202))) else (some (bt200.1, false))))) = some (r1, r2) := h
 clear h
 replace H := Option.bind_eq_some_iff.mp H
 obtain ⟨⟨t200, t201⟩, A20, H⟩ := H
 replace H : (if a0.toList = ([45] : List UInt8) then (some ((-1), true)) else (if t201 = true then ((impl_in.f t200 0 99).bind fun t202 => (some (t200, t202))) else (some (t200, false)))) = some (r1, r2) := H
 have A2 := AM_ A20
 clear A20
 by_cases c3 : a0.toList = ([45] : List UInt8)
 ·rw [if_pos c3] at H
  have c3b0 : (a0.toList == ([45] : List UInt8)) = true := beq_iff_eq.mpr c3
  have c3b1 : (a0.toList != ([45] : List UInt8)) = false := bne_eq_false_iff_eq.mpr c3
  clear c3
  simp only [Option.some.injEq, Prod.mk.injEq] at H
  obtain ⟨rfl, rfl⟩ := H
  go_enter Tryd.func37, Tryd.ntmps37
  go_wp2_with (first | ((with_reducible refine gate_callee (f := 35) rfl ?_); refine goesL_ (some 8) rfl rfl Tryd.func35 (by kernel_rfl) rfl #[.string a0] rfl (by (try simp only [List.map_toArray, List.map_cons, List.map_nil]); first | done | rfl | (simp only [List.length_drop, List.length_take]; rfl)) ?_; (with_reducible refine (impl_ParseInt.calls a0 t200 t201 _ ?side1 A2.out).mono ?_); (case side1 => first | (with_reducible exact hTB) | exact Tryd.TB_below hTB (BT HB.out)); rintro e w4 ⟨rfl, hb⟩; refine ⟨_, rfl, ?_⟩; replace HB := AM_ (below_step (BT HB.out) hb); (try clear hb); (try clear hb2); (try clear hk); (try clear hi)))
  go_ret2
  exact QT (BT HB.out)
 rw [if_neg c3] at H
 have c3b0 : (a0.toList == ([45] : List UInt8)) = false := beq_eq_false_iff_ne.mpr c3
 have c3b1 : (a0.toList != ([45] : List UInt8)) = true := bne_iff_ne.mpr c3
 by_cases c5 : t201 = true
 rotate_left
 ·replace c5 := Bool.eq_false_iff.mpr c5
  subst c5
  have H1 : (some (t200, false)) = some (r1, r2) := by rw [if_neg (show ¬ (false = true) by decide)] at H; exact H
  clear H
  have H := H1
  clear H1
  simp only [Option.some.injEq, Prod.mk.injEq] at H
  obtain ⟨rfl, rfl⟩ := H
  go_enter Tryd.func37, Tryd.ntmps37
  go_wp2_with (first | ((with_reducible refine gate_callee (f := 35) rfl ?_); refine goesL_ (some 8) rfl rfl Tryd.func35 (by kernel_rfl) rfl #[.string a0] rfl (by (try simp only [List.map_toArray, List.map_cons, List.map_nil]); first | done | rfl | (simp only [List.length_drop, List.length_take]; rfl)) ?_; (with_reducible refine (impl_ParseInt.calls a0 t200 false _ ?side1 A2.out).mono ?_); (case side1 => first | (with_reducible exact hTB) | exact Tryd.TB_below hTB (BT HB.out)); rintro e w8 ⟨rfl, hb⟩; refine ⟨_, rfl, ?_⟩; replace HB := AM_ (below_step (BT HB.out) hb); (try clear hb); (try clear hb2); (try clear hk); (try clear hi)))
  go_ret2
  exact QT (BT HB.out)
 subst c5
 have H1 : ((impl_in.f t200 0 99).bind fun t202 => (some (t200, t202))) = some (r1, r2) := by rw [if_pos rfl] at H; exact H
 clear H
 have H := H1
 clear H1
 replace H := Option.bind_eq_some_iff.mp H
 obtain ⟨t202, A60, H⟩ := H
 replace H : (some (t200, t202)) = some (r1, r2) := H
 have A6 := AM_ A60
 clear A60
 simp only [Option.some.injEq, Prod.mk.injEq] at H
 obtain ⟨rfl, rfl⟩ := H
 go_enter Tryd.func37, Tryd.ntmps37
 go_wp2_with (first | ((with_reducible refine gate_callee (f := 35) rfl ?_); refine goesL_ (some 8) rfl rfl Tryd.func35 (by kernel_rfl) rfl #[.string a0] rfl (by (try simp only [List.map_toArray, List.map_cons, List.map_nil]); first | done | rfl | (simp only [List.length_drop, List.length_take]; rfl)) ?_; (with_reducible refine (impl_ParseInt.calls a0 t200 true _ ?side1 A2.out).mono ?_); (case side1 => first | (with_reducible exact hTB) | exact Tryd.TB_below hTB (BT HB.out)); rintro e w7 ⟨rfl, hb⟩; refine ⟨_, rfl, ?_⟩; replace HB := AM_ (below_step (BT HB.out) hb); (try clear hb); (try clear hb2); (try clear hk); (try clear hi)) | (go_at_call 63; (with_reducible refine (impl_in.calls t200 0 99 t202 _ A6.out).mono ?_); rintro e w' ⟨rfl, ⟨nd, rfl⟩⟩))
 go_ret2
 exact QT (BT HB.out)

/-! ### impl_isID: function 74 -/
def impl_isID.f (a0 : Int) : Option (Bool) := (impl_in.f a0 1 9).bind fun t203 => (some t203)
set_option maxHeartbeats 8000000 in
set_option maxRecDepth 100000 in
theorem impl_isID.calls (a0 : Int) (r : Bool) (w : World) (h : impl_isID.f a0 = some r) :
  Calls Tryd.prog 74 #[.int .i64 a0] w fun e w' => e = .returned (.bool r) ∧ Drawn0 w w' := by
 have H : ((impl_in.f a0 1 9).bind fun t203 => (some t203)) = some r := h
 clear h
 replace H := Option.bind_eq_some_iff.mp H
 obtain ⟨t203, A20, H⟩ := H
 replace H : (some t203) = some r := H
 have A2 := AM_ A20
 clear A20
 obtain rfl := Option.some.inj H
 go_enter Tryd.func74, Tryd.ntmps74
 go_wp2_with (first | ((with_reducible refine gate_callee (f := 63) rfl ?_); refine goesL_ (some 4) rfl rfl Tryd.func63 (by kernel_rfl) rfl #[.int .i64 a0, .int .i64 1, .int .i64 9] rfl (by (try simp only [List.map_toArray, List.map_cons, List.map_nil]); first | done | rfl | (simp only [List.length_drop, List.length_take]; rfl)) ?_; (with_reducible refine (impl_in.calls a0 1 9 t203 _ A2.out).mono ?_); rintro e w' ⟨rfl, ⟨nd, rfl⟩⟩; refine ⟨_, rfl, ?_⟩))
 go_ret
 exact ⟨by first | rfl | (simp; done) | (simp [*]; done), by repeat (first | exact Drawn0.refl _ | apply Drawn0.step)⟩

/-! ### impl_isKey: function 90 -/
def impl_isKey.f (a0 : Int) : Option (Bool) := (impl_in.f a0 0 5).bind fun t204 => (some t204)
set_option maxHeartbeats 8000000 in
set_option maxRecDepth 100000 in
theorem impl_isKey.calls (a0 : Int) (r : Bool) (w : World) (h : impl_isKey.f a0 = some r) :
  Calls Tryd.prog 90 #[.int .i64 a0] w fun e w' => e = .returned (.bool r) ∧ Drawn0 w w' := by
 have H : ((impl_in.f a0 0 5).bind fun t204 => (some t204)) = some r := h
 clear h
 replace H := Option.bind_eq_some_iff.mp H
 obtain ⟨t204, A20, H⟩ := H
 replace H : (some t204) = some r := H
 have A2 := AM_ A20
 clear A20
 obtain rfl := Option.some.inj H
 go_enter Tryd.func90, Tryd.ntmps90
 go_wp2_with (first | ((with_reducible refine gate_callee (f := 63) rfl ?_); refine goesL_ (some 4) rfl rfl Tryd.func63 (by kernel_rfl) rfl #[.int .i64 a0, .int .i64 0, .int .i64 5] rfl (by (try simp only [List.map_toArray, List.map_cons, List.map_nil]); first | done | rfl | (simp only [List.length_drop, List.length_take]; rfl)) ?_; (with_reducible refine (impl_in.calls a0 0 5 t204 _ A2.out).mono ?_); rintro e w' ⟨rfl, ⟨nd, rfl⟩⟩; refine ⟨_, rfl, ?_⟩))
 go_ret
 exact ⟨by first | rfl | (simp; done) | (simp [*]; done), by repeat (first | exact Drawn0.refl _ | apply Drawn0.step)⟩

/-! ### impl_isValue: function 91 -/
def impl_isValue.f (a0 : Int) : Option (Bool) := (impl_in.f a0 (-1) 99).bind fun t205 => (some t205)
set_option maxHeartbeats 8000000 in
set_option maxRecDepth 100000 in
theorem impl_isValue.calls (a0 : Int) (r : Bool) (w : World) (h : impl_isValue.f a0 = some r) :
  Calls Tryd.prog 91 #[.int .i64 a0] w fun e w' => e = .returned (.bool r) ∧ Drawn0 w w' := by
 have H : ((impl_in.f a0 (-1) 99).bind fun t205 => (some t205)) = some r := h
 clear h
 replace H := Option.bind_eq_some_iff.mp H
 obtain ⟨t205, A20, H⟩ := H
 replace H : (some t205) = some r := H
 have A2 := AM_ A20
 clear A20
 obtain rfl := Option.some.inj H
 go_enter Tryd.func91, Tryd.ntmps91
 go_wp2_with (first | ((with_reducible refine gate_callee (f := 63) rfl ?_); refine goesL_ (some 4) rfl rfl Tryd.func63 (by kernel_rfl) rfl #[.int .i64 a0, .int .i64 (-1), .int .i64 99] rfl (by (try simp only [List.map_toArray, List.map_cons, List.map_nil]); first | done | rfl | (simp only [List.length_drop, List.length_take]; rfl)) ?_; (with_reducible refine (impl_in.calls a0 (-1) 99 t205 _ A2.out).mono ?_); rintro e w' ⟨rfl, ⟨nd, rfl⟩⟩; refine ⟨_, rfl, ?_⟩))
 go_ret
 exact ⟨by first | rfl | (simp; done) | (simp [*]; done), by repeat (first | exact Drawn0.refl _ | apply Drawn0.step)⟩

end Go.Proofs.YtgpmfkmdchcagaaDoor.PFnExactParseOps
