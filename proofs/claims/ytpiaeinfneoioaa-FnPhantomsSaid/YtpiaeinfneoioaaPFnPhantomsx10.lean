-- Printed by a program of mine (wip/myprint.py), which runs the printer of the kit with contracts of mine beside it.
import Derived.Test.YtpiaeinfneoioaaPFnPhantomsx0
import Derived.Test.YtpiaeinfneoioaaPFnPhantomsx7
import Derived.Test.YtpiaeinfneoioaaPFnPhantomsx9
namespace Go.Proofs.Ytpiaeinfneoioaa.PFnPhantoms
open Go.RowKit Go.Proofs.YtpiaeinfneoioaaW.PrintWords Go.Proofs.YtpiaeinfneoioaaW.PrintLast Go.Proofs.YtpiaeinfneoioaaW.PrintMore
attribute [local go_sem] max2_int min2_int max_two min_two max_three min_three max_four min_four   -- for this text's walks alone
set_option linter.unusedVariables false
set_option linter.unusedSimpArgs false

/-! ### spec_l16Copy: function 159 -/
def spec_l16Copy.f (l0 : List (S77)) : Option ((List (S77))) := (some (([] : List (S77)) : List (S77))).bind fun y302 => (if y302.length + l0.length < 5864062014805 then (some (y302 ++ l0)) else (none))
set_option maxHeartbeats 8000000 in
set_option maxRecDepth 100000 in
theorem spec_l16Copy.calls (A0 : Option Addr) (c0 : Nat) (l0 : List (S77)) (r : List (S77)) (w : World) (hr0 : Kd.C k77 w A0 l0.length l0) (hc0 : l0.length ≤ c0) (h : spec_l16Copy.f l0 = some r) :
  Calls Try.prog 159 #[.slice A0 l0.length c0] w fun e w' => ∃ v0_ : Value, e = .returned (v0_) ∧ Kd.R k77 77 w' w.heap.size (fun _ => True) v0_ r ∧ Below w.heap.size w w' := by
 have HR0 := AM_ hr0
 have HC0 := AM_ hc0
 clear hr0 hc0
 have HB := AM_ (Below.refl w.heap.size w)
 have H : ((some (([] : List (S77)) : List (S77))).bind fun y302 => (if y302.length + l0.length < 5864062014805 then (some (y302 ++ l0)) else (none))) = some r := h
 clear h
 obtain ⟨y302, hy302⟩ : ∃ y_ : List (S77), y_ = (([] : List (S77))) := ⟨_, rfl⟩
 replace H : (if y302.length + l0.length < 5864062014805 then (some (y302 ++ l0)) else (none)) = some r := by first | (rw [hy302]; with_reducible exact H) | (have H2_ := (Option.bind_some _ _).symm.trans H; rw [hy302]; with_reducible exact H2_) | (have H2_ := (Option.bind_some _ _).symm.trans H; with_reducible exact H2_) | with_reducible exact H | (rw [hy302]; exact H) | exact H
 have Ny302 := AM_ hy302
 clear hy302
 by_cases c2 : y302.length + l0.length < 5864062014805
 rotate_left
 ·rw [if_neg c2] at H
  exact absurd H (by simp)
 rw [if_pos c2] at H
 have LMc2 := AM_ c2
 clear c2
 obtain ⟨y305, hy305⟩ : ∃ y_ : List (S77), y_ = (y302 ++ l0) := ⟨_, rfl⟩
 replace H : (some y305) = some r := by first | (rw [hy305]; with_reducible exact H) | (have H2_ := (Option.bind_some _ _).symm.trans H; rw [hy305]; with_reducible exact H2_) | (have H2_ := (Option.bind_some _ _).symm.trans H; with_reducible exact H2_) | with_reducible exact H | (rw [hy305]; exact H) | exact H
 have Ny305 := AM_ hy305
 clear hy305
 obtain rfl := Option.some.inj H
 go_enter Try.func159, Try.ntmps159
 go_wp2_with (first | ((with_reducible refine gate_dst (N := 3) rfl ?_); refine Kd.R_lit k77 _ 77 ?hg (N := 3) ?hd (xs := ([] : List (S77))) (inner := []) (ok := fun _ => True) (okp := fun _ => True) ?hr ?hp (fun _ hk => hk) trivial (Below.refl _ _) (Nat.le_refl _) (by simp) ?_; (case hd => rfl); (case hg => rfl); (case hr => first | (go_simp; done) | (go_simp; rfl)); (case hp => exact (Reps.none _ _)); intro v303 w3 ho4 hb hg_ hnew_; clear hg_ hnew_; (first | rw [← Ny302.out] at ho4 | (simp only [Int.reduceToNat] at ho4; rw [← Ny302.out] at ho4)); have n0_ := AM_ (Kd.R_lower ho4 (below_size (by exact BL HB.out rfl rfl rfl rfl))); have n1_ := AM_ (below_step (by exact BL HB.out rfl rfl rfl rfl) hb); clear HB; have HO304 := n0_; have HB := n1_; clear n0_ n1_; clear hb ho4) | ((with_reducible refine gate_builtin (b := .append) (xs := #[.tmp 3, .tmp 4]) rfl ?_); at_builtin; refine Kd.R_append_rows k77 (w0 := w) w.heap.size rfl (.tmp 3) (.tmp 4) 74 77 (.agg #[(.int .i64 0), (.int .i64 0), (.int .i64 0)]) 24 rfl Try.underlying74 info77 rfl (by decide) (by omega) v303 y302 l0 _ _ _ (fun _ => True) (fun _ => False) rfl rfl ?aO ?aR (fun _ _ h => h) (fun _ h => h.elim) ?aF ?aB ?aS ?aL ?_; (case aR => exact Kd.C_below (Kd.C_below HR0.out HB.out) (BL (Below.refl _ _) rfl rfl rfl rfl)); (case aB => exact (by exact BL HB.out rfl rfl rfl rfl)); (case aF => exact (fun _ _ => trivial)); (case aO => exact (by exact RL HO304.out rfl)); (case aS => exact (below_size (by exact BL HB.out rfl rfl rfl rfl))); (case aL => have := LMc2.out; omega); intro v306 w5 ho hb hg hat; rw [← Ny305.out] at ho; have n0_ := AM_ (hb); have n1_ := AM_ (ho); clear HB; clear HO304; have HB := n0_; have HO307 := n1_; clear n0_ n1_; clear ho hb hg hat))
 go_ret
 exact ⟨_, by first | rfl | (simp [errW_none, errW_some] <;> rfl) | (simp [*, errW_none, errW_some] <;> rfl), by exact RL HO307.out rfl, by exact BL HB.out rfl rfl rfl rfl⟩

/-! ### spec_SplitNode: function 82 -/
mutual
def spec_SplitNode.l0 : Nat → List (S77) → Int → List (S77) → Bool → Int → Option ((List (S77)) × Bool)
 | 0, _, _, _, _, _ => none
 | k + 1, x0, x1, x6, x7, x8 => if x8 < (x0.length : Int) then ((spec_IsIndex.f k x0).bind fun t311 => (spec_SplitNode.j1 k x0 x1 x6 x7 x8 t311)) else (spec_SplitNode.j1 k x0 x1 x6 x7 x8 false)
def spec_SplitNode.j1 : Nat → List (S77) → Int → List (S77) → Bool → Int → Bool → Option ((List (S77)) × Bool)
 | 0, _, _, _, _, _, _ => none
 | k + 1, x0, x1, x6, x7, x8, x18 => if x18 = true then (if 0 ≤ x8 then (if x8 < (x0.length : Int) then (if x1 > ((rd_T77 x0 x8).f0) then (if x1 ≤ ((rd_T77 x0 x8).f1) then ((some (([(⟨(rd_T77 x0 x8).f0, wrap64 (x1 - 1), (rd_T77 x0 x8).f2⟩ : S77), (⟨x1, (rd_T77 x0 x8).f1, (rd_T77 x0 x8).f2⟩ : S77)] : List (S77)) : List (S77))).bind fun y314 => (if x6.length + y314.length < 5864062014805 then (spec_SplitNode.l0 k x0 x1 (x6 ++ y314) true (wrap64 (x8 + 1))) else (none))) else (if x6.length < 5864062014805 then (spec_SplitNode.l0 k x0 x1 (x6 ++ [(⟨(rd_T77 x0 x8).f0, (rd_T77 x0 x8).f1, (rd_T77 x0 x8).f2⟩ : S77)]) x7 (wrap64 (x8 + 1))) else (none))) else (if x6.length < 5864062014805 then (spec_SplitNode.l0 k x0 x1 (x6 ++ [(⟨(rd_T77 x0 x8).f0, (rd_T77 x0 x8).f1, (rd_T77 x0 x8).f2⟩ : S77)]) x7 (wrap64 (x8 + 1))) else (none))) else (none)) else (none)) else (if x7 = true then (some (x6, true)) else ((spec_l16Copy.f x0).bind fun t326 => (some (t326, false))))
end
def spec_SplitNode.f (k : Nat) (l0 : List (S77)) (a1 : Int) : Option ((List (S77)) × Bool) := spec_SplitNode.l0 k l0 a1 (([] : List (S77))) false 0
theorem spec_SplitNode.mono_l : ∀ k, (∀ y0 y1 y2 y3 y4, LeO (spec_SplitNode.l0 k y0 y1 y2 y3 y4) (spec_SplitNode.l0 (k + 1) y0 y1 y2 y3 y4)) ∧ (∀ y0 y1 y2 y3 y4 y5, LeO (spec_SplitNode.j1 k y0 y1 y2 y3 y4 y5) (spec_SplitNode.j1 (k + 1) y0 y1 y2 y3 y4 y5))
 | 0 => ⟨fun _ _ _ _ _ r h => by simp [spec_SplitNode.l0] at h, fun _ _ _ _ _ _ r h => by simp [spec_SplitNode.j1] at h⟩
 | k + 1 => by
  obtain ⟨ih0, ih1⟩ := spec_SplitNode.mono_l k
  refine ⟨?_, ?_⟩
  ·intro y0 y1 y2 y3 y4
   unfold spec_SplitNode.l0
   repeat' first
   | (with_reducible exact ih0 _ _ _ _ _)
   | (with_reducible exact ih1 _ _ _ _ _ _)
   | (with_reducible exact spec_IsIndex.mono _ _)
   | (with_reducible exact LeO.refl _)
   | (with_reducible exact LeO.none _)
   | (with_reducible refine LeO.ite ?_ ?_)
   | (with_reducible refine LeO.bind ?_ (fun _ => ?_))
   | exact ih0 _ _ _ _ _
   | exact ih1 _ _ _ _ _ _
   | exact spec_IsIndex.mono _ _
   | exact LeO.none _
   | refine LeO.ite ?_ ?_
   | refine LeO.bind ?_ (fun _ => ?_)
  ·intro y0 y1 y2 y3 y4 y5
   unfold spec_SplitNode.j1
   repeat' first
   | (with_reducible exact ih0 _ _ _ _ _)
   | (with_reducible exact ih1 _ _ _ _ _ _)
   | (with_reducible exact spec_IsIndex.mono _ _)
   | (with_reducible exact LeO.refl _)
   | (with_reducible exact LeO.none _)
   | (with_reducible refine LeO.ite ?_ ?_)
   | (with_reducible refine LeO.bind ?_ (fun _ => ?_))
   | exact ih0 _ _ _ _ _
   | exact ih1 _ _ _ _ _ _
   | exact spec_IsIndex.mono _ _
   | exact LeO.none _
   | refine LeO.ite ?_ ?_
   | refine LeO.bind ?_ (fun _ => ?_)
theorem spec_SplitNode.mono : ∀ a0 a1 k, LeO (spec_SplitNode.f k a0 a1) (spec_SplitNode.f (k + 1) a0 a1) := by
 intro a0 a1 k
 obtain ⟨ih0, ih1⟩ := spec_SplitNode.mono_l k
 unfold spec_SplitNode.f
 repeat' first
   | (with_reducible exact ih0 _ _ _ _ _)
   | (with_reducible exact ih1 _ _ _ _ _ _)
   | (with_reducible exact spec_IsIndex.mono _ _)
   | (with_reducible exact LeO.refl _)
   | (with_reducible exact LeO.none _)
   | (with_reducible refine LeO.ite ?_ ?_)
   | (with_reducible refine LeO.bind ?_ (fun _ => ?_))
   | exact ih0 _ _ _ _ _
   | exact ih1 _ _ _ _ _ _
   | exact spec_IsIndex.mono _ _
   | exact LeO.none _
   | refine LeO.ite ?_ ?_
   | refine LeO.bind ?_ (fun _ => ?_)
set_option maxHeartbeats 8000000 in
set_option maxRecDepth 100000 in
theorem spec_SplitNode.calls (k : Nat) (A0 : Option Addr) (c0 : Nat) (l0 : List (S77)) (a1 : Int) (r1 : List (S77)) (r2 : Bool) (w : World) (hr0 : Kd.C k77 w A0 l0.length l0) (hc0 : l0.length ≤ c0) (h : spec_SplitNode.f k l0 a1 = some (r1, r2)) :
  Calls Try.prog 82 #[.slice A0 l0.length c0, .int .i64 a1] w fun e w' => ∃ v0_ : Value, e = .returned (.tuple #[v0_, .bool r2]) ∧ Kd.R k77 77 w' w.heap.size (fun _ => True) v0_ r1 ∧ Below w.heap.size w w' := by
 have hu77 := Try.underlying77
 have HR0 := AM_ hr0
 have HC0 := AM_ hc0
 clear hr0 hc0
 have HB := AM_ (Below.refl w.heap.size w)
 have H : (spec_SplitNode.l0 k l0 a1 (([] : List (S77))) false 0) = some (r1, r2) := h
 clear h
 obtain ⟨y308, hy308⟩ : ∃ y_ : List (S77), y_ = (([] : List (S77))) := ⟨_, rfl⟩
 replace H : (spec_SplitNode.l0 k l0 a1 y308 false 0) = some (r1, r2) := by first | (rw [hy308]; with_reducible exact H) | (have H2_ := (Option.bind_some _ _).symm.trans H; rw [hy308]; with_reducible exact H2_) | (have H2_ := (Option.bind_some _ _).symm.trans H; with_reducible exact H2_) | with_reducible exact H | (rw [hy308]; exact H) | exact H
 have Ny308 := AM_ hy308
 clear hy308
 have H' := AM_ H
 clear H
 go_enter Try.func82, Try.ntmps82
 go_wp2_with (first | ((with_reducible refine gate_dst (N := 10) rfl ?_); refine Kd.R_lit k77 _ 77 ?hg (N := 10) ?hd (xs := ([] : List (S77))) (inner := []) (ok := fun _ => True) (okp := fun _ => True) ?hr ?hp (fun _ hk => hk) trivial (Below.refl _ _) (Nat.le_refl _) (by simp) ?_; (case hd => rfl); (case hg => rfl); (case hr => first | (go_simp; done) | (go_simp; rfl)); (case hp => exact (Reps.none _ _)); intro v309 w3 ho4 hb hg_ hnew_; clear hg_ hnew_; (first | rw [← Ny308.out] at ho4 | (simp only [Int.reduceToNat] at ho4; rw [← Ny308.out] at ho4)); have n0_ := AM_ (Kd.R_lower ho4 (below_size (by exact BL HB.out rfl rfl rfl rfl))); have n1_ := AM_ (below_step (by exact BL HB.out rfl rfl rfl rfl) hb); clear HB; have HO310 := n0_; have HB := n1_; clear n0_ n1_; clear hb ho4))
 go_loopg [6, 7, 8] k (fun kq v6 v7 v8 w' => ∃ (x6_1 : List (S77)) (x7_1 : Bool) (x8_1 : Int), v7 = .bool x7_1 ∧ v8 = .int .i64 x8_1 ∧ Aside0 (spec_SplitNode.l0 kq l0 a1 x6_1 x7_1 x8_1 = some (r1, r2)) ∧ Aside0 (kq ≤ k) ∧ Aside0 (Kd.R k77 77 w' w.heap.size (fun _ => True) v6 x6_1) ∧ Aside0 (Below w.heap.size w w'))
 case atStart => exact ⟨(y308), (false), (0), (by first | rfl | (simp; done) | (simp [*]; done)), (by first | rfl | (simp; done) | (simp [*]; done)), H', ⟨Nat.le_refl _⟩, ⟨by exact RL HO310.out rfl⟩, ⟨by exact BL HB.out rfl rfl rfl rfl⟩⟩
 case round =>
  clear H'
  try clear p2
  obtain ⟨x6_1, x7_1, x8_1, rfl, rfl, HA, HK1, HO_6, HB⟩ := hrel
  cases gk with
  | zero => exact absurd HA.out (by simp [spec_SplitNode.l0])
  | succ k1 =>
   have H := HA.out
   clear HA
   simp only [spec_SplitNode.l0] at H
   have HC5 := AM_ H
   clear H
   go_upto_region 4 with (fail)
   go_cut [18] (fun v18 wc => ∃ (kq : Nat) (x18_4 : Bool), v18 = .bool x18_4 ∧ Aside0 (spec_SplitNode.j1 kq l0 a1 x6_1 x7_1 x8_1 x18_4 = some (r1, r2)) ∧ Aside0 (kq ≤ k1) ∧ Aside0 (Kd.R k77 77 wc w.heap.size (fun _ => True) u6 x6_1) ∧ Aside0 (Below w.heap.size w wc))
   case first =>
    have H := HC5.out
    clear HC5
    by_cases c6 : x8_1 < (l0.length : Int)
    rotate_left
    ·rw [if_neg c6] at H
     have c6b0 : decide (x8_1 < (l0.length : Int)) = false := decide_eq_false c6
     clear c6
     (first | rw [c6b0] | (simp only [i64_w, i32_w]; rw [c6b0]) | skip)
     have H' := AM_ H
     clear H
     go_wp2
     go_meet
     case rel => exact ⟨_, (false), (by first | rfl | (simp; done) | (simp [*]; done)), H', ⟨by have := HK1.out; first | omega | exact Nat.le_refl _⟩, ⟨by exact RL HO_6.out rfl⟩, ⟨by exact BL HB.out rfl rfl rfl rfl⟩⟩
    rw [if_pos c6] at H
    have c6b0 : decide (x8_1 < (l0.length : Int)) = true := decide_eq_true c6
    clear c6
    (first | rw [c6b0] | (simp only [i64_w, i32_w]; rw [c6b0]) | skip)
    replace H := Option.bind_eq_some_iff.mp H
    obtain ⟨t311, A70, H⟩ := H
    replace H : (spec_SplitNode.j1 k1 l0 a1 x6_1 x7_1 x8_1 t311) = some (r1, r2) := H
    have A7 := AM_ A70
    clear A70
    have H' := AM_ H
    clear H
    go_wp2_with (first | (go_at_call 83; (with_reducible refine (spec_IsIndex.calls k1 _ _ l0 t311 _ ?side1 ?side2 A7.out).mono ?_); (case side1 => exact Kd.C_below (Kd.C_below HR0.out HB.out) (BL (Below.refl _ _) rfl rfl rfl rfl)); (case side2 => exact HC0.out); rintro e w8 ⟨rfl, hb⟩; have n0_ := AM_ (Kd.R_below (by exact RL HO_6.out rfl) hb); have n1_ := AM_ (below_step (by exact BL HB.out rfl rfl rfl rfl) hb); clear HO_6; clear HB; have HO_6 := n0_; have HB := n1_; clear n0_ n1_; (try clear hb); (try clear hb2); (try clear hk); (try clear hi)))
    go_meet
    case rel => exact ⟨_, (t311), (by first | rfl | (simp; done) | (simp [*]; done)), H', ⟨by have := HK1.out; first | omega | exact Nat.le_refl _⟩, ⟨by exact RL HO_6.out rfl⟩, ⟨by exact BL HB.out rfl rfl rfl rfl⟩⟩
   case rest =>
    clear HC5
    try clear p2
    try clear c6
    try clear c6b0
    try clear c8
    try clear p2
    obtain ⟨kq, x18_4, rfl, HA, HJ4, HO_6, HB⟩ := hcut
    cases kq with
    | zero => exact absurd HA.out (by simp [spec_SplitNode.j1])
    | succ kj4 =>
     have H := HA.out
     clear HA
     simp only [spec_SplitNode.j1] at H
     by_cases c9 : x18_4 = true
     rotate_left
     ·replace c9 := Bool.eq_false_iff.mpr c9
      subst c9
      have H1 : (if x7_1 = true then (some (x6_1, true)) else ((spec_l16Copy.f l0).bind fun t326 => (some (t326, false)))) = some (r1, r2) := by rw [if_neg (show ¬ (false = true) by decide)] at H; exact H
      clear H
      have H := H1
      clear H1
      by_cases c29 : x7_1 = true
      ·subst c29
       have H1 : (some (x6_1, true)) = some (r1, r2) := by rw [if_pos rfl] at H; exact H
       clear H
       have H := H1
       clear H1
       simp only [Option.some.injEq, Prod.mk.injEq] at H
       obtain ⟨rfl, rfl⟩ := H
       go_wp2
       go_ret2
       exact ⟨_, by first | rfl | (simp [errW_none, errW_some] <;> rfl) | (simp [*, errW_none, errW_some] <;> rfl), by exact RL HO_6.out rfl, by exact BL HB.out rfl rfl rfl rfl⟩
      replace c29 := Bool.eq_false_iff.mpr c29
      subst c29
      have H1 : ((spec_l16Copy.f l0).bind fun t326 => (some (t326, false))) = some (r1, r2) := by rw [if_neg (show ¬ (false = true) by decide)] at H; exact H
      clear H
      have H := H1
      clear H1
      replace H := Option.bind_eq_some_iff.mp H
      obtain ⟨t326, A300, H⟩ := H
      replace H : (some (t326, false)) = some (r1, r2) := H
      have A30 := AM_ A300
      clear A300
      simp only [Option.some.injEq, Prod.mk.injEq] at H
      obtain ⟨rfl, rfl⟩ := H
      go_wp2_with (first | ((with_reducible refine gate_callee (f := 159) rfl ?_); refine goesL_ (some 58) rfl rfl Try.func159 (by kernel_rfl) rfl #[.slice A0 l0.length c0] rfl (by (try simp only [List.map_toArray, List.map_cons, List.map_nil]); first | done | rfl | (simp only [List.length_drop, List.length_take]; rfl)) ?_; (with_reducible refine (spec_l16Copy.calls _ _ l0 t326 _ ?side1 ?side2 A30.out).mono ?_); (case side1 => exact Kd.C_below (Kd.C_below HR0.out HB.out) (BL (Below.refl _ _) rfl rfl rfl rfl)); (case side2 => exact HC0.out); rintro e w31 ⟨v327, rfl, ho0, hb⟩; refine ⟨_, rfl, ?_⟩; have n0_ := AM_ (Kd.R_elder' (by exact RL HO_6.out rfl) (Kd.R_base ho0) hb); have n1_ := AM_ (Kd.R_lower (Kd.R_new' ho0 (Kd.R_lt (by exact RL HO_6.out rfl))) (below_size (by exact BL HB.out rfl rfl rfl rfl))); have n2_ := AM_ (below_step (by exact BL HB.out rfl rfl rfl rfl) hb); clear HO_6; clear HB; have HO_6 := n0_; have HO328 := n1_; have HB := n2_; clear n0_ n1_ n2_; (try clear hb); (try clear hb2); (try clear hk); (try clear hi); (try clear ho0)))
      go_ret2
      exact ⟨_, by first | rfl | (simp [errW_none, errW_some] <;> rfl) | (simp [*, errW_none, errW_some] <;> rfl), by (with_reducible repeat (first | apply Kd.R_alloc | apply Kd.R_drewN | apply Kd.R_drew)); exact Kd.R_mono HO328.out (fun _ hk => trivial), by exact BL HB.out rfl rfl rfl rfl⟩
     subst c9
     have H1 : (if 0 ≤ x8_1 then (if x8_1 < (l0.length : Int) then (if a1 > ((rd_T77 l0 x8_1).f0) then (if a1 ≤ ((rd_T77 l0 x8_1).f1) then ((some (([(⟨(rd_T77 l0 x8_1).f0, wrap64 (a1 - 1), (rd_T77 l0 x8_1).f2⟩ : S77), (⟨a1, (rd_T77 l0 x8_1).f1, (rd_T77 l0 x8_1).f2⟩ : S77)] : List (S77)) : List (S77))).bind fun y314 => (if x6_1.length + y314.length < 5864062014805 then (spec_SplitNode.l0 kj4 l0 a1 (x6_1 ++ y314) true (wrap64 (x8_1 + 1))) else (none))) else (if x6_1.length < 5864062014805 then (spec_SplitNode.l0 kj4 l0 a1 (x6_1 ++ [(⟨(rd_T77 l0 x8_1).f0, (rd_T77 l0 x8_1).f1, (rd_T77 l0 x8_1).f2⟩ : S77)]) x7_1 (wrap64 (x8_1 + 1))) else (none))) else (if x6_1.length < 5864062014805 then (spec_SplitNode.l0 kj4 l0 a1 (x6_1 ++ [(⟨(rd_T77 l0 x8_1).f0, (rd_T77 l0 x8_1).f1, (rd_T77 l0 x8_1).f2⟩ : S77)]) x7_1 (wrap64 (x8_1 + 1))) else (none))) else (none)) else (none)) = some (r1, r2) := by rw [if_pos rfl] at H; exact H
     clear H
     have H := H1
     clear H1
     by_cases c10 : 0 ≤ x8_1
     rotate_left
     ·rw [if_neg c10] at H
      exact absurd H (by simp)
     rw [if_pos c10] at H
     have c10b0 : decide (0 ≤ x8_1) = true := decide_eq_true c10
     clear c10
     by_cases c11 : x8_1 < (l0.length : Int)
     rotate_left
     ·rw [if_neg c11] at H
      exact absurd H (by simp)
     rw [if_pos c11] at H
     have c11b0 : decide (x8_1 < (l0.length : Int)) = true := decide_eq_true c11
     clear c11
     by_cases c12 : a1 > ((rd_T77 l0 x8_1).f0)
     rotate_left
     ·rw [if_neg c12] at H
      have c12b0 : decide (((rd_T77 l0 x8_1).f0) < a1) = false := decide_eq_false c12
      clear c12
      by_cases c25 : x6_1.length < 5864062014805
      rotate_left
      ·rw [if_neg c25] at H
       exact absurd H (by simp)
      rw [if_pos c25] at H
      have LMc25 := AM_ c25
      clear c25
      obtain ⟨y323, hy323⟩ : ∃ y_ : List (S77), y_ = (x6_1 ++ [(⟨(rd_T77 l0 x8_1).f0, (rd_T77 l0 x8_1).f1, (rd_T77 l0 x8_1).f2⟩ : S77)]) := ⟨_, rfl⟩
      replace H : (spec_SplitNode.l0 kj4 l0 a1 y323 x7_1 (wrap64 (x8_1 + 1))) = some (r1, r2) := by first | (rw [hy323]; with_reducible exact H) | (have H2_ := (Option.bind_some _ _).symm.trans H; rw [hy323]; with_reducible exact H2_) | (have H2_ := (Option.bind_some _ _).symm.trans H; with_reducible exact H2_) | with_reducible exact H | (rw [hy323]; exact H) | exact H
      have Ny323 := AM_ hy323
      clear hy323
      have H' := AM_ H
      clear H
      have p312 : 0 ≤ (x8_1 : Int) := of_decide_eq_true (by first | (with_reducible assumption) | assumption)
      have q312 : x8_1 < (l0.length : Int) := of_decide_eq_true (by first | (with_reducible assumption) | assumption)
      obtain ⟨ad312, e312, hx312_0, hx312_1, hx312_2⟩ := at_T77 HR0.out x8_1 p312 q312
      cases e312
      replace hx312_0 := BC HB.out hx312_0
      replace hx312_1 := BC HB.out hx312_1
      replace hx312_2 := BC HB.out hx312_2
      replace p312 := eq_true p312
      replace q312 := eq_true q312
      go_wp2_with (first | ((with_reducible refine gate_dst (N := 9) rfl ?_); refine box_event ?hg (N := 9) ?hd (cs := #[.int .i64 0, .int .i64 0, .int .i64 0]) (t := 77) ?hr ?_; (case hd => rfl); (case hg => rfl); (case hr => first | (go_simp; done) | (go_simp; rfl)); intro gb313 hg w26 hbox hb; have n0_ := AM_ (Kd.R_below (Kd.R_elderB (by exact RL HO_6.out rfl) gb313 (Nat.le_of_eq hg.symm)) hb); have n1_ := AM_ (below_step (by exact BL HB.out rfl rfl rfl rfl) hb); have n2_ := AM_ (hbox); have n3_ := AM_ ((by rw [hg]; exact (below_size (by exact BL HB.out rfl rfl rfl rfl)) : w.heap.size ≤ gb313)); have n4_ := AM_ ((by rw [hg]; exact (below_size (by exact BL HB.out rfl rfl rfl rfl)) : w.heap.size ≤ gb313)); clear HO_6; clear HB; have HO_6 := n0_; have HB := n1_; have BK313 := n2_; have GW313 := n3_; have GE313 := n4_; clear n0_ n1_ n2_ n3_ n4_; clear hb hbox hg; have hcz27_0 : w26.cell? ⟨gb313, 0, none⟩ = some (.int .i64 0) := (blk_cell BK313.out 0).trans rfl; have hcz27_1 : w26.cell? ⟨gb313, 1, none⟩ = some (.int .i64 0) := (blk_cell BK313.out 1).trans rfl; have hcz27_2 : w26.cell? ⟨gb313, 2, none⟩ = some (.int .i64 0) := (blk_cell BK313.out 2).trans rfl; have hfz27_0 := blk_frozen BK313.out 0; have hfz27_1 := blk_frozen BK313.out 1; have hfz27_2 := blk_frozen BK313.out 2) | ((with_reducible refine gate_builtin (b := .append) (xs := #[.tmp 51, .tmp 53]) rfl ?_); at_builtin; refine Kd.R_append k77 (w0 := w) w.heap.size rfl (.tmp 51) (.tmp 53) 74 77 (.agg #[(.int .i64 0), (.int .i64 0), (.int .i64 0)]) 24 rfl Try.underlying74 info77 rfl (by decide) (by omega) u6 x6_1 (⟨(rd_T77 l0 x8_1).f0, (rd_T77 l0 x8_1).f1, (rd_T77 l0 x8_1).f2⟩ : S77) [.int .i64 ((rd_T77 l0 x8_1).f0), .int .i64 ((rd_T77 l0 x8_1).f1), .int .i64 ((rd_T77 l0 x8_1).f2)] (fun k_ => k_ ≠ gb313) (fun _ => False) rfl (by first | (go_simp; done) | (go_simp; rfl)) ?aP (fun _ hk => hk.elim) ?aF ?aO ?aB ?aS ?aL ?_; (case aP => exact k77_mkM _ _ _ (⟨(rd_T77 l0 x8_1).f0, (rd_T77 l0 x8_1).f1, (rd_T77 l0 x8_1).f2⟩ : S77)); (case aB => exact (by repeat (first | (with_reducible first | exact HB.out | apply below_alloc | apply pw_below_drewN | apply below_drew1 | refine below_set ?_ GE313.out) | exact HB.out))); (case aF => exact (fun k_ hk => Kd.freshB (g := gb313) (o := .cells #[.int .i64 ((rd_T77 l0 x8_1).f0), .int .i64 ((rd_T77 l0 x8_1).f1), .int .i64 ((rd_T77 l0 x8_1).f2)] 77 (0, 0)) (by (with_reducible repeat (first | refine blk_drewN ?_ _ | refine blk_drew ?_ | refine blk_alloc ?_ _)); refine blk_put (cs := #[.int .i64 ((rd_T77 l0 x8_1).f0), .int .i64 ((rd_T77 l0 x8_1).f1), .int .i64 0]) ?_ 2 _ rfl; (with_reducible repeat (first | refine blk_drewN ?_ _ | refine blk_drew ?_ | refine blk_alloc ?_ _)); refine blk_put (cs := #[.int .i64 ((rd_T77 l0 x8_1).f0), .int .i64 0, .int .i64 0]) ?_ 1 _ rfl; (with_reducible repeat (first | refine blk_drewN ?_ _ | refine blk_drew ?_ | refine blk_alloc ?_ _)); refine blk_put (cs := #[.int .i64 0, .int .i64 0, .int .i64 0]) ?_ 0 _ rfl; (with_reducible repeat (first | refine blk_drewN ?_ _ | refine blk_drew ?_ | refine blk_alloc ?_ _)); exact BK313.out) k_ hk)); (case aO => exact (by (with_reducible repeat (first | apply Kd.R_alloc | apply Kd.R_drewN | apply Kd.R_drew)); exact Kd.R_mono (Kd.R_far (p := ⟨gb313, 2, none⟩) (Kd.R_far (p := ⟨gb313, 1, none⟩) (Kd.R_far (p := ⟨gb313, 0, none⟩) (Kd.R_mono HO_6.out (fun k_ hk => (⟨hk, hk.2⟩ : _ ∧ k_ ≠ gb313))) (fun _ hk => hk.2) (.int .i64 ((rd_T77 l0 x8_1).f0))) (fun _ hk => hk.2) (.int .i64 ((rd_T77 l0 x8_1).f1))) (fun _ hk => hk.2) (.int .i64 ((rd_T77 l0 x8_1).f2))) (fun _ hk => hk.1.2))); (case aS => exact (below_size (by repeat (first | (with_reducible first | exact HB.out | apply below_alloc | apply pw_below_drewN | apply below_drew1 | refine below_set ?_ GE313.out) | exact HB.out)))); (case aL => have := LMc25.out; omega); intro v324 w28 ho hb hg hat; rw [← Ny323.out] at ho; have n0_ := AM_ (blk_grown (g := gb313) (o := .cells #[.int .i64 ((rd_T77 l0 x8_1).f0), .int .i64 ((rd_T77 l0 x8_1).f1), .int .i64 ((rd_T77 l0 x8_1).f2)] 77 (0, 0)) (by (with_reducible repeat (first | refine blk_drewN ?_ _ | refine blk_drew ?_ | refine blk_alloc ?_ _)); refine blk_put (cs := #[.int .i64 ((rd_T77 l0 x8_1).f0), .int .i64 ((rd_T77 l0 x8_1).f1), .int .i64 0]) ?_ 2 _ rfl; (with_reducible repeat (first | refine blk_drewN ?_ _ | refine blk_drew ?_ | refine blk_alloc ?_ _)); refine blk_put (cs := #[.int .i64 ((rd_T77 l0 x8_1).f0), .int .i64 0, .int .i64 0]) ?_ 1 _ rfl; (with_reducible repeat (first | refine blk_drewN ?_ _ | refine blk_drew ?_ | refine blk_alloc ?_ _)); refine blk_put (cs := #[.int .i64 0, .int .i64 0, .int .i64 0]) ?_ 0 _ rfl; (with_reducible repeat (first | refine blk_drewN ?_ _ | refine blk_drew ?_ | refine blk_alloc ?_ _)); exact BK313.out) hg (Kd.R_away HO_6.out (fun _ hk => hk.2))); have n1_ := AM_ (hb); have n2_ := AM_ (ho); clear BK313; clear HB; clear HO_6; have BK313 := n0_; have HB := n1_; have HO325 := n2_; clear n0_ n1_ n2_; clear ho hb hg hat))
      go_roundg kj4
      case measure => have := HK1.out; have := HJ4.out; omega
      case rel => exact ⟨(y323), (x7_1), (wrap64 (x8_1 + 1)), (by first | rfl | (simp; done) | (simp [*]; done)), (by first | rfl | (simp; done) | (simp [*]; done)), H', ⟨by have := HK1.out; have := HJ4.out; omega⟩, ⟨by (with_reducible repeat (first | apply Kd.R_alloc | apply Kd.R_drewN | apply Kd.R_drew)); exact Kd.R_mono HO325.out (fun _ hk => trivial)⟩, ⟨by repeat (first | (with_reducible first | exact HB.out | apply below_alloc | apply pw_below_drewN | apply below_drew1 | refine below_set ?_ GE313.out) | exact HB.out)⟩⟩
     rw [if_pos c12] at H
     have c12b0 : decide (((rd_T77 l0 x8_1).f0) < a1) = true := decide_eq_true c12
     clear c12
     by_cases c13 : a1 ≤ ((rd_T77 l0 x8_1).f1)
     rotate_left
     ·rw [if_neg c13] at H
      have c13b0 : decide (a1 ≤ ((rd_T77 l0 x8_1).f1)) = false := decide_eq_false c13
      clear c13
      by_cases c21 : x6_1.length < 5864062014805
      rotate_left
      ·rw [if_neg c21] at H
       exact absurd H (by simp)
      rw [if_pos c21] at H
      have LMc21 := AM_ c21
      clear c21
      obtain ⟨y320, hy320⟩ : ∃ y_ : List (S77), y_ = (x6_1 ++ [(⟨(rd_T77 l0 x8_1).f0, (rd_T77 l0 x8_1).f1, (rd_T77 l0 x8_1).f2⟩ : S77)]) := ⟨_, rfl⟩
      replace H : (spec_SplitNode.l0 kj4 l0 a1 y320 x7_1 (wrap64 (x8_1 + 1))) = some (r1, r2) := by first | (rw [hy320]; with_reducible exact H) | (have H2_ := (Option.bind_some _ _).symm.trans H; rw [hy320]; with_reducible exact H2_) | (have H2_ := (Option.bind_some _ _).symm.trans H; with_reducible exact H2_) | with_reducible exact H | (rw [hy320]; exact H) | exact H
      have Ny320 := AM_ hy320
      clear hy320
      have H' := AM_ H
      clear H
      have p312 : 0 ≤ (x8_1 : Int) := of_decide_eq_true (by first | (with_reducible assumption) | assumption)
      have q312 : x8_1 < (l0.length : Int) := of_decide_eq_true (by first | (with_reducible assumption) | assumption)
      obtain ⟨ad312, e312, hx312_0, hx312_1, hx312_2⟩ := at_T77 HR0.out x8_1 p312 q312
      cases e312
      replace hx312_0 := BC HB.out hx312_0
      replace hx312_1 := BC HB.out hx312_1
      replace hx312_2 := BC HB.out hx312_2
      replace p312 := eq_true p312
      replace q312 := eq_true q312
      go_wp2_with (first | ((with_reducible refine gate_dst (N := 9) rfl ?_); refine box_event ?hg (N := 9) ?hd (cs := #[.int .i64 0, .int .i64 0, .int .i64 0]) (t := 77) ?hr ?_; (case hd => rfl); (case hg => rfl); (case hr => first | (go_simp; done) | (go_simp; rfl)); intro gb313 hg w22 hbox hb; have n0_ := AM_ (Kd.R_below (Kd.R_elderB (by exact RL HO_6.out rfl) gb313 (Nat.le_of_eq hg.symm)) hb); have n1_ := AM_ (below_step (by exact BL HB.out rfl rfl rfl rfl) hb); have n2_ := AM_ (hbox); have n3_ := AM_ ((by rw [hg]; exact (below_size (by exact BL HB.out rfl rfl rfl rfl)) : w.heap.size ≤ gb313)); have n4_ := AM_ ((by rw [hg]; exact (below_size (by exact BL HB.out rfl rfl rfl rfl)) : w.heap.size ≤ gb313)); clear HO_6; clear HB; have HO_6 := n0_; have HB := n1_; have BK313 := n2_; have GW313 := n3_; have GE313 := n4_; clear n0_ n1_ n2_ n3_ n4_; clear hb hbox hg; have hcz23_0 : w22.cell? ⟨gb313, 0, none⟩ = some (.int .i64 0) := (blk_cell BK313.out 0).trans rfl; have hcz23_1 : w22.cell? ⟨gb313, 1, none⟩ = some (.int .i64 0) := (blk_cell BK313.out 1).trans rfl; have hcz23_2 : w22.cell? ⟨gb313, 2, none⟩ = some (.int .i64 0) := (blk_cell BK313.out 2).trans rfl; have hfz23_0 := blk_frozen BK313.out 0; have hfz23_1 := blk_frozen BK313.out 1; have hfz23_2 := blk_frozen BK313.out 2) | ((with_reducible refine gate_builtin (b := .append) (xs := #[.tmp 51, .tmp 53]) rfl ?_); at_builtin; refine Kd.R_append k77 (w0 := w) w.heap.size rfl (.tmp 51) (.tmp 53) 74 77 (.agg #[(.int .i64 0), (.int .i64 0), (.int .i64 0)]) 24 rfl Try.underlying74 info77 rfl (by decide) (by omega) u6 x6_1 (⟨(rd_T77 l0 x8_1).f0, (rd_T77 l0 x8_1).f1, (rd_T77 l0 x8_1).f2⟩ : S77) [.int .i64 ((rd_T77 l0 x8_1).f0), .int .i64 ((rd_T77 l0 x8_1).f1), .int .i64 ((rd_T77 l0 x8_1).f2)] (fun k_ => k_ ≠ gb313) (fun _ => False) rfl (by first | (go_simp; done) | (go_simp; rfl)) ?aP (fun _ hk => hk.elim) ?aF ?aO ?aB ?aS ?aL ?_; (case aP => exact k77_mkM _ _ _ (⟨(rd_T77 l0 x8_1).f0, (rd_T77 l0 x8_1).f1, (rd_T77 l0 x8_1).f2⟩ : S77)); (case aB => exact (by repeat (first | (with_reducible first | exact HB.out | apply below_alloc | apply pw_below_drewN | apply below_drew1 | refine below_set ?_ GE313.out) | exact HB.out))); (case aF => exact (fun k_ hk => Kd.freshB (g := gb313) (o := .cells #[.int .i64 ((rd_T77 l0 x8_1).f0), .int .i64 ((rd_T77 l0 x8_1).f1), .int .i64 ((rd_T77 l0 x8_1).f2)] 77 (0, 0)) (by (with_reducible repeat (first | refine blk_drewN ?_ _ | refine blk_drew ?_ | refine blk_alloc ?_ _)); refine blk_put (cs := #[.int .i64 ((rd_T77 l0 x8_1).f0), .int .i64 ((rd_T77 l0 x8_1).f1), .int .i64 0]) ?_ 2 _ rfl; (with_reducible repeat (first | refine blk_drewN ?_ _ | refine blk_drew ?_ | refine blk_alloc ?_ _)); refine blk_put (cs := #[.int .i64 ((rd_T77 l0 x8_1).f0), .int .i64 0, .int .i64 0]) ?_ 1 _ rfl; (with_reducible repeat (first | refine blk_drewN ?_ _ | refine blk_drew ?_ | refine blk_alloc ?_ _)); refine blk_put (cs := #[.int .i64 0, .int .i64 0, .int .i64 0]) ?_ 0 _ rfl; (with_reducible repeat (first | refine blk_drewN ?_ _ | refine blk_drew ?_ | refine blk_alloc ?_ _)); exact BK313.out) k_ hk)); (case aO => exact (by (with_reducible repeat (first | apply Kd.R_alloc | apply Kd.R_drewN | apply Kd.R_drew)); exact Kd.R_mono (Kd.R_far (p := ⟨gb313, 2, none⟩) (Kd.R_far (p := ⟨gb313, 1, none⟩) (Kd.R_far (p := ⟨gb313, 0, none⟩) (Kd.R_mono HO_6.out (fun k_ hk => (⟨hk, hk.2⟩ : _ ∧ k_ ≠ gb313))) (fun _ hk => hk.2) (.int .i64 ((rd_T77 l0 x8_1).f0))) (fun _ hk => hk.2) (.int .i64 ((rd_T77 l0 x8_1).f1))) (fun _ hk => hk.2) (.int .i64 ((rd_T77 l0 x8_1).f2))) (fun _ hk => hk.1.2))); (case aS => exact (below_size (by repeat (first | (with_reducible first | exact HB.out | apply below_alloc | apply pw_below_drewN | apply below_drew1 | refine below_set ?_ GE313.out) | exact HB.out)))); (case aL => have := LMc21.out; omega); intro v321 w24 ho hb hg hat; rw [← Ny320.out] at ho; have n0_ := AM_ (blk_grown (g := gb313) (o := .cells #[.int .i64 ((rd_T77 l0 x8_1).f0), .int .i64 ((rd_T77 l0 x8_1).f1), .int .i64 ((rd_T77 l0 x8_1).f2)] 77 (0, 0)) (by (with_reducible repeat (first | refine blk_drewN ?_ _ | refine blk_drew ?_ | refine blk_alloc ?_ _)); refine blk_put (cs := #[.int .i64 ((rd_T77 l0 x8_1).f0), .int .i64 ((rd_T77 l0 x8_1).f1), .int .i64 0]) ?_ 2 _ rfl; (with_reducible repeat (first | refine blk_drewN ?_ _ | refine blk_drew ?_ | refine blk_alloc ?_ _)); refine blk_put (cs := #[.int .i64 ((rd_T77 l0 x8_1).f0), .int .i64 0, .int .i64 0]) ?_ 1 _ rfl; (with_reducible repeat (first | refine blk_drewN ?_ _ | refine blk_drew ?_ | refine blk_alloc ?_ _)); refine blk_put (cs := #[.int .i64 0, .int .i64 0, .int .i64 0]) ?_ 0 _ rfl; (with_reducible repeat (first | refine blk_drewN ?_ _ | refine blk_drew ?_ | refine blk_alloc ?_ _)); exact BK313.out) hg (Kd.R_away HO_6.out (fun _ hk => hk.2))); have n1_ := AM_ (hb); have n2_ := AM_ (ho); clear BK313; clear HB; clear HO_6; have BK313 := n0_; have HB := n1_; have HO322 := n2_; clear n0_ n1_ n2_; clear ho hb hg hat))
      go_roundg kj4
      case measure => have := HK1.out; have := HJ4.out; omega
      case rel => exact ⟨(y320), (x7_1), (wrap64 (x8_1 + 1)), (by first | rfl | (simp; done) | (simp [*]; done)), (by first | rfl | (simp; done) | (simp [*]; done)), H', ⟨by have := HK1.out; have := HJ4.out; omega⟩, ⟨by (with_reducible repeat (first | apply Kd.R_alloc | apply Kd.R_drewN | apply Kd.R_drew)); exact Kd.R_mono HO322.out (fun _ hk => trivial)⟩, ⟨by repeat (first | (with_reducible first | exact HB.out | apply below_alloc | apply pw_below_drewN | apply below_drew1 | refine below_set ?_ GE313.out) | exact HB.out)⟩⟩
     rw [if_pos c13] at H
     have c13b0 : decide (a1 ≤ ((rd_T77 l0 x8_1).f1)) = true := decide_eq_true c13
     clear c13
     obtain ⟨y314, hy314⟩ : ∃ y_ : List (S77), y_ = (([(⟨(rd_T77 l0 x8_1).f0, wrap64 (a1 - 1), (rd_T77 l0 x8_1).f2⟩ : S77), (⟨a1, (rd_T77 l0 x8_1).f1, (rd_T77 l0 x8_1).f2⟩ : S77)] : List (S77))) := ⟨_, rfl⟩
     replace H : (if x6_1.length + y314.length < 5864062014805 then (spec_SplitNode.l0 kj4 l0 a1 (x6_1 ++ y314) true (wrap64 (x8_1 + 1))) else (none)) = some (r1, r2) := by first | (rw [hy314]; with_reducible exact H) | (have H2_ := (Option.bind_some _ _).symm.trans H; rw [hy314]; with_reducible exact H2_) | (have H2_ := (Option.bind_some _ _).symm.trans H; with_reducible exact H2_) | with_reducible exact H | (rw [hy314]; exact H) | exact H
     have Ny314 := AM_ hy314
     clear hy314
     by_cases c14 : x6_1.length + y314.length < 5864062014805
     rotate_left
     ·rw [if_neg c14] at H
      exact absurd H (by simp)
     rw [if_pos c14] at H
     have LMc14 := AM_ c14
     clear c14
     obtain ⟨y317, hy317⟩ : ∃ y_ : List (S77), y_ = (x6_1 ++ y314) := ⟨_, rfl⟩
     replace H : (spec_SplitNode.l0 kj4 l0 a1 y317 true (wrap64 (x8_1 + 1))) = some (r1, r2) := by first | (rw [hy317]; with_reducible exact H) | (have H2_ := (Option.bind_some _ _).symm.trans H; rw [hy317]; with_reducible exact H2_) | (have H2_ := (Option.bind_some _ _).symm.trans H; with_reducible exact H2_) | with_reducible exact H | (rw [hy317]; exact H) | exact H
     have Ny317 := AM_ hy317
     clear hy317
     have H' := AM_ H
     clear H
     have p312 : 0 ≤ (x8_1 : Int) := of_decide_eq_true (by first | (with_reducible assumption) | assumption)
     have q312 : x8_1 < (l0.length : Int) := of_decide_eq_true (by first | (with_reducible assumption) | assumption)
     obtain ⟨ad312, e312, hx312_0, hx312_1, hx312_2⟩ := at_T77 HR0.out x8_1 p312 q312
     cases e312
     replace hx312_0 := BC HB.out hx312_0
     replace hx312_1 := BC HB.out hx312_1
     replace hx312_2 := BC HB.out hx312_2
     replace p312 := eq_true p312
     replace q312 := eq_true q312
     go_wp2_with (first | ((with_reducible refine gate_dst (N := 9) rfl ?_); refine box_event ?hg (N := 9) ?hd (cs := #[.int .i64 0, .int .i64 0, .int .i64 0]) (t := 77) ?hr ?_; (case hd => rfl); (case hg => rfl); (case hr => first | (go_simp; done) | (go_simp; rfl)); intro gb313 hg w15 hbox hb; have n0_ := AM_ (Kd.R_below (Kd.R_elderB (by exact RL HO_6.out rfl) gb313 (Nat.le_of_eq hg.symm)) hb); have n1_ := AM_ (below_step (by exact BL HB.out rfl rfl rfl rfl) hb); have n2_ := AM_ (hbox); have n3_ := AM_ ((by rw [hg]; exact (below_size (by exact BL HB.out rfl rfl rfl rfl)) : w.heap.size ≤ gb313)); have n4_ := AM_ ((by rw [hg]; exact (below_size (by exact BL HB.out rfl rfl rfl rfl)) : w.heap.size ≤ gb313)); clear HO_6; clear HB; have HO_6 := n0_; have HB := n1_; have BK313 := n2_; have GW313 := n3_; have GE313 := n4_; clear n0_ n1_ n2_ n3_ n4_; clear hb hbox hg; have hcz16_0 : w15.cell? ⟨gb313, 0, none⟩ = some (.int .i64 0) := (blk_cell BK313.out 0).trans rfl; have hcz16_1 : w15.cell? ⟨gb313, 1, none⟩ = some (.int .i64 0) := (blk_cell BK313.out 1).trans rfl; have hcz16_2 : w15.cell? ⟨gb313, 2, none⟩ = some (.int .i64 0) := (blk_cell BK313.out 2).trans rfl; have hfz16_0 := blk_frozen BK313.out 0; have hfz16_1 := blk_frozen BK313.out 1; have hfz16_2 := blk_frozen BK313.out 2) | ((with_reducible refine gate_dst (N := 49) rfl ?_); refine Kd.R_lit k77 _ 77 ?hg (N := 49) ?hd (xs := ([(⟨(rd_T77 l0 x8_1).f0, wrap64 (a1 - 1), (rd_T77 l0 x8_1).f2⟩ : S77), (⟨a1, (rd_T77 l0 x8_1).f1, (rd_T77 l0 x8_1).f2⟩ : S77)] : List (S77))) (inner := [.int .i64 ((rd_T77 l0 x8_1).f0), .int .i64 (wrap64 (a1 - 1)), .int .i64 ((rd_T77 l0 x8_1).f2), .int .i64 a1, .int .i64 ((rd_T77 l0 x8_1).f1), .int .i64 ((rd_T77 l0 x8_1).f2)]) (ok := fun _ => True) (okp := fun _ => True) ?hr ?hp (fun _ hk => hk) trivial (Below.refl _ _) (Nat.le_refl _) (by simp) ?_; (case hd => rfl); (case hg => rfl); (case hr => first | (go_simp; done) | (go_simp; rfl)); (case hp => exact (Reps.c3 (show Kd.M k77 _ _ _ (⟨(rd_T77 l0 x8_1).f0, wrap64 (a1 - 1), (rd_T77 l0 x8_1).f2⟩ : S77) [.int .i64 ((rd_T77 l0 x8_1).f0), .int .i64 (wrap64 (a1 - 1)), .int .i64 ((rd_T77 l0 x8_1).f2)] from (k77_mkM _ _ _ (⟨(rd_T77 l0 x8_1).f0, wrap64 (a1 - 1), (rd_T77 l0 x8_1).f2⟩ : S77) )) (Reps.c3 (show Kd.M k77 _ _ _ (⟨a1, (rd_T77 l0 x8_1).f1, (rd_T77 l0 x8_1).f2⟩ : S77) [.int .i64 a1, .int .i64 ((rd_T77 l0 x8_1).f1), .int .i64 ((rd_T77 l0 x8_1).f2)] from (k77_mkM _ _ _ (⟨a1, (rd_T77 l0 x8_1).f1, (rd_T77 l0 x8_1).f2⟩ : S77) )) (Reps.none _ _)))); intro v315 w17 ho18 hb hg_ hnew_; clear hg_ hnew_; (first | rw [← Ny314.out] at ho18 | (simp only [Int.reduceToNat] at ho18; rw [← Ny314.out] at ho18)); have n0_ := AM_ (Kd.R_elder' (by (with_reducible repeat (first | apply Kd.R_alloc | apply Kd.R_drewN | apply Kd.R_drew)); exact (Kd.R_mono (Kd.R_far (p := ⟨gb313, 2, none⟩) (Kd.R_far (p := ⟨gb313, 1, none⟩) (Kd.R_far (p := ⟨gb313, 0, none⟩) (Kd.R_mono HO_6.out (fun k_ hk => (⟨hk, hk.2⟩ : _ ∧ k_ ≠ gb313))) (fun _ hk => hk.2) (.int .i64 ((rd_T77 l0 x8_1).f0))) (fun _ hk => hk.2) (.int .i64 ((rd_T77 l0 x8_1).f1))) (fun _ hk => hk.2) (.int .i64 ((rd_T77 l0 x8_1).f2))) (fun _ h_ => h_.1))) (Kd.R_base ho18) hb); have n1_ := AM_ (Kd.R_lower (Kd.R_newB (Kd.R_new' ho18 (Kd.R_lt (by (with_reducible repeat (first | apply Kd.R_alloc | apply Kd.R_drewN | apply Kd.R_drew)); exact (Kd.R_mono (Kd.R_far (p := ⟨gb313, 2, none⟩) (Kd.R_far (p := ⟨gb313, 1, none⟩) (Kd.R_far (p := ⟨gb313, 0, none⟩) (Kd.R_mono HO_6.out (fun k_ hk => (⟨hk, hk.2⟩ : _ ∧ k_ ≠ gb313))) (fun _ hk => hk.2) (.int .i64 ((rd_T77 l0 x8_1).f0))) (fun _ hk => hk.2) (.int .i64 ((rd_T77 l0 x8_1).f1))) (fun _ hk => hk.2) (.int .i64 ((rd_T77 l0 x8_1).f2))) (fun _ h_ => h_.1))))) (g := gb313) (o := .cells #[.int .i64 ((rd_T77 l0 x8_1).f0), .int .i64 ((rd_T77 l0 x8_1).f1), .int .i64 ((rd_T77 l0 x8_1).f2)] 77 (0, 0)) (by (with_reducible repeat (first | refine blk_drewN ?_ _ | refine blk_drew ?_ | refine blk_alloc ?_ _)); refine blk_put (cs := #[.int .i64 ((rd_T77 l0 x8_1).f0), .int .i64 ((rd_T77 l0 x8_1).f1), .int .i64 0]) ?_ 2 _ rfl; (with_reducible repeat (first | refine blk_drewN ?_ _ | refine blk_drew ?_ | refine blk_alloc ?_ _)); refine blk_put (cs := #[.int .i64 ((rd_T77 l0 x8_1).f0), .int .i64 0, .int .i64 0]) ?_ 1 _ rfl; (with_reducible repeat (first | refine blk_drewN ?_ _ | refine blk_drew ?_ | refine blk_alloc ?_ _)); refine blk_put (cs := #[.int .i64 0, .int .i64 0, .int .i64 0]) ?_ 0 _ rfl; (with_reducible repeat (first | refine blk_drewN ?_ _ | refine blk_drew ?_ | refine blk_alloc ?_ _)); exact BK313.out)) (below_size (by repeat (first | (with_reducible first | exact HB.out | apply below_alloc | apply pw_below_drewN | apply below_drew1 | refine below_set ?_ GE313.out) | exact HB.out)))); have n2_ := AM_ (blk_below (g := gb313) (o := .cells #[.int .i64 ((rd_T77 l0 x8_1).f0), .int .i64 ((rd_T77 l0 x8_1).f1), .int .i64 ((rd_T77 l0 x8_1).f2)] 77 (0, 0)) (by (with_reducible repeat (first | refine blk_drewN ?_ _ | refine blk_drew ?_ | refine blk_alloc ?_ _)); refine blk_put (cs := #[.int .i64 ((rd_T77 l0 x8_1).f0), .int .i64 ((rd_T77 l0 x8_1).f1), .int .i64 0]) ?_ 2 _ rfl; (with_reducible repeat (first | refine blk_drewN ?_ _ | refine blk_drew ?_ | refine blk_alloc ?_ _)); refine blk_put (cs := #[.int .i64 ((rd_T77 l0 x8_1).f0), .int .i64 0, .int .i64 0]) ?_ 1 _ rfl; (with_reducible repeat (first | refine blk_drewN ?_ _ | refine blk_drew ?_ | refine blk_alloc ?_ _)); refine blk_put (cs := #[.int .i64 0, .int .i64 0, .int .i64 0]) ?_ 0 _ rfl; (with_reducible repeat (first | refine blk_drewN ?_ _ | refine blk_drew ?_ | refine blk_alloc ?_ _)); exact BK313.out) hb); have n3_ := AM_ (below_step (by repeat (first | (with_reducible first | exact HB.out | apply below_alloc | apply pw_below_drewN | apply below_drew1 | refine below_set ?_ GE313.out) | exact HB.out)) hb); clear HO_6; clear BK313; clear HB; have HO_6 := n0_; have HO316 := n1_; have BK313 := n2_; have HB := n3_; clear n0_ n1_ n2_ n3_; clear hb ho18; obtain ⟨Ao20, co20, eo20⟩ := Kd.R_slice HO316.out; subst eo20) | ((with_reducible refine gate_builtin (b := .append) (xs := #[.tmp 35, .tmp 49]) rfl ?_); at_builtin; refine Kd.R_append_rows k77 (w0 := w) w.heap.size rfl (.tmp 35) (.tmp 49) 74 77 (.agg #[(.int .i64 0), (.int .i64 0), (.int .i64 0)]) 24 rfl Try.underlying74 info77 rfl (by decide) (by omega) u6 x6_1 y314 _ _ _ (fun k_ => some k_ ≠ (.slice Ao20 y314.length co20 : Value).ownBlock ∧ k_ ≠ gb313) (fun _ => False) rfl rfl ?aO ?aR (fun _ _ h => h) (fun _ h => h.elim) ?aF ?aB ?aS ?aL ?_; (case aR => exact Kd.C_below (Kd.R_reads' HO316.out).2.2 (BL (Below.refl _ _) rfl rfl rfl rfl)); (case aB => exact (by repeat (first | (with_reducible first | exact HB.out | apply below_alloc | apply pw_below_drewN | apply below_drew1 | refine below_set ?_ GE313.out) | exact HB.out))); (case aF => exact (fun k_ hk => ⟨Kd.fresh' (Kd.R_lt (by exact RL HO316.out rfl)) k_ hk, Kd.freshB (g := gb313) (o := .cells #[.int .i64 ((rd_T77 l0 x8_1).f0), .int .i64 ((rd_T77 l0 x8_1).f1), .int .i64 ((rd_T77 l0 x8_1).f2)] 77 (0, 0)) (by (with_reducible repeat (first | refine blk_drewN ?_ _ | refine blk_drew ?_ | refine blk_alloc ?_ _)); exact BK313.out) k_ hk⟩)); (case aO => exact (by (with_reducible repeat (first | apply Kd.R_alloc | apply Kd.R_drewN | apply Kd.R_drew)); exact Kd.R_mono HO_6.out (fun _ hk => ⟨hk.2, hk.1.2⟩))); (case aS => exact (below_size (by repeat (first | (with_reducible first | exact HB.out | apply below_alloc | apply pw_below_drewN | apply below_drew1 | refine below_set ?_ GE313.out) | exact HB.out)))); (case aL => have := LMc14.out; omega); intro v318 w19 ho hb hg hat; rw [← Ny317.out] at ho; have n0_ := AM_ (blk_grown (g := gb313) (o := .cells #[.int .i64 ((rd_T77 l0 x8_1).f0), .int .i64 ((rd_T77 l0 x8_1).f1), .int .i64 ((rd_T77 l0 x8_1).f2)] 77 (0, 0)) (by (with_reducible repeat (first | refine blk_drewN ?_ _ | refine blk_drew ?_ | refine blk_alloc ?_ _)); exact BK313.out) hg (Kd.R_away HO_6.out (fun _ hk => hk.1.2))); have n1_ := AM_ (Kd.R_after (ok := (fun k_ => k_ ≠ gb313)) (by (with_reducible repeat (first | apply Kd.R_alloc | apply Kd.R_drewN | apply Kd.R_drew)); exact Kd.R_mono HO316.out (fun _ hk => ⟨hk.2, hk.1.2⟩)) hg hat); have n2_ := AM_ (hb); have n3_ := AM_ (ho); clear BK313; clear HO316; clear HB; clear HO_6; have BK313 := n0_; have HO316 := n1_; have HB := n2_; have HO319 := n3_; clear n0_ n1_ n2_ n3_; clear ho hb hg hat))
     go_roundg kj4
     case measure => have := HK1.out; have := HJ4.out; omega
     case rel => exact ⟨(y317), (true), (wrap64 (x8_1 + 1)), (by first | rfl | (simp; done) | (simp [*]; done)), (by first | rfl | (simp; done) | (simp [*]; done)), H', ⟨by have := HK1.out; have := HJ4.out; omega⟩, ⟨by (with_reducible repeat (first | apply Kd.R_alloc | apply Kd.R_drewN | apply Kd.R_drew)); exact Kd.R_mono HO319.out (fun _ hk => trivial)⟩, ⟨by repeat (first | (with_reducible first | exact HB.out | apply below_alloc | apply pw_below_drewN | apply below_drew1 | refine below_set ?_ GE313.out) | exact HB.out)⟩⟩

/-! ### spec_NewIndex: function 122 -/
def spec_NewIndex.f  : Option ((List (S77))) := some (([(⟨0, 5, 0⟩ : S77)] : List (S77)))
set_option maxHeartbeats 8000000 in
set_option maxRecDepth 100000 in
theorem spec_NewIndex.calls  (r : List (S77)) (w : World) (h : spec_NewIndex.f  = some r) :
  Calls Try.prog 122 #[] w fun e w' => ∃ v0_ : Value, e = .returned (v0_) ∧ Kd.R k77 77 w' w.heap.size (fun _ => True) v0_ r ∧ Below w.heap.size w w' := by
 have hu77 := Try.underlying77
 have HB := AM_ (Below.refl w.heap.size w)
 have H : (some (([(⟨0, 5, 0⟩ : S77)] : List (S77)))) = some r := h
 clear h
 obtain ⟨y329, hy329⟩ : ∃ y_ : List (S77), y_ = (([(⟨0, 5, 0⟩ : S77)] : List (S77))) := ⟨_, rfl⟩
 replace H : (some y329) = some r := by first | (rw [hy329]; with_reducible exact H) | (have H2_ := (Option.bind_some _ _).symm.trans H; rw [hy329]; with_reducible exact H2_) | (have H2_ := (Option.bind_some _ _).symm.trans H; with_reducible exact H2_) | with_reducible exact H | (rw [hy329]; exact H) | exact H
 have Ny329 := AM_ hy329
 clear hy329
 obtain rfl := Option.some.inj H
 go_enter Try.func122, Try.ntmps122
 go_wp2_with (first | ((with_reducible refine gate_dst (N := 2) rfl ?_); refine Kd.R_lit k77 _ 77 ?hg (N := 2) ?hd (xs := ([(⟨0, 5, 0⟩ : S77)] : List (S77))) (inner := [.int .i64 0, .int .i64 5, .int .i64 0]) (ok := fun _ => True) (okp := fun _ => True) ?hr ?hp (fun _ hk => hk) trivial (Below.refl _ _) (Nat.le_refl _) (by simp) ?_; (case hd => rfl); (case hg => rfl); (case hr => first | (go_simp; done) | (go_simp; rfl)); (case hp => exact (Reps.c3 (show Kd.M k77 _ _ _ (⟨0, 5, 0⟩ : S77) [.int .i64 0, .int .i64 5, .int .i64 0] from (k77_mkM _ _ _ (⟨0, 5, 0⟩ : S77) )) (Reps.none _ _))); intro v330 w1 ho2 hb hg_ hnew_; clear hg_ hnew_; (first | rw [← Ny329.out] at ho2 | (simp only [Int.reduceToNat] at ho2; rw [← Ny329.out] at ho2)); have n0_ := AM_ (Kd.R_lower ho2 (below_size (by exact BL HB.out rfl rfl rfl rfl))); have n1_ := AM_ (below_step (by exact BL HB.out rfl rfl rfl rfl) hb); clear HB; have HO331 := n0_; have HB := n1_; clear n0_ n1_; clear hb ho2))
 go_ret
 exact ⟨_, by first | rfl | (simp [errW_none, errW_some] <;> rfl) | (simp [*, errW_none, errW_some] <;> rfl), by exact RL HO331.out rfl, by exact BL HB.out rfl rfl rfl rfl⟩

/-! ### spec_MarkIndex: function 123 -/
mutual
def spec_MarkIndex.l0 : Nat → List (S77) → Int → Int → List (S77) → Int → Option ((List (S77)))
 | 0, _, _, _, _, _ => none
 | k + 1, x0, x1, x2, x7, x8 => if x8 < (x7.length : Int) then ((spec_IsIndex.f k x0).bind fun t335 => (if t335 = true then ((spec_l1In.f x2 0 999).bind fun t336 => (spec_MarkIndex.j1 k x0 x1 x2 x7 x8 t336)) else (spec_MarkIndex.j1 k x0 x1 x2 x7 x8 false))) else (spec_MarkIndex.j1 k x0 x1 x2 x7 x8 false)
def spec_MarkIndex.j1 : Nat → List (S77) → Int → Int → List (S77) → Int → Bool → Option ((List (S77)))
 | 0, _, _, _, _, _, _ => none
 | k + 1, x0, x1, x2, x7, x8, x22 => if x22 = true then (if 0 ≤ x8 then (if x8 < (x7.length : Int) then ((spec_l1In.f x1 ((rd_T77 x7 x8).f0) ((rd_T77 x7 x8).f1)).bind fun t339 => (if t339 = true then (spec_MarkIndex.l0 k x0 x1 x2 (x7.set (x8 : Int).toNat (⟨(rd_T77 x7 x8).f0, (rd_T77 x7 x8).f1, mx ((rd_T77 x7 x8).f2) x2⟩ : S77)) (wrap64 (x8 + 1))) else (spec_MarkIndex.l0 k x0 x1 x2 x7 (wrap64 (x8 + 1))))) else (none)) else (none)) else (some x7)
end
def spec_MarkIndex.f (k : Nat) (l0 : List (S77)) (a1 : Int) (a2 : Int) : Option ((List (S77))) := (spec_l16Copy.f l0).bind fun t332 => (spec_MarkIndex.l0 k l0 a1 a2 t332 0)
theorem spec_MarkIndex.mono_l : ∀ k, (∀ y0 y1 y2 y3 y4, LeO (spec_MarkIndex.l0 k y0 y1 y2 y3 y4) (spec_MarkIndex.l0 (k + 1) y0 y1 y2 y3 y4)) ∧ (∀ y0 y1 y2 y3 y4 y5, LeO (spec_MarkIndex.j1 k y0 y1 y2 y3 y4 y5) (spec_MarkIndex.j1 (k + 1) y0 y1 y2 y3 y4 y5))
 | 0 => ⟨fun _ _ _ _ _ r h => by simp [spec_MarkIndex.l0] at h, fun _ _ _ _ _ _ r h => by simp [spec_MarkIndex.j1] at h⟩
 | k + 1 => by
  obtain ⟨ih0, ih1⟩ := spec_MarkIndex.mono_l k
  refine ⟨?_, ?_⟩
  ·intro y0 y1 y2 y3 y4
   unfold spec_MarkIndex.l0
   repeat' first
   | (with_reducible exact ih0 _ _ _ _ _)
   | (with_reducible exact ih1 _ _ _ _ _ _)
   | (with_reducible exact spec_IsIndex.mono _ _)
   | (with_reducible exact LeO.refl _)
   | (with_reducible exact LeO.none _)
   | (with_reducible refine LeO.ite ?_ ?_)
   | (with_reducible refine LeO.bind ?_ (fun _ => ?_))
   | exact ih0 _ _ _ _ _
   | exact ih1 _ _ _ _ _ _
   | exact spec_IsIndex.mono _ _
   | exact LeO.none _
   | refine LeO.ite ?_ ?_
   | refine LeO.bind ?_ (fun _ => ?_)
  ·intro y0 y1 y2 y3 y4 y5
   unfold spec_MarkIndex.j1
   repeat' first
   | (with_reducible exact ih0 _ _ _ _ _)
   | (with_reducible exact ih1 _ _ _ _ _ _)
   | (with_reducible exact spec_IsIndex.mono _ _)
   | (with_reducible exact LeO.refl _)
   | (with_reducible exact LeO.none _)
   | (with_reducible refine LeO.ite ?_ ?_)
   | (with_reducible refine LeO.bind ?_ (fun _ => ?_))
   | exact ih0 _ _ _ _ _
   | exact ih1 _ _ _ _ _ _
   | exact spec_IsIndex.mono _ _
   | exact LeO.none _
   | refine LeO.ite ?_ ?_
   | refine LeO.bind ?_ (fun _ => ?_)
theorem spec_MarkIndex.mono : ∀ a0 a1 a2 k, LeO (spec_MarkIndex.f k a0 a1 a2) (spec_MarkIndex.f (k + 1) a0 a1 a2) := by
 intro a0 a1 a2 k
 obtain ⟨ih0, ih1⟩ := spec_MarkIndex.mono_l k
 unfold spec_MarkIndex.f
 repeat' first
   | (with_reducible exact ih0 _ _ _ _ _)
   | (with_reducible exact ih1 _ _ _ _ _ _)
   | (with_reducible exact spec_IsIndex.mono _ _)
   | (with_reducible exact LeO.refl _)
   | (with_reducible exact LeO.none _)
   | (with_reducible refine LeO.ite ?_ ?_)
   | (with_reducible refine LeO.bind ?_ (fun _ => ?_))
   | exact ih0 _ _ _ _ _
   | exact ih1 _ _ _ _ _ _
   | exact spec_IsIndex.mono _ _
   | exact LeO.none _
   | refine LeO.ite ?_ ?_
   | refine LeO.bind ?_ (fun _ => ?_)
set_option maxHeartbeats 8000000 in
set_option maxRecDepth 100000 in
theorem spec_MarkIndex.calls (k : Nat) (A0 : Option Addr) (c0 : Nat) (l0 : List (S77)) (a1 : Int) (a2 : Int) (r : List (S77)) (w : World) (hr0 : Kd.C k77 w A0 l0.length l0) (hc0 : l0.length ≤ c0) (h : spec_MarkIndex.f k l0 a1 a2 = some r) :
  Calls Try.prog 123 #[.slice A0 l0.length c0, .int .i64 a1, .int .i64 a2] w fun e w' => ∃ v0_ : Value, e = .returned (v0_) ∧ Kd.R k77 77 w' w.heap.size (fun _ => True) v0_ r ∧ Below w.heap.size w w' := by
 have HR0 := AM_ hr0
 have HC0 := AM_ hc0
 clear hr0 hc0
 have HB := AM_ (Below.refl w.heap.size w)
 have H : ((spec_l16Copy.f l0).bind fun t332 => (spec_MarkIndex.l0 k l0 a1 a2 t332 0)) = some r := h
 clear h
 replace H := Option.bind_eq_some_iff.mp H
 obtain ⟨t332, A40, H⟩ := H
 replace H : (spec_MarkIndex.l0 k l0 a1 a2 t332 0) = some r := H
 have A4 := AM_ A40
 clear A40
 have H' := AM_ H
 clear H
 go_enter Try.func123, Try.ntmps123
 go_wp2_with (first | (go_at_call 159; (with_reducible refine (spec_l16Copy.calls _ _ l0 t332 _ ?side1 ?side2 A4.out).mono ?_); (case side1 => repeat (first | exact HR0.out | (with_reducible refine Kd.C_alloc ?_ _) | (with_reducible refine Kd.C_drewN ?_ _) | (with_reducible refine Kd.C_drew ?_))); (case side2 => exact HC0.out); rintro e w5 ⟨v333, rfl, ho0, hb⟩; have n0_ := AM_ (Kd.R_lower ho0 (below_size (by exact BL HB.out rfl rfl rfl rfl))); have n1_ := AM_ (below_step (by exact BL HB.out rfl rfl rfl rfl) hb); clear HB; have HO334 := n0_; have HB := n1_; clear n0_ n1_; (try clear hb); (try clear hb2); (try clear hk); (try clear hi); (try clear ho0)))
 repeat (go_quiet (first | (go_at_call 159; (with_reducible refine (spec_l16Copy.calls _ _ l0 t332 _ ?side1 ?side2 A4.out).mono ?_); (case side1 => repeat (first | exact HR0.out | (with_reducible refine Kd.C_alloc ?_ _) | (with_reducible refine Kd.C_drewN ?_ _) | (with_reducible refine Kd.C_drew ?_))); (case side2 => exact HC0.out); rintro e w5 ⟨v333, rfl, ho0, hb⟩; have n0_ := AM_ (Kd.R_lower ho0 (below_size (by exact BL HB.out rfl rfl rfl rfl))); have n1_ := AM_ (below_step (by exact BL HB.out rfl rfl rfl rfl) hb); clear HB; have HO334 := n0_; have HB := n1_; clear n0_ n1_; (try clear hb); (try clear hb2); (try clear hk); (try clear hi); (try clear ho0))); try go_wp2_with (first | (go_at_call 159; (with_reducible refine (spec_l16Copy.calls _ _ l0 t332 _ ?side1 ?side2 A4.out).mono ?_); (case side1 => repeat (first | exact HR0.out | (with_reducible refine Kd.C_alloc ?_ _) | (with_reducible refine Kd.C_drewN ?_ _) | (with_reducible refine Kd.C_drew ?_))); (case side2 => exact HC0.out); rintro e w5 ⟨v333, rfl, ho0, hb⟩; have n0_ := AM_ (Kd.R_lower ho0 (below_size (by exact BL HB.out rfl rfl rfl rfl))); have n1_ := AM_ (below_step (by exact BL HB.out rfl rfl rfl rfl) hb); clear HB; have HO334 := n0_; have HB := n1_; clear n0_ n1_; (try clear hb); (try clear hb2); (try clear hk); (try clear hi); (try clear ho0))))
 go_loopg [8] k (fun kq v8 w' => ∃ (x7_1 : List (S77)) (x8_1 : Int), v8 = .int .i64 x8_1 ∧ Aside0 (spec_MarkIndex.l0 kq l0 a1 a2 x7_1 x8_1 = some r) ∧ Aside0 (kq ≤ k) ∧ Aside0 (Kd.R k77 77 w' w.heap.size (fun _ => True) v333 x7_1) ∧ Aside0 (Below w.heap.size w w'))
 case atStart => exact ⟨(t332), (0), (by first | rfl | (simp; done) | (simp [*]; done)), H', ⟨Nat.le_refl _⟩, ⟨by exact RL HO334.out rfl⟩, ⟨by exact BL HB.out rfl rfl rfl rfl⟩⟩
 case round =>
  clear H'
  try clear c1
  try clear p2
  obtain ⟨x7_1, x8_1, rfl, HA, HK1, HO_7, HB⟩ := hrel
  cases gk with
  | zero => exact absurd HA.out (by simp [spec_MarkIndex.l0])
  | succ k1 =>
   have H := HA.out
   clear HA
   simp only [spec_MarkIndex.l0] at H
   have HC6 := AM_ H
   clear H
   go_upto_region 3 with (fail)
   repeat (go_quiet (fail); go_upto_region 3 with (fail))
   go_cut [22] (fun v22 wc => ∃ (kq : Nat) (x22_5 : Bool), v22 = .bool x22_5 ∧ Aside0 (spec_MarkIndex.j1 kq l0 a1 a2 x7_1 x8_1 x22_5 = some r) ∧ Aside0 (kq ≤ k1) ∧ Aside0 (Kd.R k77 77 wc w.heap.size (fun _ => True) v333 x7_1) ∧ Aside0 (Below w.heap.size w wc))
   case first =>
    have H := HC6.out
    clear HC6
    by_cases c7 : x8_1 < (x7_1.length : Int)
    rotate_left
    ·rw [if_neg c7] at H
     have c7b0 : decide (x8_1 < (x7_1.length : Int)) = false := decide_eq_false c7
     clear c7
     (first | rw [c7b0] | (simp only [i64_w, i32_w]; rw [c7b0]) | skip)
     have H' := AM_ H
     clear H
     obtain ⟨Ao15, co15, eo15⟩ := Kd.R_slice HO_7.out
     subst eo15
     go_wp2
     repeat (go_quiet (fail); try go_wp2)
     go_meet
     case rel => exact ⟨_, (false), (by first | rfl | (simp; done) | (simp [*]; done)), H', ⟨by have := HK1.out; first | omega | exact Nat.le_refl _⟩, ⟨by exact RL HO_7.out rfl⟩, ⟨by exact BL HB.out rfl rfl rfl rfl⟩⟩
    rw [if_pos c7] at H
    have c7b0 : decide (x8_1 < (x7_1.length : Int)) = true := decide_eq_true c7
    clear c7
    (first | rw [c7b0] | (simp only [i64_w, i32_w]; rw [c7b0]) | skip)
    replace H := Option.bind_eq_some_iff.mp H
    obtain ⟨t335, A80, H⟩ := H
    replace H : (if t335 = true then ((spec_l1In.f a2 0 999).bind fun t336 => (spec_MarkIndex.j1 k1 l0 a1 a2 x7_1 x8_1 t336)) else (spec_MarkIndex.j1 k1 l0 a1 a2 x7_1 x8_1 false)) = some r := H
    have A8 := AM_ A80
    clear A80
    by_cases c9 : t335 = true
    rotate_left
    ·replace c9 := Bool.eq_false_iff.mpr c9
     subst c9
     have H1 : (spec_MarkIndex.j1 k1 l0 a1 a2 x7_1 x8_1 false) = some r := by rw [if_neg (show ¬ (false = true) by decide)] at H; exact H
     clear H
     have H := H1
     clear H1
     have H' := AM_ H
     clear H
     obtain ⟨Ao13, co13, eo13⟩ := Kd.R_slice HO_7.out
     subst eo13
     go_wp2_with (first | (go_at_call 83; (with_reducible refine (spec_IsIndex.calls k1 _ _ l0 false _ ?side1 ?side2 A8.out).mono ?_); (case side1 => exact Kd.C_below (Kd.C_below HR0.out HB.out) (BL (Below.refl _ _) rfl rfl rfl rfl)); (case side2 => exact HC0.out); rintro e w14 ⟨rfl, hb⟩; have n0_ := AM_ (Kd.R_below (by exact RL HO_7.out rfl) hb); have n1_ := AM_ (below_step (by exact BL HB.out rfl rfl rfl rfl) hb); clear HO_7; clear HB; have HO_7 := n0_; have HB := n1_; clear n0_ n1_; (try clear hb); (try clear hb2); (try clear hk); (try clear hi)))
     repeat (go_quiet (first | (go_at_call 83; (with_reducible refine (spec_IsIndex.calls k1 _ _ l0 false _ ?side1 ?side2 A8.out).mono ?_); (case side1 => exact Kd.C_below (Kd.C_below HR0.out HB.out) (BL (Below.refl _ _) rfl rfl rfl rfl)); (case side2 => exact HC0.out); rintro e w14 ⟨rfl, hb⟩; have n0_ := AM_ (Kd.R_below (by exact RL HO_7.out rfl) hb); have n1_ := AM_ (below_step (by exact BL HB.out rfl rfl rfl rfl) hb); clear HO_7; clear HB; have HO_7 := n0_; have HB := n1_; clear n0_ n1_; (try clear hb); (try clear hb2); (try clear hk); (try clear hi))); try go_wp2_with (first | (go_at_call 83; (with_reducible refine (spec_IsIndex.calls k1 _ _ l0 false _ ?side1 ?side2 A8.out).mono ?_); (case side1 => exact Kd.C_below (Kd.C_below HR0.out HB.out) (BL (Below.refl _ _) rfl rfl rfl rfl)); (case side2 => exact HC0.out); rintro e w14 ⟨rfl, hb⟩; have n0_ := AM_ (Kd.R_below (by exact RL HO_7.out rfl) hb); have n1_ := AM_ (below_step (by exact BL HB.out rfl rfl rfl rfl) hb); clear HO_7; clear HB; have HO_7 := n0_; have HB := n1_; clear n0_ n1_; (try clear hb); (try clear hb2); (try clear hk); (try clear hi))))
     go_meet
     case rel => exact ⟨_, (false), (by first | rfl | (simp; done) | (simp [*]; done)), H', ⟨by have := HK1.out; first | omega | exact Nat.le_refl _⟩, ⟨by exact RL HO_7.out rfl⟩, ⟨by exact BL HB.out rfl rfl rfl rfl⟩⟩
    subst c9
    have H1 : ((spec_l1In.f a2 0 999).bind fun t336 => (spec_MarkIndex.j1 k1 l0 a1 a2 x7_1 x8_1 t336)) = some r := by rw [if_pos rfl] at H; exact H
    clear H
    have H := H1
    clear H1
    replace H := Option.bind_eq_some_iff.mp H
    obtain ⟨t336, A100, H⟩ := H
    replace H : (spec_MarkIndex.j1 k1 l0 a1 a2 x7_1 x8_1 t336) = some r := H
    have A10 := AM_ A100
    clear A100
    have H' := AM_ H
    clear H
    obtain ⟨Ao11, co11, eo11⟩ := Kd.R_slice HO_7.out
    subst eo11
    go_wp2_with (first | (go_at_call 83; (with_reducible refine (spec_IsIndex.calls k1 _ _ l0 true _ ?side1 ?side2 A8.out).mono ?_); (case side1 => exact Kd.C_below (Kd.C_below HR0.out HB.out) (BL (Below.refl _ _) rfl rfl rfl rfl)); (case side2 => exact HC0.out); rintro e w12 ⟨rfl, hb⟩; have n0_ := AM_ (Kd.R_below (by exact RL HO_7.out rfl) hb); have n1_ := AM_ (below_step (by exact BL HB.out rfl rfl rfl rfl) hb); clear HO_7; clear HB; have HO_7 := n0_; have HB := n1_; clear n0_ n1_; (try clear hb); (try clear hb2); (try clear hk); (try clear hi)) | (go_at_call 96; (with_reducible refine (spec_l1In.calls a2 0 999 t336 _ A10.out).mono ?_); rintro e w' ⟨rfl, ⟨nd, rfl⟩⟩; (try first | exact ⟨rfl, _, World.drewN_drewN _ _ _⟩ | exact ⟨rfl, _, Eq.trans (World.drewN_drewN _ _ _) (congrArg (World.drewN _) (Nat.add_assoc _ _ _))⟩)))
    repeat (go_quiet (first | (go_at_call 83; (with_reducible refine (spec_IsIndex.calls k1 _ _ l0 true _ ?side1 ?side2 A8.out).mono ?_); (case side1 => exact Kd.C_below (Kd.C_below HR0.out HB.out) (BL (Below.refl _ _) rfl rfl rfl rfl)); (case side2 => exact HC0.out); rintro e w12 ⟨rfl, hb⟩; have n0_ := AM_ (Kd.R_below (by exact RL HO_7.out rfl) hb); have n1_ := AM_ (below_step (by exact BL HB.out rfl rfl rfl rfl) hb); clear HO_7; clear HB; have HO_7 := n0_; have HB := n1_; clear n0_ n1_; (try clear hb); (try clear hb2); (try clear hk); (try clear hi)) | (go_at_call 96; (with_reducible refine (spec_l1In.calls a2 0 999 t336 _ A10.out).mono ?_); rintro e w' ⟨rfl, ⟨nd, rfl⟩⟩; (try first | exact ⟨rfl, _, World.drewN_drewN _ _ _⟩ | exact ⟨rfl, _, Eq.trans (World.drewN_drewN _ _ _) (congrArg (World.drewN _) (Nat.add_assoc _ _ _))⟩))); try go_wp2_with (first | (go_at_call 83; (with_reducible refine (spec_IsIndex.calls k1 _ _ l0 true _ ?side1 ?side2 A8.out).mono ?_); (case side1 => exact Kd.C_below (Kd.C_below HR0.out HB.out) (BL (Below.refl _ _) rfl rfl rfl rfl)); (case side2 => exact HC0.out); rintro e w12 ⟨rfl, hb⟩; have n0_ := AM_ (Kd.R_below (by exact RL HO_7.out rfl) hb); have n1_ := AM_ (below_step (by exact BL HB.out rfl rfl rfl rfl) hb); clear HO_7; clear HB; have HO_7 := n0_; have HB := n1_; clear n0_ n1_; (try clear hb); (try clear hb2); (try clear hk); (try clear hi)) | (go_at_call 96; (with_reducible refine (spec_l1In.calls a2 0 999 t336 _ A10.out).mono ?_); rintro e w' ⟨rfl, ⟨nd, rfl⟩⟩; (try first | exact ⟨rfl, _, World.drewN_drewN _ _ _⟩ | exact ⟨rfl, _, Eq.trans (World.drewN_drewN _ _ _) (congrArg (World.drewN _) (Nat.add_assoc _ _ _))⟩))))
    go_meet
    case rel => exact ⟨_, (t336), (by first | rfl | (simp; done) | (simp [*]; done)), H', ⟨by have := HK1.out; first | omega | exact Nat.le_refl _⟩, ⟨by exact RL HO_7.out rfl⟩, ⟨by exact BL HB.out rfl rfl rfl rfl⟩⟩
   case rest =>
    clear HC6
    try clear c1
    try clear p2
    try clear c7
    try clear c7b0
    try clear c9
    try clear c12
    try clear p2
    obtain ⟨kq, x22_5, rfl, HA, HJ5, HO_7, HB⟩ := hcut
    cases kq with
    | zero => exact absurd HA.out (by simp [spec_MarkIndex.j1])
    | succ kj5 =>
     have H := HA.out
     clear HA
     simp only [spec_MarkIndex.j1] at H
     by_cases c16 : x22_5 = true
     rotate_left
     ·replace c16 := Bool.eq_false_iff.mpr c16
      subst c16
      have H1 : (some x7_1) = some r := by rw [if_neg (show ¬ (false = true) by decide)] at H; exact H
      clear H
      have H := H1
      clear H1
      obtain rfl := Option.some.inj H
      go_wp2
      repeat (go_quiet (fail); try go_wp2)
      go_ret
      exact ⟨_, by first | rfl | (simp [errW_none, errW_some] <;> rfl) | (simp [*, errW_none, errW_some] <;> rfl), by exact RL HO_7.out rfl, by exact BL HB.out rfl rfl rfl rfl⟩
     subst c16
     have H1 : (if 0 ≤ x8_1 then (if x8_1 < (x7_1.length : Int) then ((spec_l1In.f a1 ((rd_T77 x7_1 x8_1).f0) ((rd_T77 x7_1 x8_1).f1)).bind fun t339 => (if t339 = true then (spec_MarkIndex.l0 kj5 l0 a1 a2 (x7_1.set (x8_1 : Int).toNat (⟨(rd_T77 x7_1 x8_1).f0, (rd_T77 x7_1 x8_1).f1, mx ((rd_T77 x7_1 x8_1).f2) a2⟩ : S77)) (wrap64 (x8_1 + 1))) else (spec_MarkIndex.l0 kj5 l0 a1 a2 x7_1 (wrap64 (x8_1 + 1))))) else (none)) else (none)) = some r := by rw [if_pos rfl] at H; exact H
     clear H
     have H := H1
     clear H1
     by_cases c17 : 0 ≤ x8_1
     rotate_left
     ·rw [if_neg c17] at H
      exact absurd H (by simp)
     rw [if_pos c17] at H
     have c17b0 : decide (0 ≤ x8_1) = true := decide_eq_true c17
     clear c17
     by_cases c18 : x8_1 < (x7_1.length : Int)
     rotate_left
     ·rw [if_neg c18] at H
      exact absurd H (by simp)
     rw [if_pos c18] at H
     have c18b0 : decide (x8_1 < (x7_1.length : Int)) = true := decide_eq_true c18
     clear c18
     replace H := Option.bind_eq_some_iff.mp H
     obtain ⟨t339, A190, H⟩ := H
     replace H : (if t339 = true then (spec_MarkIndex.l0 kj5 l0 a1 a2 (x7_1.set (x8_1 : Int).toNat (⟨(rd_T77 x7_1 x8_1).f0, (rd_T77 x7_1 x8_1).f1, mx ((rd_T77 x7_1 x8_1).f2) a2⟩ : S77)) (wrap64 (x8_1 + 1))) else (spec_MarkIndex.l0 kj5 l0 a1 a2 x7_1 (wrap64 (x8_1 + 1)))) = some r := H
     have A19 := AM_ A190
     clear A190
     by_cases c20 : t339 = true
     rotate_left
     ·replace c20 := Bool.eq_false_iff.mpr c20
      subst c20
      have H1 : (spec_MarkIndex.l0 kj5 l0 a1 a2 x7_1 (wrap64 (x8_1 + 1))) = some r := by rw [if_neg (show ¬ (false = true) by decide)] at H; exact H
      clear H
      have H := H1
      clear H1
      have H' := AM_ H
      clear H
      obtain ⟨Ao26, co26, eo26⟩ := Kd.R_slice HO_7.out
      subst eo26
      have p337 : 0 ≤ (x8_1 : Int) := of_decide_eq_true (by first | (with_reducible assumption) | assumption)
      have q337 : x8_1 < (x7_1.length : Int) := of_decide_eq_true (by first | (with_reducible assumption) | assumption)
      obtain ⟨ad337, e337, hx337_0, hx337_1, hx337_2⟩ := at_T77 (Kd.R_reads' HO_7.out).2.2 x8_1 p337 q337
      cases e337
      replace p337 := eq_true p337
      replace q337 := eq_true q337
      have p338 : 0 ≤ (x8_1 : Int) := of_decide_eq_true (by first | (with_reducible assumption) | assumption)
      have q338 : x8_1 < (x7_1.length : Int) := of_decide_eq_true (by first | (with_reducible assumption) | assumption)
      obtain ⟨ad338, e338, hx338_0, hx338_1, hx338_2⟩ := at_T77 (Kd.R_reads' HO_7.out).2.2 x8_1 p338 q338
      obtain rfl : ad337 = ad338 := (by injection e338)
      replace p338 := eq_true p338
      replace q338 := eq_true q338
      go_wp2_with (first | (go_at_call 96; (with_reducible refine (spec_l1In.calls a1 ((rd_T77 x7_1 x8_1).f0) ((rd_T77 x7_1 x8_1).f1) false _ A19.out).mono ?_); rintro e w' ⟨rfl, ⟨nd, rfl⟩⟩; (try first | exact ⟨rfl, _, World.drewN_drewN _ _ _⟩ | exact ⟨rfl, _, Eq.trans (World.drewN_drewN _ _ _) (congrArg (World.drewN _) (Nat.add_assoc _ _ _))⟩)))
      repeat (go_quiet (first | (go_at_call 96; (with_reducible refine (spec_l1In.calls a1 ((rd_T77 x7_1 x8_1).f0) ((rd_T77 x7_1 x8_1).f1) false _ A19.out).mono ?_); rintro e w' ⟨rfl, ⟨nd, rfl⟩⟩; (try first | exact ⟨rfl, _, World.drewN_drewN _ _ _⟩ | exact ⟨rfl, _, Eq.trans (World.drewN_drewN _ _ _) (congrArg (World.drewN _) (Nat.add_assoc _ _ _))⟩))); try go_wp2_with (first | (go_at_call 96; (with_reducible refine (spec_l1In.calls a1 ((rd_T77 x7_1 x8_1).f0) ((rd_T77 x7_1 x8_1).f1) false _ A19.out).mono ?_); rintro e w' ⟨rfl, ⟨nd, rfl⟩⟩; (try first | exact ⟨rfl, _, World.drewN_drewN _ _ _⟩ | exact ⟨rfl, _, Eq.trans (World.drewN_drewN _ _ _) (congrArg (World.drewN _) (Nat.add_assoc _ _ _))⟩))))
      go_roundg kj5
      case measure => have := HK1.out; have := HJ5.out; omega
      case rel => exact ⟨(x7_1), (wrap64 (x8_1 + 1)), (by first | rfl | (simp; done) | (simp [*]; done)), H', ⟨by have := HK1.out; have := HJ5.out; omega⟩, ⟨by exact RL HO_7.out rfl⟩, ⟨by exact BL HB.out rfl rfl rfl rfl⟩⟩
     subst c20
     have H1 : (spec_MarkIndex.l0 kj5 l0 a1 a2 (x7_1.set (x8_1 : Int).toNat (⟨(rd_T77 x7_1 x8_1).f0, (rd_T77 x7_1 x8_1).f1, mx ((rd_T77 x7_1 x8_1).f2) a2⟩ : S77)) (wrap64 (x8_1 + 1))) = some r := by rw [if_pos rfl] at H; exact H
     clear H
     have H := H1
     clear H1
     obtain ⟨ji21, hji21⟩ : ∃ j_ : Int, (mx ((rd_T77 x7_1 x8_1).f2) a2) = j_ := ⟨_, rfl⟩
     replace H : (spec_MarkIndex.l0 kj5 l0 a1 a2 (x7_1.set (x8_1 : Int).toNat (⟨(rd_T77 x7_1 x8_1).f0, (rd_T77 x7_1 x8_1).f1, ji21⟩ : S77)) (wrap64 (x8_1 + 1))) = some r := by first | (rw [hji21] at H; exact H) | (simp only [hji21] at H ⊢; exact H)
     (try rw [hji21] at A19)
     have hji21_ : (if ((rd_T77 x7_1 x8_1).f2) < a2 then a2 else ((rd_T77 x7_1 x8_1).f2)) = ji21 := hji21
     obtain ⟨y341, hy341⟩ : ∃ y_ : List (S77), y_ = (x7_1.set (x8_1 : Int).toNat (⟨(rd_T77 x7_1 x8_1).f0, (rd_T77 x7_1 x8_1).f1, ji21⟩ : S77)) := ⟨_, rfl⟩
     replace H : (spec_MarkIndex.l0 kj5 l0 a1 a2 y341 (wrap64 (x8_1 + 1))) = some r := by first | (rw [hy341]; with_reducible exact H) | (have H2_ := (Option.bind_some _ _).symm.trans H; rw [hy341]; with_reducible exact H2_) | (have H2_ := (Option.bind_some _ _).symm.trans H; with_reducible exact H2_) | with_reducible exact H | (rw [hy341]; exact H) | exact H
     have Ny341 := AM_ hy341
     clear hy341
     have H' := AM_ H
     clear H
     obtain ⟨Ao23, co23, eo23⟩ := Kd.R_slice HO_7.out
     subst eo23
     have p337 : 0 ≤ (x8_1 : Int) := of_decide_eq_true (by first | (with_reducible assumption) | assumption)
     have q337 : x8_1 < (x7_1.length : Int) := of_decide_eq_true (by first | (with_reducible assumption) | assumption)
     obtain ⟨ad337, e337, hx337_0, hx337_1, hx337_2⟩ := at_T77 (Kd.R_reads' HO_7.out).2.2 x8_1 p337 q337
     cases e337
     replace p337 := eq_true p337
     replace q337 := eq_true q337
     have p338 : 0 ≤ (x8_1 : Int) := of_decide_eq_true (by first | (with_reducible assumption) | assumption)
     have q338 : x8_1 < (x7_1.length : Int) := of_decide_eq_true (by first | (with_reducible assumption) | assumption)
     obtain ⟨ad338, e338, hx338_0, hx338_1, hx338_2⟩ := at_T77 (Kd.R_reads' HO_7.out).2.2 x8_1 p338 q338
     obtain rfl : ad337 = ad338 := (by injection e338)
     replace p338 := eq_true p338
     replace q338 := eq_true q338
     go_wp2_with (first | (go_at_call 96; (with_reducible refine (spec_l1In.calls a1 ((rd_T77 x7_1 x8_1).f0) ((rd_T77 x7_1 x8_1).f1) true _ A19.out).mono ?_); rintro e w' ⟨rfl, ⟨nd, rfl⟩⟩; (try first | exact ⟨rfl, _, World.drewN_drewN _ _ _⟩ | exact ⟨rfl, _, Eq.trans (World.drewN_drewN _ _ _) (congrArg (World.drewN _) (Nat.add_assoc _ _ _))⟩); have p340 : 0 ≤ (x8_1 : Int) := of_decide_eq_true (by first | (with_reducible assumption) | assumption); have q340 : x8_1 < (x7_1.length : Int) := of_decide_eq_true (by first | (with_reducible assumption) | assumption); obtain ⟨ad340, e340, hx340_0, hx340_1, hx340_2⟩ := at_T77 (Kd.R_reads' HO_7.out).2.2 x8_1 p340 q340; obtain rfl : ad337 = ad340 := (by injection e340); replace p340 := eq_true p340; replace q340 := eq_true q340; have p22 : 0 ≤ (x8_1 : Int) := of_decide_eq_true (by first | (with_reducible assumption) | assumption); have q22 : (x8_1 : Int) < ((x7_1.length : Int) : Int) := of_decide_eq_true (by first | (with_reducible assumption) | assumption); obtain ⟨go22, co22, eo22, gb22, gl22, cl22, HG22⟩ := Kd.R_form HO_7.out (by omega); (first | cases eo22 | (injection eo22 with ea_ en_ ec_; (first | subst ea_ | (injection ea_ with ea_; subst ea_)); subst ec_; clear en_)); have GB22 := AM_ gb22; have GG22 := AM_ HG22; clear gb22 gl22 HG22; (first | simp only [add_plain] at hx337_0 | skip); (first | simp only [add_plain] at hx337_1 | skip); (first | simp only [add_plain] at hx337_2 | skip); (first | simp only [add_plain] at hx338_0 | skip); (first | simp only [add_plain] at hx338_1 | skip); (first | simp only [add_plain] at hx338_2 | skip); (first | simp only [add_plain] at hx340_0 | skip); (first | simp only [add_plain] at hx340_1 | skip); (first | simp only [add_plain] at hx340_2 | skip); obtain ⟨ce22, hcl22, hM22, hcc22, hfr22⟩ := Kd.R_elem HO_7.out z77 (x8_1 : Int) p22 q22; obtain rfl := k77_openM hM22; have hx22_0 : wc.cell? ⟨go22, (x8_1 : Int).toNat * 3, none⟩ = some (.int .i64 ((rd_T77 x7_1 x8_1).f0)) := hcc22 0 _ rfl; have hx22_1 : wc.cell? ⟨go22, (x8_1 : Int).toNat * 3 + 1, none⟩ = some (.int .i64 ((rd_T77 x7_1 x8_1).f1)) := hcc22 1 _ rfl; have hx22_2 : wc.cell? ⟨go22, (x8_1 : Int).toNat * 3 + 2, none⟩ = some (.int .i64 ((rd_T77 x7_1 x8_1).f2)) := hcc22 2 _ rfl; have hf22_0 : wc.frozen? ⟨go22, (x8_1 : Int).toNat * 3, none⟩ = false := hfr22 0; have hf22_1 : wc.frozen? ⟨go22, (x8_1 : Int).toNat * 3 + 1, none⟩ = false := hfr22 1; have hf22_2 : wc.frozen? ⟨go22, (x8_1 : Int).toNat * 3 + 2, none⟩ = false := hfr22 2; clear hcl22 hcc22 hfr22; (try clear hM22); replace p22 := eq_true p22; replace q22 := eq_true q22; have HX24 := AM_ (show Kd.R k77 77 wc w.heap.size (fun _ => True) (.slice (some ⟨go22, 0, none⟩) x7_1.length co23) x7_1 from (by exact RL HO_7.out rfl)); obtain ⟨ce24, hcl24, hM24, hcc24, hfr24⟩ := Kd.R_elem HX24.out z77 (x8_1 : Int) (of_decide_eq_true (by first | (with_reducible assumption) | assumption)) (by have h_ : (x8_1 : Int) < ((x7_1.length : Int) : Int) := of_decide_eq_true (by first | (with_reducible assumption) | assumption); first | exact h_ | (have e_ := (Kd.R_reads' HO_7.out).1; omega) | simpa using h_); obtain rfl := k77_openM hM24; have HP24 := Kd.R_seg HX24.out (x8_1 : Int) (of_decide_eq_true (by first | (with_reducible assumption) | assumption)) (by have h_ : (x8_1 : Int) < ((x7_1.length : Int) : Int) := of_decide_eq_true (by first | (with_reducible assumption) | assumption); first | exact h_ | (have e_ := (Kd.R_reads' HO_7.out).1; omega) | simpa using h_) (seg := [.int .i64 ji21]) (j := 2) hcl24 hcc24 (show 3 ≤ 3 from by decide) (x' := (⟨(rd_T77 x7_1 x8_1).f0, (rd_T77 x7_1 x8_1).f1, ji21⟩ : S77)) (k77_mkM _ _ _ (⟨(rd_T77 x7_1 x8_1).f0, (rd_T77 x7_1 x8_1).f1, ji21⟩ : S77) ) (fun _ hk => hk); have hx24_2 := hcc24 2 _ rfl; (try simp only [show (k77).sz = 3 from rfl, Nat.mul_one, Nat.add_zero] at hx24_2); have hf24_2 := hfr24 2; (try simp only [show (k77).sz = 3 from rfl, Nat.mul_one, Nat.add_zero] at hf24_2); clear hcl24 hcc24 hfr24; (try clear hM24)) | ((with_reducible refine gate_store (t := 3) (p := 47) rfl ?_); (try (rw [drewN_self wc]; generalize hq_ : World.drewN wc _ = wc; have n0_ := AM_ (Kd.R_at hq_ HO_7.out); have n1_ := AM_ (below_at hq_ HB.out); clear hq_ HO_7 HB; have HO_7 := n0_; have HB := n1_; clear n0_ n1_; (try (have HX24 := AM_ (show Kd.R k77 77 wc w.heap.size (fun _ => True) (.slice (some ⟨go22, 0, none⟩) x7_1.length co23) x7_1 from (by exact RL HO_7.out rfl)))); (try (obtain ⟨ce24, hcl24, hM24, hcc24, hfr24⟩ := Kd.R_elem HX24.out z77 (x8_1 : Int) (of_decide_eq_true (by first | (with_reducible assumption) | assumption)) (by have h_ : (x8_1 : Int) < ((x7_1.length : Int) : Int) := of_decide_eq_true (by first | (with_reducible assumption) | assumption); first | exact h_ | (have e_ := (Kd.R_reads' HO_7.out).1; omega) | simpa using h_))); (try (obtain rfl := k77_openM hM24)); (try (have HP24 := Kd.R_seg HX24.out (x8_1 : Int) (of_decide_eq_true (by first | (with_reducible assumption) | assumption)) (by have h_ : (x8_1 : Int) < ((x7_1.length : Int) : Int) := of_decide_eq_true (by first | (with_reducible assumption) | assumption); first | exact h_ | (have e_ := (Kd.R_reads' HO_7.out).1; omega) | simpa using h_) (seg := [.int .i64 ji21]) (j := 2) hcl24 hcc24 (show 3 ≤ 3 from by decide) (x' := (⟨(rd_T77 x7_1 x8_1).f0, (rd_T77 x7_1 x8_1).f1, ji21⟩ : S77)) (k77_mkM _ _ _ (⟨(rd_T77 x7_1 x8_1).f0, (rd_T77 x7_1 x8_1).f1, ji21⟩ : S77) ) (fun _ hk => hk))); (try (have hx24_2 := hcc24 2 _ rfl)); (try (try simp only [show (k77).sz = 3 from rfl, Nat.mul_one, Nat.add_zero] at hx24_2)); (try (have hf24_2 := hfr24 2)); (try (try simp only [show (k77).sz = 3 from rfl, Nat.mul_one, Nat.add_zero] at hf24_2)); (try (clear hcl24 hcc24 hfr24; (try clear hM24))))); refine store_event (t := 3) (p := 47) (v := ?vo_w25) (w1 := (wc.setCell ⟨go22, (x8_1 : Int).toNat * 3 + 2, none⟩ (.int .i64 ji21))) ?hg ?ho ?hn ?hr ?_; (case ho => rfl); (case hg => rfl); (case hn => rfl); (case hr => first | (go_simp; done) | (go_simp; rfl)); intro w25 hw; have hg : wc.grownBy w25 (some go22) := (by rw [hw]; exact HP24.2); have hp_ : Kd.R k77 77 w25 w.heap.size (fun _ => True) (.slice (some ⟨go22, 0, none⟩) x7_1.length co23) y341 := (by rw [hw, Ny341.out]; exact HP24.1); clear HP24; have n0_ := AM_ (hp_); have n1_ := AM_ ((by rw [hw]; exact below_set (HB.out) GB22.out : Below w.heap.size w w25)); clear HO_7; clear HB; have HO_7 := n0_; have HB := n1_; clear n0_ n1_; clear hg hw hp_))
     repeat (go_quiet (first | (go_at_call 96; (with_reducible refine (spec_l1In.calls a1 ((rd_T77 x7_1 x8_1).f0) ((rd_T77 x7_1 x8_1).f1) true _ A19.out).mono ?_); rintro e w' ⟨rfl, ⟨nd, rfl⟩⟩; (try first | exact ⟨rfl, _, World.drewN_drewN _ _ _⟩ | exact ⟨rfl, _, Eq.trans (World.drewN_drewN _ _ _) (congrArg (World.drewN _) (Nat.add_assoc _ _ _))⟩); have p340 : 0 ≤ (x8_1 : Int) := of_decide_eq_true (by first | (with_reducible assumption) | assumption); have q340 : x8_1 < (x7_1.length : Int) := of_decide_eq_true (by first | (with_reducible assumption) | assumption); obtain ⟨ad340, e340, hx340_0, hx340_1, hx340_2⟩ := at_T77 (Kd.R_reads' HO_7.out).2.2 x8_1 p340 q340; obtain rfl : ad337 = ad340 := (by injection e340); replace p340 := eq_true p340; replace q340 := eq_true q340; have p22 : 0 ≤ (x8_1 : Int) := of_decide_eq_true (by first | (with_reducible assumption) | assumption); have q22 : (x8_1 : Int) < ((x7_1.length : Int) : Int) := of_decide_eq_true (by first | (with_reducible assumption) | assumption); obtain ⟨go22, co22, eo22, gb22, gl22, cl22, HG22⟩ := Kd.R_form HO_7.out (by omega); (first | cases eo22 | (injection eo22 with ea_ en_ ec_; (first | subst ea_ | (injection ea_ with ea_; subst ea_)); subst ec_; clear en_)); have GB22 := AM_ gb22; have GG22 := AM_ HG22; clear gb22 gl22 HG22; (first | simp only [add_plain] at hx337_0 | skip); (first | simp only [add_plain] at hx337_1 | skip); (first | simp only [add_plain] at hx337_2 | skip); (first | simp only [add_plain] at hx338_0 | skip); (first | simp only [add_plain] at hx338_1 | skip); (first | simp only [add_plain] at hx338_2 | skip); (first | simp only [add_plain] at hx340_0 | skip); (first | simp only [add_plain] at hx340_1 | skip); (first | simp only [add_plain] at hx340_2 | skip); obtain ⟨ce22, hcl22, hM22, hcc22, hfr22⟩ := Kd.R_elem HO_7.out z77 (x8_1 : Int) p22 q22; obtain rfl := k77_openM hM22; have hx22_0 : wc.cell? ⟨go22, (x8_1 : Int).toNat * 3, none⟩ = some (.int .i64 ((rd_T77 x7_1 x8_1).f0)) := hcc22 0 _ rfl; have hx22_1 : wc.cell? ⟨go22, (x8_1 : Int).toNat * 3 + 1, none⟩ = some (.int .i64 ((rd_T77 x7_1 x8_1).f1)) := hcc22 1 _ rfl; have hx22_2 : wc.cell? ⟨go22, (x8_1 : Int).toNat * 3 + 2, none⟩ = some (.int .i64 ((rd_T77 x7_1 x8_1).f2)) := hcc22 2 _ rfl; have hf22_0 : wc.frozen? ⟨go22, (x8_1 : Int).toNat * 3, none⟩ = false := hfr22 0; have hf22_1 : wc.frozen? ⟨go22, (x8_1 : Int).toNat * 3 + 1, none⟩ = false := hfr22 1; have hf22_2 : wc.frozen? ⟨go22, (x8_1 : Int).toNat * 3 + 2, none⟩ = false := hfr22 2; clear hcl22 hcc22 hfr22; (try clear hM22); replace p22 := eq_true p22; replace q22 := eq_true q22; have HX24 := AM_ (show Kd.R k77 77 wc w.heap.size (fun _ => True) (.slice (some ⟨go22, 0, none⟩) x7_1.length co23) x7_1 from (by exact RL HO_7.out rfl)); obtain ⟨ce24, hcl24, hM24, hcc24, hfr24⟩ := Kd.R_elem HX24.out z77 (x8_1 : Int) (of_decide_eq_true (by first | (with_reducible assumption) | assumption)) (by have h_ : (x8_1 : Int) < ((x7_1.length : Int) : Int) := of_decide_eq_true (by first | (with_reducible assumption) | assumption); first | exact h_ | (have e_ := (Kd.R_reads' HO_7.out).1; omega) | simpa using h_); obtain rfl := k77_openM hM24; have HP24 := Kd.R_seg HX24.out (x8_1 : Int) (of_decide_eq_true (by first | (with_reducible assumption) | assumption)) (by have h_ : (x8_1 : Int) < ((x7_1.length : Int) : Int) := of_decide_eq_true (by first | (with_reducible assumption) | assumption); first | exact h_ | (have e_ := (Kd.R_reads' HO_7.out).1; omega) | simpa using h_) (seg := [.int .i64 ji21]) (j := 2) hcl24 hcc24 (show 3 ≤ 3 from by decide) (x' := (⟨(rd_T77 x7_1 x8_1).f0, (rd_T77 x7_1 x8_1).f1, ji21⟩ : S77)) (k77_mkM _ _ _ (⟨(rd_T77 x7_1 x8_1).f0, (rd_T77 x7_1 x8_1).f1, ji21⟩ : S77) ) (fun _ hk => hk); have hx24_2 := hcc24 2 _ rfl; (try simp only [show (k77).sz = 3 from rfl, Nat.mul_one, Nat.add_zero] at hx24_2); have hf24_2 := hfr24 2; (try simp only [show (k77).sz = 3 from rfl, Nat.mul_one, Nat.add_zero] at hf24_2); clear hcl24 hcc24 hfr24; (try clear hM24)) | ((with_reducible refine gate_store (t := 3) (p := 47) rfl ?_); (try (rw [drewN_self wc]; generalize hq_ : World.drewN wc _ = wc; have n0_ := AM_ (Kd.R_at hq_ HO_7.out); have n1_ := AM_ (below_at hq_ HB.out); clear hq_ HO_7 HB; have HO_7 := n0_; have HB := n1_; clear n0_ n1_; (try (have HX24 := AM_ (show Kd.R k77 77 wc w.heap.size (fun _ => True) (.slice (some ⟨go22, 0, none⟩) x7_1.length co23) x7_1 from (by exact RL HO_7.out rfl)))); (try (obtain ⟨ce24, hcl24, hM24, hcc24, hfr24⟩ := Kd.R_elem HX24.out z77 (x8_1 : Int) (of_decide_eq_true (by first | (with_reducible assumption) | assumption)) (by have h_ : (x8_1 : Int) < ((x7_1.length : Int) : Int) := of_decide_eq_true (by first | (with_reducible assumption) | assumption); first | exact h_ | (have e_ := (Kd.R_reads' HO_7.out).1; omega) | simpa using h_))); (try (obtain rfl := k77_openM hM24)); (try (have HP24 := Kd.R_seg HX24.out (x8_1 : Int) (of_decide_eq_true (by first | (with_reducible assumption) | assumption)) (by have h_ : (x8_1 : Int) < ((x7_1.length : Int) : Int) := of_decide_eq_true (by first | (with_reducible assumption) | assumption); first | exact h_ | (have e_ := (Kd.R_reads' HO_7.out).1; omega) | simpa using h_) (seg := [.int .i64 ji21]) (j := 2) hcl24 hcc24 (show 3 ≤ 3 from by decide) (x' := (⟨(rd_T77 x7_1 x8_1).f0, (rd_T77 x7_1 x8_1).f1, ji21⟩ : S77)) (k77_mkM _ _ _ (⟨(rd_T77 x7_1 x8_1).f0, (rd_T77 x7_1 x8_1).f1, ji21⟩ : S77) ) (fun _ hk => hk))); (try (have hx24_2 := hcc24 2 _ rfl)); (try (try simp only [show (k77).sz = 3 from rfl, Nat.mul_one, Nat.add_zero] at hx24_2)); (try (have hf24_2 := hfr24 2)); (try (try simp only [show (k77).sz = 3 from rfl, Nat.mul_one, Nat.add_zero] at hf24_2)); (try (clear hcl24 hcc24 hfr24; (try clear hM24))))); refine store_event (t := 3) (p := 47) (v := ?vo_w25) (w1 := (wc.setCell ⟨go22, (x8_1 : Int).toNat * 3 + 2, none⟩ (.int .i64 ji21))) ?hg ?ho ?hn ?hr ?_; (case ho => rfl); (case hg => rfl); (case hn => rfl); (case hr => first | (go_simp; done) | (go_simp; rfl)); intro w25 hw; have hg : wc.grownBy w25 (some go22) := (by rw [hw]; exact HP24.2); have hp_ : Kd.R k77 77 w25 w.heap.size (fun _ => True) (.slice (some ⟨go22, 0, none⟩) x7_1.length co23) y341 := (by rw [hw, Ny341.out]; exact HP24.1); clear HP24; have n0_ := AM_ (hp_); have n1_ := AM_ ((by rw [hw]; exact below_set (HB.out) GB22.out : Below w.heap.size w w25)); clear HO_7; clear HB; have HO_7 := n0_; have HB := n1_; clear n0_ n1_; clear hg hw hp_)); try go_wp2_with (first | (go_at_call 96; (with_reducible refine (spec_l1In.calls a1 ((rd_T77 x7_1 x8_1).f0) ((rd_T77 x7_1 x8_1).f1) true _ A19.out).mono ?_); rintro e w' ⟨rfl, ⟨nd, rfl⟩⟩; (try first | exact ⟨rfl, _, World.drewN_drewN _ _ _⟩ | exact ⟨rfl, _, Eq.trans (World.drewN_drewN _ _ _) (congrArg (World.drewN _) (Nat.add_assoc _ _ _))⟩); have p340 : 0 ≤ (x8_1 : Int) := of_decide_eq_true (by first | (with_reducible assumption) | assumption); have q340 : x8_1 < (x7_1.length : Int) := of_decide_eq_true (by first | (with_reducible assumption) | assumption); obtain ⟨ad340, e340, hx340_0, hx340_1, hx340_2⟩ := at_T77 (Kd.R_reads' HO_7.out).2.2 x8_1 p340 q340; obtain rfl : ad337 = ad340 := (by injection e340); replace p340 := eq_true p340; replace q340 := eq_true q340; have p22 : 0 ≤ (x8_1 : Int) := of_decide_eq_true (by first | (with_reducible assumption) | assumption); have q22 : (x8_1 : Int) < ((x7_1.length : Int) : Int) := of_decide_eq_true (by first | (with_reducible assumption) | assumption); obtain ⟨go22, co22, eo22, gb22, gl22, cl22, HG22⟩ := Kd.R_form HO_7.out (by omega); (first | cases eo22 | (injection eo22 with ea_ en_ ec_; (first | subst ea_ | (injection ea_ with ea_; subst ea_)); subst ec_; clear en_)); have GB22 := AM_ gb22; have GG22 := AM_ HG22; clear gb22 gl22 HG22; (first | simp only [add_plain] at hx337_0 | skip); (first | simp only [add_plain] at hx337_1 | skip); (first | simp only [add_plain] at hx337_2 | skip); (first | simp only [add_plain] at hx338_0 | skip); (first | simp only [add_plain] at hx338_1 | skip); (first | simp only [add_plain] at hx338_2 | skip); (first | simp only [add_plain] at hx340_0 | skip); (first | simp only [add_plain] at hx340_1 | skip); (first | simp only [add_plain] at hx340_2 | skip); obtain ⟨ce22, hcl22, hM22, hcc22, hfr22⟩ := Kd.R_elem HO_7.out z77 (x8_1 : Int) p22 q22; obtain rfl := k77_openM hM22; have hx22_0 : wc.cell? ⟨go22, (x8_1 : Int).toNat * 3, none⟩ = some (.int .i64 ((rd_T77 x7_1 x8_1).f0)) := hcc22 0 _ rfl; have hx22_1 : wc.cell? ⟨go22, (x8_1 : Int).toNat * 3 + 1, none⟩ = some (.int .i64 ((rd_T77 x7_1 x8_1).f1)) := hcc22 1 _ rfl; have hx22_2 : wc.cell? ⟨go22, (x8_1 : Int).toNat * 3 + 2, none⟩ = some (.int .i64 ((rd_T77 x7_1 x8_1).f2)) := hcc22 2 _ rfl; have hf22_0 : wc.frozen? ⟨go22, (x8_1 : Int).toNat * 3, none⟩ = false := hfr22 0; have hf22_1 : wc.frozen? ⟨go22, (x8_1 : Int).toNat * 3 + 1, none⟩ = false := hfr22 1; have hf22_2 : wc.frozen? ⟨go22, (x8_1 : Int).toNat * 3 + 2, none⟩ = false := hfr22 2; clear hcl22 hcc22 hfr22; (try clear hM22); replace p22 := eq_true p22; replace q22 := eq_true q22; have HX24 := AM_ (show Kd.R k77 77 wc w.heap.size (fun _ => True) (.slice (some ⟨go22, 0, none⟩) x7_1.length co23) x7_1 from (by exact RL HO_7.out rfl)); obtain ⟨ce24, hcl24, hM24, hcc24, hfr24⟩ := Kd.R_elem HX24.out z77 (x8_1 : Int) (of_decide_eq_true (by first | (with_reducible assumption) | assumption)) (by have h_ : (x8_1 : Int) < ((x7_1.length : Int) : Int) := of_decide_eq_true (by first | (with_reducible assumption) | assumption); first | exact h_ | (have e_ := (Kd.R_reads' HO_7.out).1; omega) | simpa using h_); obtain rfl := k77_openM hM24; have HP24 := Kd.R_seg HX24.out (x8_1 : Int) (of_decide_eq_true (by first | (with_reducible assumption) | assumption)) (by have h_ : (x8_1 : Int) < ((x7_1.length : Int) : Int) := of_decide_eq_true (by first | (with_reducible assumption) | assumption); first | exact h_ | (have e_ := (Kd.R_reads' HO_7.out).1; omega) | simpa using h_) (seg := [.int .i64 ji21]) (j := 2) hcl24 hcc24 (show 3 ≤ 3 from by decide) (x' := (⟨(rd_T77 x7_1 x8_1).f0, (rd_T77 x7_1 x8_1).f1, ji21⟩ : S77)) (k77_mkM _ _ _ (⟨(rd_T77 x7_1 x8_1).f0, (rd_T77 x7_1 x8_1).f1, ji21⟩ : S77) ) (fun _ hk => hk); have hx24_2 := hcc24 2 _ rfl; (try simp only [show (k77).sz = 3 from rfl, Nat.mul_one, Nat.add_zero] at hx24_2); have hf24_2 := hfr24 2; (try simp only [show (k77).sz = 3 from rfl, Nat.mul_one, Nat.add_zero] at hf24_2); clear hcl24 hcc24 hfr24; (try clear hM24)) | ((with_reducible refine gate_store (t := 3) (p := 47) rfl ?_); (try (rw [drewN_self wc]; generalize hq_ : World.drewN wc _ = wc; have n0_ := AM_ (Kd.R_at hq_ HO_7.out); have n1_ := AM_ (below_at hq_ HB.out); clear hq_ HO_7 HB; have HO_7 := n0_; have HB := n1_; clear n0_ n1_; (try (have HX24 := AM_ (show Kd.R k77 77 wc w.heap.size (fun _ => True) (.slice (some ⟨go22, 0, none⟩) x7_1.length co23) x7_1 from (by exact RL HO_7.out rfl)))); (try (obtain ⟨ce24, hcl24, hM24, hcc24, hfr24⟩ := Kd.R_elem HX24.out z77 (x8_1 : Int) (of_decide_eq_true (by first | (with_reducible assumption) | assumption)) (by have h_ : (x8_1 : Int) < ((x7_1.length : Int) : Int) := of_decide_eq_true (by first | (with_reducible assumption) | assumption); first | exact h_ | (have e_ := (Kd.R_reads' HO_7.out).1; omega) | simpa using h_))); (try (obtain rfl := k77_openM hM24)); (try (have HP24 := Kd.R_seg HX24.out (x8_1 : Int) (of_decide_eq_true (by first | (with_reducible assumption) | assumption)) (by have h_ : (x8_1 : Int) < ((x7_1.length : Int) : Int) := of_decide_eq_true (by first | (with_reducible assumption) | assumption); first | exact h_ | (have e_ := (Kd.R_reads' HO_7.out).1; omega) | simpa using h_) (seg := [.int .i64 ji21]) (j := 2) hcl24 hcc24 (show 3 ≤ 3 from by decide) (x' := (⟨(rd_T77 x7_1 x8_1).f0, (rd_T77 x7_1 x8_1).f1, ji21⟩ : S77)) (k77_mkM _ _ _ (⟨(rd_T77 x7_1 x8_1).f0, (rd_T77 x7_1 x8_1).f1, ji21⟩ : S77) ) (fun _ hk => hk))); (try (have hx24_2 := hcc24 2 _ rfl)); (try (try simp only [show (k77).sz = 3 from rfl, Nat.mul_one, Nat.add_zero] at hx24_2)); (try (have hf24_2 := hfr24 2)); (try (try simp only [show (k77).sz = 3 from rfl, Nat.mul_one, Nat.add_zero] at hf24_2)); (try (clear hcl24 hcc24 hfr24; (try clear hM24))))); refine store_event (t := 3) (p := 47) (v := ?vo_w25) (w1 := (wc.setCell ⟨go22, (x8_1 : Int).toNat * 3 + 2, none⟩ (.int .i64 ji21))) ?hg ?ho ?hn ?hr ?_; (case ho => rfl); (case hg => rfl); (case hn => rfl); (case hr => first | (go_simp; done) | (go_simp; rfl)); intro w25 hw; have hg : wc.grownBy w25 (some go22) := (by rw [hw]; exact HP24.2); have hp_ : Kd.R k77 77 w25 w.heap.size (fun _ => True) (.slice (some ⟨go22, 0, none⟩) x7_1.length co23) y341 := (by rw [hw, Ny341.out]; exact HP24.1); clear HP24; have n0_ := AM_ (hp_); have n1_ := AM_ ((by rw [hw]; exact below_set (HB.out) GB22.out : Below w.heap.size w w25)); clear HO_7; clear HB; have HO_7 := n0_; have HB := n1_; clear n0_ n1_; clear hg hw hp_)))
     go_roundg kj5
     case measure => have := HK1.out; have := HJ5.out; omega
     case rel => exact ⟨(y341), (wrap64 (x8_1 + 1)), (by first | rfl | (simp; done) | (simp [*]; done)), H', ⟨by have := HK1.out; have := HJ5.out; omega⟩, ⟨by exact RL HO_7.out rfl⟩, ⟨by exact BL HB.out rfl rfl rfl rfl⟩⟩

end Go.Proofs.Ytpiaeinfneoioaa.PFnPhantoms
