-- Printed by a program of mine (wip/myprint.py), which runs the printer of the kit with contracts of mine beside it.
import Derived.Test.YtpiaeinfneoioaaPFnPhantomsx0
import Derived.Test.YtpiaeinfneoioaaPFnPhantomsx2
namespace Go.Proofs.Ytpiaeinfneoioaa.PFnPhantoms
open Go.RowKit Go.Proofs.YtpiaeinfneoioaaW.PrintWords Go.Proofs.YtpiaeinfneoioaaW.PrintLast Go.Proofs.YtpiaeinfneoioaaW.PrintMore
attribute [local go_sem] max2_int min2_int max_two min_two max_three min_three max_four min_four   -- for this text's walks alone
set_option linter.unusedVariables false
set_option linter.unusedSimpArgs false

/-! ### spec_l3Chain: function 211 -/
def spec_l3Chain.l0 : Nat → List (S160) → Int → Int → List Int → Int → Int → Option ((List (S160)) × Int × Int)
 | 0, _, _, _, _, _, _ => none
 | k + 1, x3, x4, x5, x1000, x1001, x1002 => if x5 > 0 then (if 0 ≤ (wrap64 ((x3.length : Int) - 1)) then (if (wrap64 ((x3.length : Int) - 1)) < (x3.length : Int) then ((spec_l1Below.f x1000 x1001 x1002 3).bind fun bt131 => ((some (x3.set ((wrap64 ((x3.length : Int) - 1)) : Int).toNat (⟨(rd_T160 x3 (wrap64 ((x3.length : Int) - 1))).f0, (rd_T160 x3 (wrap64 ((x3.length : Int) - 1))).f1, (rd_T160 x3 (wrap64 ((x3.length : Int) - 1))).f2, wrap64 (((rd_T160 x3 (wrap64 ((x3.length : Int) - 1))).f2) + bt131.1), (rd_T160 x3 (wrap64 ((x3.length : Int) - 1))).f4⟩ : S160) : List (S160))).bind fun y134 => ((spec_l1Below.f x1000 bt131.2.1 bt131.2.2 2).bind fun bt136 => ((spec_l1Below.f x1000 bt136.2.1 bt136.2.2 4).bind fun bt139 => ((some (y134.set ((wrap64 ((x3.length : Int) - 1)) : Int).toNat (⟨(rd_T160 y134 (wrap64 ((x3.length : Int) - 1))).f0, (rd_T160 y134 (wrap64 ((x3.length : Int) - 1))).f1, (rd_T160 y134 (wrap64 ((x3.length : Int) - 1))).f2, (rd_T160 y134 (wrap64 ((x3.length : Int) - 1))).f3, mx 1 (wrap64 ((wrap64 ((wrap64 ((mx x4 ((rd_T160 y134 (wrap64 ((x3.length : Int) - 1))).f3)) + 1)) + bt136.1)) - bt139.1))⟩ : S160) : List (S160))).bind fun y142 => ((spec_l1Below.f x1000 bt139.2.1 bt139.2.2 9).bind fun bt143 => ((spec_l1PickInt.f x1000 bt143.2.1 bt143.2.2 (([(-1), 0, 5, 7, 42, 99] : List Int))).bind fun bt149 => (if y142.length < 3518437208883 then (spec_l3Chain.l0 k (y142 ++ [(⟨wrap64 (1 + bt143.1), bt149.1, wrap64 ((wrap64 ((mx x4 ((rd_T160 y134 (wrap64 ((x3.length : Int) - 1))).f3)) + 1)) + bt136.1), wrap64 ((wrap64 ((mx x4 ((rd_T160 y134 (wrap64 ((x3.length : Int) - 1))).f3)) + 1)) + bt136.1), 1000⟩ : S160)]) (wrap64 ((wrap64 ((mx x4 ((rd_T160 y134 (wrap64 ((x3.length : Int) - 1))).f3)) + 1)) + bt136.1)) (wrap64 (x5 - 1)) x1000 bt149.2.1 bt149.2.2) else (none))))))))) else (none)) else (none)) else (some (x3, x1001, x1002))
def spec_l3Chain.f (k : Nat) (s0_0 : List Int) (s0_1 : Int) (s0_2 : Int) : Option ((List (S160)) × Int × Int) := (spec_l1Below.f s0_0 s0_1 s0_2 5).bind fun bt127 => (spec_l3Chain.l0 k (([(⟨0, (-1), 0, 0, 1000⟩ : S160)] : List (S160))) 0 bt127.1 s0_0 bt127.2.1 bt127.2.2)
theorem spec_l3Chain.mono_l : ∀ k, (∀ y0 y1 y2 y3 y4 y5, LeO (spec_l3Chain.l0 k y0 y1 y2 y3 y4 y5) (spec_l3Chain.l0 (k + 1) y0 y1 y2 y3 y4 y5))
 | 0 => fun _ _ _ _ _ _ r h => by simp [spec_l3Chain.l0] at h
 | k + 1 => by
  have ih0 := spec_l3Chain.mono_l k
  ·intro y0 y1 y2 y3 y4 y5
   unfold spec_l3Chain.l0
   repeat' first
   | (with_reducible exact ih0 _ _ _ _ _ _)
   | (with_reducible exact LeO.refl _)
   | (with_reducible exact LeO.none _)
   | (with_reducible refine LeO.ite ?_ ?_)
   | (with_reducible refine LeO.bind ?_ (fun _ => ?_))
   | exact ih0 _ _ _ _ _ _
   | exact LeO.none _
   | refine LeO.ite ?_ ?_
   | refine LeO.bind ?_ (fun _ => ?_)
theorem spec_l3Chain.mono : ∀ a0 a1 a2 k, LeO (spec_l3Chain.f k a0 a1 a2) (spec_l3Chain.f (k + 1) a0 a1 a2) := by
 intro a0 a1 a2 k
 have ih0 := spec_l3Chain.mono_l k
 unfold spec_l3Chain.f
 repeat' first
   | (with_reducible exact ih0 _ _ _ _ _ _)
   | (with_reducible exact LeO.refl _)
   | (with_reducible exact LeO.none _)
   | (with_reducible refine LeO.ite ?_ ?_)
   | (with_reducible refine LeO.bind ?_ (fun _ => ?_))
   | exact ih0 _ _ _ _ _ _
   | exact LeO.none _
   | refine LeO.ite ?_ ?_
   | refine LeO.bind ?_ (fun _ => ?_)
def spec_l3Chain.T7 : Bool × List (List Nat × List Nat) := (true, [([], []), ([], []), ([], []), ([], []), ([2, 3], [2, 3]), ([4], [4]), ([5], [5]), ([], []), ([7], [7]), ([6, 8], [6, 8]), ([0, 1, 0, 1, 2, 3, 4, 5, 6, 7, 8, 9], [0, 1]), ([10, 0, 1, 2, 3, 4, 5, 6, 7, 8, 9], [10]), ([11, 9, 8, 0, 1, 2, 3, 4, 5, 6, 7, 8, 9], [9, 11])])
def spec_l3Chain.B7 : List Nat := [0, 0, 0, 0, 12, 28, 60, 0, 128, 508, 1023, 2047, 4095]
theorem spec_l3Chain.tab7 : rtab .any (opsOf Try.f211 7) = spec_l3Chain.T7 := by kernel_rfl
theorem spec_l3Chain.bits7 : waitsOk spec_l3Chain.T7.2 spec_l3Chain.B7 = true := by kernel_rfl
def spec_l3Chain.T8 : Bool × List (List Nat × List Nat) := (true, [([], []), ([], []), ([], []), ([1, 2], [1, 2]), ([3], [3]), ([4], [4]), ([0, 5], [0, 5]), ([6], [6]), ([], []), ([8], [8]), ([7, 9], [7, 9]), ([10, 9, 0, 1, 2, 3, 4, 5, 6, 7, 8, 9, 10], [0, 10])])
def spec_l3Chain.B8 : List Nat := [0, 0, 0, 6, 14, 30, 63, 127, 0, 256, 1023, 2047]
theorem spec_l3Chain.tab8 : rtab .any (opsOf Try.f211 8) = spec_l3Chain.T8 := by kernel_rfl
theorem spec_l3Chain.bits8 : waitsOk spec_l3Chain.T8.2 spec_l3Chain.B8 = true := by kernel_rfl
set_option maxHeartbeats 8000000 in
set_option maxRecDepth 100000 in
theorem spec_l3Chain.calls (k : Nat) (g : Nat) (s0_0 : List Int) (s0_1 : Int) (s0_2 : Int) (r1 : List (S160)) (r2 : Int) (r3 : Int) (w0 w : World) (hI : IsS202 w0 w g s0_0 s0_1 s0_2) (hB : Below w0.heap.size w0 w) (h : spec_l3Chain.f k s0_0 s0_1 s0_2 = some (r1, r2, r3)) :
  Calls Try.prog 211 #[.pointer (some ⟨g, 0, none⟩)] w fun e w' => ∃ v0_ : Value, e = .returned (v0_) ∧ Kd.R k160 160 w' w.heap.size (fun _ => True) v0_ r1 ∧ IsS202 w0 w' g s0_0 r2 r3 ∧ Below w0.heap.size w0 w' ∧ KeepBut w w' g none := by
 have hu160 := Try.underlying160
 have HI0 := AM_ hI
 have HK := AM_ (KeepBut.refl w g none)
 have HL := AM_ hB.size
 clear hI
 have HW0 := AM_ hB.size
 have HB := AM_ hB
 clear hB
 have H : ((spec_l1Below.f s0_0 s0_1 s0_2 5).bind fun bt127 => (spec_l3Chain.l0 k (([(⟨0, (-1), 0, 0, 1000⟩ : S160)] : List (S160))) 0 bt127.1 s0_0 bt127.2.1 bt127.2.2)) = some (r1, r2, r3) := h
 clear h
 obtain ⟨y124, hy124⟩ : ∃ y_ : List (S160), y_ = (([(⟨0, (-1), 0, 0, 1000⟩ : S160)] : List (S160))) := ⟨_, rfl⟩
 replace H : ((spec_l1Below.f s0_0 s0_1 s0_2 5).bind fun bt127 => (spec_l3Chain.l0 k y124 0 bt127.1 s0_0 bt127.2.1 bt127.2.2)) = some (r1, r2, r3) := by first | (rw [hy124]; with_reducible exact H) | (have H2_ := (Option.bind_some _ _).symm.trans H; rw [hy124]; with_reducible exact H2_) | (have H2_ := (Option.bind_some _ _).symm.trans H; with_reducible exact H2_) | with_reducible exact H | (rw [hy124]; exact H) | exact H
 have Ny124 := AM_ hy124
 clear hy124
 replace H := Option.bind_eq_some_iff.mp H
 obtain ⟨⟨t127, t128, t129⟩, A20, H⟩ := H
 replace H : (spec_l3Chain.l0 k y124 0 t127 s0_0 t128 t129) = some (r1, r2, r3) := H
 have A2 := AM_ A20
 clear A20
 have H' := AM_ H
 clear H
 go_enter Try.func211, Try.ntmps211
 go_wp2_with (first | ((with_reducible refine gate_dst (N := 8) rfl ?_); refine Kd.R_lit k160 _ 160 ?hg (N := 8) ?hd (xs := ([(⟨0, (-1), 0, 0, 1000⟩ : S160)] : List (S160))) (inner := [.int .i64 0, .int .i64 (-1), .int .i64 0, .int .i64 0, .int .i64 1000]) (ok := fun _ => True) (okp := fun _ => True) ?hr ?hp (fun _ hk => hk) trivial (Below.refl _ _) (Nat.le_refl _) (by simp) ?_; (case hd => rfl); (case hg => rfl); (case hr => first | (go_simp; done) | (go_simp; rfl)); (case hp => exact (Reps.c5 (show Kd.M k160 _ _ _ (⟨0, (-1), 0, 0, 1000⟩ : S160) [.int .i64 0, .int .i64 (-1), .int .i64 0, .int .i64 0, .int .i64 1000] from (k160_mkM _ _ _ (⟨0, (-1), 0, 0, 1000⟩ : S160) )) (Reps.none _ _))); intro v125 w3 ho4 hb hg_ hnew_; clear hg_ hnew_; (first | rw [← Ny124.out] at ho4 | (simp only [Int.reduceToNat] at ho4; rw [← Ny124.out] at ho4)); have n0_ := AM_ (Kd.R_lower ho4 (keep_size (w := w) (g := g) (row := none) (by repeat (first | (with_reducible first | exact HK.out | apply KeepBut.set_ | apply keep_drewN | apply keep_drew | apply keep_alloc) | exact HK.out)))); have n1_ := AM_ (IsS202.below (by repeat (first | (with_reducible first | exact HI0.out | apply IsS202.alloc | apply IsS202.drewN | apply IsS202.drew | apply IsS202.set_1 | apply IsS202.set_2) | exact HI0.out)) hb); have n2_ := AM_ (KeepBut.trans (by repeat (first | (with_reducible first | exact HK.out | apply KeepBut.set_ | apply keep_drewN | apply keep_drew | apply keep_alloc) | exact HK.out)) (KeepBut.of_below hb g none) (.inl rfl)); have n3_ := AM_ (below_step (by repeat (first | (with_reducible first | exact HB.out | apply below_alloc | apply pw_below_drewN | apply below_drew1 | refine below_set ?_ (IsS202.ge HI0.out)) | exact HB.out)) hb); clear HI0; clear HK; clear HB; have HO126 := n0_; have HI0 := n1_; have HK := n2_; have HB := n3_; clear n0_ n1_ n2_ n3_; clear hb ho4) | ((with_reducible refine gate_callee (f := 106) rfl ?_); refine goesL_ (some 10) rfl rfl Try.func106 (by kernel_rfl) rfl #[.pointer (some ⟨g, 0, none⟩), .int .i64 5] rfl (by (try simp only [List.map_toArray, List.map_cons, List.map_nil]); first | done | rfl | (simp only [List.length_drop, List.length_take]; rfl)) ?_; (with_reducible refine (spec_l1Below.calls g s0_0 s0_1 s0_2 5 t127 t128 t129 w0 _ ?side1 ?side2 A2.out).mono ?_); (case side1 => repeat (first | (with_reducible first | exact HI0.out | apply IsS202.alloc | apply IsS202.drewN | apply IsS202.drew | apply IsS202.set_1 | apply IsS202.set_2) | exact HI0.out)); (case side2 => repeat (first | (with_reducible first | exact HB.out | apply below_alloc | apply pw_below_drewN | apply below_drew1 | refine below_set ?_ (IsS202.ge HI0.out)) | exact HB.out)); rintro e w5 ⟨rfl, hi, hb, hk⟩; refine ⟨_, rfl, ?_⟩; have n0_ := AM_ (Kd.R_mono (Kd.R_keep (IsS202.apart (show IsS202 w0 _ g s0_0 s0_1 s0_2 from by repeat (first | (with_reducible first | exact HI0.out | apply IsS202.alloc | apply IsS202.drewN | apply IsS202.drew | apply IsS202.set_1 | apply IsS202.set_2) | exact HI0.out)) (by exact RL HO126.out rfl) (by decide)) hk (fun _ h => h.2)) (fun _ h => h.1)); have n1_ := AM_ (KeepBut.trans (by repeat (first | (with_reducible first | exact HK.out | apply KeepBut.set_ | apply keep_drewN | apply keep_drew | apply keep_alloc) | exact HK.out)) hk (.inl rfl)); have n2_ := AM_ (hb); have n3_ := AM_ (hi); clear HO126; clear HK; clear HB; clear HI0; have HO126 := n0_; have HK := n1_; have HB := n2_; have HI0 := n3_; clear n0_ n1_ n2_ n3_; (try clear hb); (try clear hb2); (try clear hk); (try clear hi)))
 go_loopg [3, 4, 5] k (fun kq v3 v4 v5 w' => ∃ (x3_1 : List (S160)) (x4_1 : Int) (x5_1 : Int) (x1001_1 : Int) (x1002_1 : Int), v4 = .int .i64 x4_1 ∧ v5 = .int .i64 x5_1 ∧ Aside0 (spec_l3Chain.l0 kq x3_1 x4_1 x5_1 s0_0 x1001_1 x1002_1 = some (r1, r2, r3)) ∧ Aside0 (kq ≤ k) ∧ Aside0 (Kd.R k160 160 w' w.heap.size (fun _ => True) v3 x3_1) ∧ Aside0 (IsS202 w0 w' g s0_0 x1001_1 x1002_1) ∧ Aside0 (KeepBut w w' g none) ∧ Aside0 (Below w0.heap.size w0 w'))
 case atStart => exact ⟨(y124), (0), (t127), (t128), (t129), (by first | rfl | (simp; done) | (simp [*]; done)), (by first | rfl | (simp; done) | (simp [*]; done)), H', ⟨Nat.le_refl _⟩, ⟨by exact RL HO126.out rfl⟩, ⟨by repeat (first | (with_reducible first | exact HI0.out | apply IsS202.alloc | apply IsS202.drewN | apply IsS202.drew | apply IsS202.set_1 | apply IsS202.set_2) | exact HI0.out)⟩, ⟨by repeat (first | (with_reducible first | exact HK.out | apply KeepBut.set_ | apply keep_drewN | apply keep_drew | apply keep_alloc) | exact HK.out)⟩, ⟨by repeat (first | (with_reducible first | exact HB.out | apply below_alloc | apply pw_below_drewN | apply below_drew1 | refine below_set ?_ (IsS202.ge HI0.out)) | exact HB.out)⟩⟩
 case round =>
  clear H'
  try clear c1
  try clear c2
  try clear p2
  try clear c5
  obtain ⟨x3_1, x4_1, x5_1, x1001_1, x1002_1, rfl, rfl, HA, HK1, HO_3, HI0, HK, HB⟩ := hrel
  cases gk with
  | zero => exact absurd HA.out (by simp [spec_l3Chain.l0])
  | succ k1 =>
   have H := HA.out
   clear HA
   simp only [spec_l3Chain.l0] at H
   by_cases c6 : x5_1 > 0
   rotate_left
   ·rw [if_neg c6] at H
    have c6b0 : decide (0 < x5_1) = false := decide_eq_false c6
    clear c6
    simp only [Option.some.injEq, Prod.mk.injEq] at H
    obtain ⟨rfl, rfl, rfl⟩ := H
    go_wp2
    go_ret
    exact ⟨_, by first | rfl | (simp [errW_none, errW_some] <;> rfl) | (simp [*, errW_none, errW_some] <;> rfl), by exact RL HO_3.out rfl, by repeat (first | (with_reducible first | exact HI0.out | apply IsS202.alloc | apply IsS202.drewN | apply IsS202.drew | apply IsS202.set_1 | apply IsS202.set_2) | exact HI0.out), by repeat (first | (with_reducible first | exact HB.out | apply below_alloc | apply pw_below_drewN | apply below_drew1 | refine below_set ?_ (IsS202.ge HI0.out)) | exact HB.out), by repeat (first | (with_reducible first | exact HK.out | apply KeepBut.set_ | apply keep_drewN | apply keep_drew | apply keep_alloc) | exact HK.out)⟩
   rw [if_pos c6] at H
   have c6b0 : decide (0 < x5_1) = true := decide_eq_true c6
   clear c6
   obtain ⟨ji7, hji7⟩ : ∃ j_ : Int, (wrap64 ((x3_1.length : Int) - 1)) = j_ := ⟨_, rfl⟩
   replace H : (if 0 ≤ (ji7) then (if (ji7) < (x3_1.length : Int) then ((spec_l1Below.f s0_0 x1001_1 x1002_1 3).bind fun bt131 => ((some (x3_1.set ((ji7) : Int).toNat (⟨(rd_T160 x3_1 (ji7)).f0, (rd_T160 x3_1 (ji7)).f1, (rd_T160 x3_1 (ji7)).f2, wrap64 (((rd_T160 x3_1 (ji7)).f2) + bt131.1), (rd_T160 x3_1 (ji7)).f4⟩ : S160) : List (S160))).bind fun y134 => ((spec_l1Below.f s0_0 bt131.2.1 bt131.2.2 2).bind fun bt136 => ((spec_l1Below.f s0_0 bt136.2.1 bt136.2.2 4).bind fun bt139 => ((some (y134.set ((ji7) : Int).toNat (⟨(rd_T160 y134 (ji7)).f0, (rd_T160 y134 (ji7)).f1, (rd_T160 y134 (ji7)).f2, (rd_T160 y134 (ji7)).f3, mx 1 (wrap64 ((wrap64 ((wrap64 ((mx x4_1 ((rd_T160 y134 (ji7)).f3)) + 1)) + bt136.1)) - bt139.1))⟩ : S160) : List (S160))).bind fun y142 => ((spec_l1Below.f s0_0 bt139.2.1 bt139.2.2 9).bind fun bt143 => ((spec_l1PickInt.f s0_0 bt143.2.1 bt143.2.2 (([(-1), 0, 5, 7, 42, 99] : List Int))).bind fun bt149 => (if y142.length < 3518437208883 then (spec_l3Chain.l0 k1 (y142 ++ [(⟨wrap64 (1 + bt143.1), bt149.1, wrap64 ((wrap64 ((mx x4_1 ((rd_T160 y134 (ji7)).f3)) + 1)) + bt136.1), wrap64 ((wrap64 ((mx x4_1 ((rd_T160 y134 (ji7)).f3)) + 1)) + bt136.1), 1000⟩ : S160)]) (wrap64 ((wrap64 ((mx x4_1 ((rd_T160 y134 (ji7)).f3)) + 1)) + bt136.1)) (wrap64 (x5_1 - 1)) s0_0 bt149.2.1 bt149.2.2) else (none))))))))) else (none)) else (none)) = some (r1, r2, r3) := by first | (rw [hji7] at H; exact H) | (simp only [hji7] at H ⊢; exact H)
   have hji7w : (IntKind.i64.wrap ((x3_1.length : Int) - 1)) = ji7 := (i64_w _).trans hji7
   by_cases c8 : 0 ≤ (ji7)
   rotate_left
   ·rw [if_neg c8] at H
    exact absurd H (by simp)
   rw [if_pos c8] at H
   have c8b0 : decide (0 ≤ (ji7)) = true := decide_eq_true c8
   clear c8
   by_cases c9 : (ji7) < (x3_1.length : Int)
   rotate_left
   ·rw [if_neg c9] at H
    exact absurd H (by simp)
   rw [if_pos c9] at H
   have c9b0 : decide ((ji7) < (x3_1.length : Int)) = true := decide_eq_true c9
   clear c9
   replace H := Option.bind_eq_some_iff.mp H
   obtain ⟨⟨t131, t132, t133⟩, A100, H⟩ := H
   replace H : ((some (x3_1.set ((ji7) : Int).toNat (⟨(rd_T160 x3_1 (ji7)).f0, (rd_T160 x3_1 (ji7)).f1, (rd_T160 x3_1 (ji7)).f2, wrap64 (((rd_T160 x3_1 (ji7)).f2) + t131), (rd_T160 x3_1 (ji7)).f4⟩ : S160) : List (S160))).bind fun y134 => ((spec_l1Below.f s0_0 t132 t133 2).bind fun bt136 => ((spec_l1Below.f s0_0 bt136.2.1 bt136.2.2 4).bind fun bt139 => ((some (y134.set ((ji7) : Int).toNat (⟨(rd_T160 y134 (ji7)).f0, (rd_T160 y134 (ji7)).f1, (rd_T160 y134 (ji7)).f2, (rd_T160 y134 (ji7)).f3, mx 1 (wrap64 ((wrap64 ((wrap64 ((mx x4_1 ((rd_T160 y134 (ji7)).f3)) + 1)) + bt136.1)) - bt139.1))⟩ : S160) : List (S160))).bind fun y142 => ((spec_l1Below.f s0_0 bt139.2.1 bt139.2.2 9).bind fun bt143 => ((spec_l1PickInt.f s0_0 bt143.2.1 bt143.2.2 (([(-1), 0, 5, 7, 42, 99] : List Int))).bind fun bt149 => (if y142.length < 3518437208883 then (spec_l3Chain.l0 k1 (y142 ++ [(⟨wrap64 (1 + bt143.1), bt149.1, wrap64 ((wrap64 ((mx x4_1 ((rd_T160 y134 (ji7)).f3)) + 1)) + bt136.1), wrap64 ((wrap64 ((mx x4_1 ((rd_T160 y134 (ji7)).f3)) + 1)) + bt136.1), 1000⟩ : S160)]) (wrap64 ((wrap64 ((mx x4_1 ((rd_T160 y134 (ji7)).f3)) + 1)) + bt136.1)) (wrap64 (x5_1 - 1)) s0_0 bt149.2.1 bt149.2.2) else (none)))))))) = some (r1, r2, r3) := H
   have A10 := AM_ A100
   clear A100
   obtain ⟨y134, hy134⟩ : ∃ y_ : List (S160), y_ = (x3_1.set ((ji7) : Int).toNat (⟨(rd_T160 x3_1 (ji7)).f0, (rd_T160 x3_1 (ji7)).f1, (rd_T160 x3_1 (ji7)).f2, wrap64 (((rd_T160 x3_1 (ji7)).f2) + t131), (rd_T160 x3_1 (ji7)).f4⟩ : S160)) := ⟨_, rfl⟩
   replace H : ((spec_l1Below.f s0_0 t132 t133 2).bind fun bt136 => ((spec_l1Below.f s0_0 bt136.2.1 bt136.2.2 4).bind fun bt139 => ((some (y134.set ((ji7) : Int).toNat (⟨(rd_T160 y134 (ji7)).f0, (rd_T160 y134 (ji7)).f1, (rd_T160 y134 (ji7)).f2, (rd_T160 y134 (ji7)).f3, mx 1 (wrap64 ((wrap64 ((wrap64 ((mx x4_1 ((rd_T160 y134 (ji7)).f3)) + 1)) + bt136.1)) - bt139.1))⟩ : S160) : List (S160))).bind fun y142 => ((spec_l1Below.f s0_0 bt139.2.1 bt139.2.2 9).bind fun bt143 => ((spec_l1PickInt.f s0_0 bt143.2.1 bt143.2.2 (([(-1), 0, 5, 7, 42, 99] : List Int))).bind fun bt149 => (if y142.length < 3518437208883 then (spec_l3Chain.l0 k1 (y142 ++ [(⟨wrap64 (1 + bt143.1), bt149.1, wrap64 ((wrap64 ((mx x4_1 ((rd_T160 y134 (ji7)).f3)) + 1)) + bt136.1), wrap64 ((wrap64 ((mx x4_1 ((rd_T160 y134 (ji7)).f3)) + 1)) + bt136.1), 1000⟩ : S160)]) (wrap64 ((wrap64 ((mx x4_1 ((rd_T160 y134 (ji7)).f3)) + 1)) + bt136.1)) (wrap64 (x5_1 - 1)) s0_0 bt149.2.1 bt149.2.2) else (none))))))) = some (r1, r2, r3) := by first | (rw [hy134]; with_reducible exact H) | (have H2_ := (Option.bind_some _ _).symm.trans H; rw [hy134]; with_reducible exact H2_) | (have H2_ := (Option.bind_some _ _).symm.trans H; with_reducible exact H2_) | with_reducible exact H | (rw [hy134]; exact H) | exact H
   have Ny134 := AM_ hy134
   clear hy134
   obtain ⟨ji12, hji12⟩ : ∃ j_ : Int, (mx x4_1 ((rd_T160 y134 (ji7)).f3)) = j_ := ⟨_, rfl⟩
   replace H : ((spec_l1Below.f s0_0 t132 t133 2).bind fun bt136 => ((spec_l1Below.f s0_0 bt136.2.1 bt136.2.2 4).bind fun bt139 => ((some (y134.set ((ji7) : Int).toNat (⟨(rd_T160 y134 (ji7)).f0, (rd_T160 y134 (ji7)).f1, (rd_T160 y134 (ji7)).f2, (rd_T160 y134 (ji7)).f3, mx 1 (wrap64 ((wrap64 ((wrap64 ((ji12) + 1)) + bt136.1)) - bt139.1))⟩ : S160) : List (S160))).bind fun y142 => ((spec_l1Below.f s0_0 bt139.2.1 bt139.2.2 9).bind fun bt143 => ((spec_l1PickInt.f s0_0 bt143.2.1 bt143.2.2 (([(-1), 0, 5, 7, 42, 99] : List Int))).bind fun bt149 => (if y142.length < 3518437208883 then (spec_l3Chain.l0 k1 (y142 ++ [(⟨wrap64 (1 + bt143.1), bt149.1, wrap64 ((wrap64 ((ji12) + 1)) + bt136.1), wrap64 ((wrap64 ((ji12) + 1)) + bt136.1), 1000⟩ : S160)]) (wrap64 ((wrap64 ((ji12) + 1)) + bt136.1)) (wrap64 (x5_1 - 1)) s0_0 bt149.2.1 bt149.2.2) else (none))))))) = some (r1, r2, r3) := by first | (rw [hji12] at H; exact H) | (simp only [hji12] at H ⊢; exact H)
   (try rw [hji12] at A10)
   have hji12_ : (if x4_1 < ((rd_T160 y134 (ji7)).f3) then ((rd_T160 y134 (ji7)).f3) else x4_1) = ji12 := hji12
   replace H := Option.bind_eq_some_iff.mp H
   obtain ⟨⟨t136, t137, t138⟩, A130, H⟩ := H
   replace H : ((spec_l1Below.f s0_0 t137 t138 4).bind fun bt139 => ((some (y134.set ((ji7) : Int).toNat (⟨(rd_T160 y134 (ji7)).f0, (rd_T160 y134 (ji7)).f1, (rd_T160 y134 (ji7)).f2, (rd_T160 y134 (ji7)).f3, mx 1 (wrap64 ((wrap64 ((wrap64 ((ji12) + 1)) + t136)) - bt139.1))⟩ : S160) : List (S160))).bind fun y142 => ((spec_l1Below.f s0_0 bt139.2.1 bt139.2.2 9).bind fun bt143 => ((spec_l1PickInt.f s0_0 bt143.2.1 bt143.2.2 (([(-1), 0, 5, 7, 42, 99] : List Int))).bind fun bt149 => (if y142.length < 3518437208883 then (spec_l3Chain.l0 k1 (y142 ++ [(⟨wrap64 (1 + bt143.1), bt149.1, wrap64 ((wrap64 ((ji12) + 1)) + t136), wrap64 ((wrap64 ((ji12) + 1)) + t136), 1000⟩ : S160)]) (wrap64 ((wrap64 ((ji12) + 1)) + t136)) (wrap64 (x5_1 - 1)) s0_0 bt149.2.1 bt149.2.2) else (none)))))) = some (r1, r2, r3) := H
   have A13 := AM_ A130
   clear A130
   replace H := Option.bind_eq_some_iff.mp H
   obtain ⟨⟨t139, t140, t141⟩, A140, H⟩ := H
   replace H : ((some (y134.set ((ji7) : Int).toNat (⟨(rd_T160 y134 (ji7)).f0, (rd_T160 y134 (ji7)).f1, (rd_T160 y134 (ji7)).f2, (rd_T160 y134 (ji7)).f3, mx 1 (wrap64 ((wrap64 ((wrap64 ((ji12) + 1)) + t136)) - t139))⟩ : S160) : List (S160))).bind fun y142 => ((spec_l1Below.f s0_0 t140 t141 9).bind fun bt143 => ((spec_l1PickInt.f s0_0 bt143.2.1 bt143.2.2 (([(-1), 0, 5, 7, 42, 99] : List Int))).bind fun bt149 => (if y142.length < 3518437208883 then (spec_l3Chain.l0 k1 (y142 ++ [(⟨wrap64 (1 + bt143.1), bt149.1, wrap64 ((wrap64 ((ji12) + 1)) + t136), wrap64 ((wrap64 ((ji12) + 1)) + t136), 1000⟩ : S160)]) (wrap64 ((wrap64 ((ji12) + 1)) + t136)) (wrap64 (x5_1 - 1)) s0_0 bt149.2.1 bt149.2.2) else (none))))) = some (r1, r2, r3) := H
   have A14 := AM_ A140
   clear A140
   obtain ⟨ji15, hji15⟩ : ∃ j_ : Int, (mx 1 (wrap64 ((wrap64 ((wrap64 ((ji12) + 1)) + t136)) - t139))) = j_ := ⟨_, rfl⟩
   replace H : ((some (y134.set ((ji7) : Int).toNat (⟨(rd_T160 y134 (ji7)).f0, (rd_T160 y134 (ji7)).f1, (rd_T160 y134 (ji7)).f2, (rd_T160 y134 (ji7)).f3, ji15⟩ : S160) : List (S160))).bind fun y142 => ((spec_l1Below.f s0_0 t140 t141 9).bind fun bt143 => ((spec_l1PickInt.f s0_0 bt143.2.1 bt143.2.2 (([(-1), 0, 5, 7, 42, 99] : List Int))).bind fun bt149 => (if y142.length < 3518437208883 then (spec_l3Chain.l0 k1 (y142 ++ [(⟨wrap64 (1 + bt143.1), bt149.1, wrap64 ((wrap64 ((ji12) + 1)) + t136), wrap64 ((wrap64 ((ji12) + 1)) + t136), 1000⟩ : S160)]) (wrap64 ((wrap64 ((ji12) + 1)) + t136)) (wrap64 (x5_1 - 1)) s0_0 bt149.2.1 bt149.2.2) else (none))))) = some (r1, r2, r3) := by first | (rw [hji15] at H; exact H) | (simp only [hji15] at H ⊢; exact H)
   (try rw [hji15] at A10)
   (try rw [hji15] at A13)
   (try rw [hji15] at A14)
   have hji15_ : (if 1 < (wrap64 ((wrap64 ((wrap64 ((ji12) + 1)) + t136)) - t139)) then (wrap64 ((wrap64 ((wrap64 ((ji12) + 1)) + t136)) - t139)) else 1) = ji15 := hji15
   obtain ⟨y142, hy142⟩ : ∃ y_ : List (S160), y_ = (y134.set ((ji7) : Int).toNat (⟨(rd_T160 y134 (ji7)).f0, (rd_T160 y134 (ji7)).f1, (rd_T160 y134 (ji7)).f2, (rd_T160 y134 (ji7)).f3, ji15⟩ : S160)) := ⟨_, rfl⟩
   replace H : ((spec_l1Below.f s0_0 t140 t141 9).bind fun bt143 => ((spec_l1PickInt.f s0_0 bt143.2.1 bt143.2.2 (([(-1), 0, 5, 7, 42, 99] : List Int))).bind fun bt149 => (if y142.length < 3518437208883 then (spec_l3Chain.l0 k1 (y142 ++ [(⟨wrap64 (1 + bt143.1), bt149.1, wrap64 ((wrap64 ((ji12) + 1)) + t136), wrap64 ((wrap64 ((ji12) + 1)) + t136), 1000⟩ : S160)]) (wrap64 ((wrap64 ((ji12) + 1)) + t136)) (wrap64 (x5_1 - 1)) s0_0 bt149.2.1 bt149.2.2) else (none)))) = some (r1, r2, r3) := by first | (rw [hy142]; with_reducible exact H) | (have H2_ := (Option.bind_some _ _).symm.trans H; rw [hy142]; with_reducible exact H2_) | (have H2_ := (Option.bind_some _ _).symm.trans H; with_reducible exact H2_) | with_reducible exact H | (rw [hy142]; exact H) | exact H
   have Ny142 := AM_ hy142
   clear hy142
   replace H := Option.bind_eq_some_iff.mp H
   obtain ⟨⟨t143, t144, t145⟩, A170, H⟩ := H
   replace H : ((spec_l1PickInt.f s0_0 t144 t145 (([(-1), 0, 5, 7, 42, 99] : List Int))).bind fun bt149 => (if y142.length < 3518437208883 then (spec_l3Chain.l0 k1 (y142 ++ [(⟨wrap64 (1 + t143), bt149.1, wrap64 ((wrap64 ((ji12) + 1)) + t136), wrap64 ((wrap64 ((ji12) + 1)) + t136), 1000⟩ : S160)]) (wrap64 ((wrap64 ((ji12) + 1)) + t136)) (wrap64 (x5_1 - 1)) s0_0 bt149.2.1 bt149.2.2) else (none))) = some (r1, r2, r3) := H
   have A17 := AM_ A170
   clear A170
   obtain ⟨y146, hy146⟩ : ∃ y_ : List Int, y_ = (([(-1), 0, 5, 7, 42, 99] : List Int)) := ⟨_, rfl⟩
   replace H : ((spec_l1PickInt.f s0_0 t144 t145 y146).bind fun bt149 => (if y142.length < 3518437208883 then (spec_l3Chain.l0 k1 (y142 ++ [(⟨wrap64 (1 + t143), bt149.1, wrap64 ((wrap64 ((ji12) + 1)) + t136), wrap64 ((wrap64 ((ji12) + 1)) + t136), 1000⟩ : S160)]) (wrap64 ((wrap64 ((ji12) + 1)) + t136)) (wrap64 (x5_1 - 1)) s0_0 bt149.2.1 bt149.2.2) else (none))) = some (r1, r2, r3) := by first | (rw [hy146]; with_reducible exact H) | (have H2_ := (Option.bind_some _ _).symm.trans H; rw [hy146]; with_reducible exact H2_) | (have H2_ := (Option.bind_some _ _).symm.trans H; with_reducible exact H2_) | with_reducible exact H | (rw [hy146]; exact H) | exact H
   have Ny146 := AM_ hy146
   clear hy146
   replace H := Option.bind_eq_some_iff.mp H
   obtain ⟨⟨t149, t150, t151⟩, A180, H⟩ := H
   replace H : (if y142.length < 3518437208883 then (spec_l3Chain.l0 k1 (y142 ++ [(⟨wrap64 (1 + t143), t149, wrap64 ((wrap64 ((ji12) + 1)) + t136), wrap64 ((wrap64 ((ji12) + 1)) + t136), 1000⟩ : S160)]) (wrap64 ((wrap64 ((ji12) + 1)) + t136)) (wrap64 (x5_1 - 1)) s0_0 t150 t151) else (none)) = some (r1, r2, r3) := H
   have A18 := AM_ A180
   clear A180
   by_cases c19 : y142.length < 3518437208883
   rotate_left
   ·rw [if_neg c19] at H
    exact absurd H (by simp)
   rw [if_pos c19] at H
   have LMc19 := AM_ c19
   clear c19
   obtain ⟨y152, hy152⟩ : ∃ y_ : List (S160), y_ = (y142 ++ [(⟨wrap64 (1 + t143), t149, wrap64 ((wrap64 ((ji12) + 1)) + t136), wrap64 ((wrap64 ((ji12) + 1)) + t136), 1000⟩ : S160)]) := ⟨_, rfl⟩
   replace H : (spec_l3Chain.l0 k1 y152 (wrap64 ((wrap64 ((ji12) + 1)) + t136)) (wrap64 (x5_1 - 1)) s0_0 t150 t151) = some (r1, r2, r3) := by first | (rw [hy152]; with_reducible exact H) | (have H2_ := (Option.bind_some _ _).symm.trans H; rw [hy152]; with_reducible exact H2_) | (have H2_ := (Option.bind_some _ _).symm.trans H; with_reducible exact H2_) | with_reducible exact H | (rw [hy152]; exact H) | exact H
   have Ny152 := AM_ hy152
   clear hy152
   have H' := AM_ H
   clear H
   obtain ⟨Ao20, co20, eo20⟩ := Kd.R_slice HO_3.out
   subst eo20
   try go_wp2
   have n0_ := AM_ (Kd.R_drew HO_3.out)
   have n1_ := AM_ (IsS202.drew HI0.out)
   have n2_ := AM_ (keep_drew HK.out)
   have n3_ := AM_ (below_drew1 HB.out)
   clear HO_3
   clear HI0
   clear HK
   clear HB
   have HO_3 := n0_
   have HI0 := n1_
   have HK := n2_
   have HB := n3_
   clear n0_ n1_ n2_ n3_
   have p130 : 0 ≤ ((ji7) : Int) := of_decide_eq_true (by first | (with_reducible assumption) | assumption)
   have q130 : (ji7) < (x3_1.length : Int) := of_decide_eq_true (by first | (with_reducible assumption) | assumption)
   obtain ⟨ad130, e130, hx130_0, hx130_1, hx130_2, hx130_3, hx130_4⟩ := at_T160 (Kd.R_reads' HO_3.out).2.2 (ji7) p130 q130
   cases e130
   replace p130 := eq_true p130
   replace q130 := eq_true q130
   refine start_ (n := 13) (S := fun w' => w'.cell? (ad130.add (((ji7)).toNat * 5)) = some (.int .i64 ((rd_T160 x3_1 (ji7)).f0)) ∧ w'.cell? ⟨(ad130.add (((ji7)).toNat * 5)).block, (ad130.add (((ji7)).toNat * 5)).off + 1, none⟩ = some (.int .i64 ((rd_T160 x3_1 (ji7)).f1)) ∧ w'.cell? ⟨(ad130.add (((ji7)).toNat * 5)).block, (ad130.add (((ji7)).toNat * 5)).off + 2, none⟩ = some (.int .i64 ((rd_T160 x3_1 (ji7)).f2)) ∧ w'.cell? ⟨(ad130.add (((ji7)).toNat * 5)).block, (ad130.add (((ji7)).toNat * 5)).off + 3, none⟩ = some (.int .i64 ((rd_T160 x3_1 (ji7)).f3)) ∧ w'.cell? ⟨(ad130.add (((ji7)).toNat * 5)).block, (ad130.add (((ji7)).toNat * 5)).off + 4, none⟩ = some (.int .i64 ((rd_T160 x3_1 (ji7)).f4))) (ds := [12]) (bs 0 13) (by kernel_rfl) rfl rfl ⟨hx130_0, hx130_1, hx130_2, hx130_3, hx130_4⟩ (fun hHeld => ?_); refine with_tabW spec_l3Chain.tab7 spec_l3Chain.bits7 (fun HT_ HW_ => ?_)
   generalize wr.drew = w21 at HO_3 HI0 HK HB hx130_0 hx130_1 hx130_2 hx130_3 hx130_4 hHeld ⊢
   refine pure_ (i := 0) (N := some 18) (v := ?_) (a' := ?_) (bs 1 13) rfl rfl (any_of HT_.out (by kernel_rfl)) (fun _ _ _ h => h) (Or.inl ⟨by rfl, ?_⟩) ?_ ?_
   rotate_left
   ·intro w'
    go_simp
    with_reducible rfl
   rotate_left
   ·simp only [pA, pS, pZ, pK, i64_w, i32_w]
    rfl
   refine pure_ (i := 1) (N := some 19) (v := ?_) (a' := ?_) (bs 3 13) rfl rfl (any_of HT_.out (by kernel_rfl)) (fun _ _ _ h => h) (Or.inl ⟨by rfl, ?_⟩) ?_ ?_
   rotate_left
   ·intro w'
    go_simp
    with_reducible rfl
   rotate_left
   ·simp only [pA, pS, pZ, pK, i64_w, i32_w]
    rfl
   refine pure_ (i := 2) (N := some 20) (v := ?_) (a' := ?_) (bs 7 13) rfl rfl (any_of HT_.out (by kernel_rfl)) (fun _ _ _ h => h) (Or.inl ⟨by rfl, ?_⟩) ?_ ?_
   rotate_left
   ·intro w'
    go_simp
    with_reducible rfl
   rotate_left
   ·simp only [pA, pS, pZ, pK, i64_w, i32_w]
    rfl
   refine pure_ (i := 3) (N := some 21) (v := ?_) (a' := ?_) (bs 15 13) rfl rfl (any_of HT_.out (by kernel_rfl)) (fun _ _ _ h => h) (Or.inl ⟨by rfl, ?_⟩) ?_ ?_
   rotate_left
   ·intro w'
    go_simp
    with_reducible rfl
   rotate_left
   ·simp only [pA, pS, pZ, pK, i64_w, i32_w]
    rfl
   refine pure_ (i := 4) (N := some 22) (v := ?_) (a' := ?_) (bs 31 13) rfl rfl (any_of HT_.out (by kernel_rfl)) (fun _ _ _ h => h) (Or.inl ⟨by rfl, ?_⟩) ?_ ?_
   rotate_left
   ·intro w'
    go_simp
    with_reducible rfl
   rotate_left
   ·simp only [pA, pS, pZ, pK, i64_w, i32_w]
    rfl
   refine pure_ (i := 5) (N := some 23) (v := ?_) (a' := ?_) (bs 63 13) rfl rfl (any_of HT_.out (by kernel_rfl)) (fun _ _ _ h => h) (Or.inl ⟨by rfl, ?_⟩) ?_ ?_
   rotate_left
   ·intro w'
    go_simp
    with_reducible rfl
   rotate_left
   ·simp only [pA, pS, pZ, pK, i64_w, i32_w]
    rfl
   refine pure_ (i := 7) (N := some 25) (v := ?_) (a' := ?_) (bs 191 13) rfl rfl (any_of HT_.out (by kernel_rfl)) (fun _ _ _ h => h) (Or.inl ⟨by rfl, ?_⟩) ?_ ?_
   rotate_left
   ·intro w'
    go_simp
    with_reducible rfl
   rotate_left
   ·simp only [pA, pS, pZ, pK, i64_w, i32_w]
    rfl
   refine take_ (i := 6) (N := some 24) (v := ?_) (a' := ?_) (bs 255 13) rfl rfl (take_ofW HT_.out HW_.out (by kernel_rfl)) (fun _ _ _ h => h) (Or.inl ⟨by rfl, ?_⟩) hHeld ?_ ?_
   rotate_left
   ·rintro w' ⟨s0, s1, s2, s3, s4⟩
    go_simp
    with_reducible rfl
   rotate_left
   ·simp only [pA, pS, pZ, pK, i64_w, i32_w]
    rfl
   refine one_ (i := 8) (N := some 26) (bs 511 13) rfl rfl (one_of HT_.out (by kernel_rfl)) (by decide) (fun K hK => ?_)
   refine goes_ Try.func106 (by kernel_rfl) rfl #[.pointer (some ⟨g, 0, none⟩), .int .i64 3] (by rfl) rfl rfl (by (try simp only [List.map_toArray, List.map_cons, List.map_nil]); first | done | rfl | (simp only [List.length_drop, List.length_take]; rfl)) ?_
   with_reducible refine (spec_l1Below.calls g s0_0 x1001_1 x1002_1 3 t131 t132 t133 w0 _ ?side1 ?side2 A10.out).mono ?_
   (case side1 => repeat (first | (with_reducible first | exact HI0.out | apply IsS202.alloc | apply IsS202.drewN | apply IsS202.drew | apply IsS202.set_1 | apply IsS202.set_2) | exact HI0.out))
   (case side2 => repeat (first | (with_reducible first | exact HB.out | apply below_alloc | apply pw_below_drewN | apply below_drew1 | refine below_set ?_ (IsS202.ge HI0.out)) | exact HB.out))
   rintro e w22 ⟨rfl, hi, hb, hk⟩
   have HS0_ := keep_cell hk (hHeld.1) (by first | (rw [add_block]; exact Kd.own_blk (IsS202.own_ne HI0.out HO_3.out (by decide))) | (show (Addr.add _ _).block ≠ _; rw [add_block]; exact Kd.own_blk (IsS202.own_ne HI0.out HO_3.out (by decide))) | exact Kd.own_blk (IsS202.own_ne HI0.out HO_3.out (by decide)) | (dsimp only; exact Kd.own_blk (IsS202.own_ne HI0.out HO_3.out (by decide))))
   have HS1_ := keep_cell hk (hHeld.2.1) (by first | (rw [add_block]; exact Kd.own_blk (IsS202.own_ne HI0.out HO_3.out (by decide))) | (show (Addr.add _ _).block ≠ _; rw [add_block]; exact Kd.own_blk (IsS202.own_ne HI0.out HO_3.out (by decide))) | exact Kd.own_blk (IsS202.own_ne HI0.out HO_3.out (by decide)) | (dsimp only; exact Kd.own_blk (IsS202.own_ne HI0.out HO_3.out (by decide))))
   have HS2_ := keep_cell hk (hHeld.2.2.1) (by first | (rw [add_block]; exact Kd.own_blk (IsS202.own_ne HI0.out HO_3.out (by decide))) | (show (Addr.add _ _).block ≠ _; rw [add_block]; exact Kd.own_blk (IsS202.own_ne HI0.out HO_3.out (by decide))) | exact Kd.own_blk (IsS202.own_ne HI0.out HO_3.out (by decide)) | (dsimp only; exact Kd.own_blk (IsS202.own_ne HI0.out HO_3.out (by decide))))
   have HS3_ := keep_cell hk (hHeld.2.2.2.1) (by first | (rw [add_block]; exact Kd.own_blk (IsS202.own_ne HI0.out HO_3.out (by decide))) | (show (Addr.add _ _).block ≠ _; rw [add_block]; exact Kd.own_blk (IsS202.own_ne HI0.out HO_3.out (by decide))) | exact Kd.own_blk (IsS202.own_ne HI0.out HO_3.out (by decide)) | (dsimp only; exact Kd.own_blk (IsS202.own_ne HI0.out HO_3.out (by decide))))
   have HS4_ := keep_cell hk (hHeld.2.2.2.2) (by first | (rw [add_block]; exact Kd.own_blk (IsS202.own_ne HI0.out HO_3.out (by decide))) | (show (Addr.add _ _).block ≠ _; rw [add_block]; exact Kd.own_blk (IsS202.own_ne HI0.out HO_3.out (by decide))) | exact Kd.own_blk (IsS202.own_ne HI0.out HO_3.out (by decide)) | (dsimp only; exact Kd.own_blk (IsS202.own_ne HI0.out HO_3.out (by decide))))
   refine ⟨_, rfl, ?_⟩
   have n0_ := AM_ (Kd.R_mono (Kd.R_keep (IsS202.apart (show IsS202 w0 _ g s0_0 x1001_1 x1002_1 from by repeat (first | (with_reducible first | exact HI0.out | apply IsS202.alloc | apply IsS202.drewN | apply IsS202.drew | apply IsS202.set_1 | apply IsS202.set_2) | exact HI0.out)) (by exact RL HO_3.out rfl) (by decide)) hk (fun _ h => h.2)) (fun _ h => h.1))
   have n1_ := AM_ (KeepBut.trans (by repeat (first | (with_reducible first | exact HK.out | apply KeepBut.set_ | apply keep_drewN | apply keep_drew | apply keep_alloc) | exact HK.out)) hk (.inl rfl))
   have n2_ := AM_ (hb)
   have n3_ := AM_ (hi)
   clear HO_3
   clear HK
   clear HB
   clear HI0
   have HO_3 := n0_
   have HK := n1_
   have HB := n2_
   have HI0 := n3_
   clear n0_ n1_ n2_ n3_
   (try clear hb)
   (try clear hb2)
   (try clear hk)
   (try clear hi)
   have p11 : 0 ≤ ((ji7) : Int) := of_decide_eq_true (by first | (with_reducible assumption) | assumption)
   have q11 : ((ji7) : Int) < ((x3_1.length : Int) : Int) := of_decide_eq_true (by first | (with_reducible assumption) | assumption)
   obtain ⟨go11, co11, eo11, gb11, gl11, cl11, HG11⟩ := Kd.R_form HO_3.out (by omega)
   (first | cases eo11 | (injection eo11 with ea_ en_ ec_; (first | subst ea_ | (injection ea_ with ea_; subst ea_)); subst ec_; clear en_))
   have GB11 := AM_ gb11
   have GG11 := AM_ HG11
   clear gb11 gl11 HG11
   (first | simp only [add_plain] at hx130_0 | skip)
   (first | simp only [add_plain] at hx130_1 | skip)
   (first | simp only [add_plain] at hx130_2 | skip)
   (first | simp only [add_plain] at hx130_3 | skip)
   (first | simp only [add_plain] at hx130_4 | skip)
   obtain ⟨ce11, hcl11, hM11, hcc11, hfr11⟩ := Kd.R_elem HO_3.out z160 ((ji7) : Int) p11 q11
   obtain rfl := k160_openM hM11
   have hx11_0 : World.cell? _ ⟨go11, ((ji7) : Int).toNat * 5, none⟩ = some (.int .i64 ((rd_T160 x3_1 (ji7)).f0)) := hcc11 0 _ rfl
   have hx11_1 : World.cell? _ ⟨go11, ((ji7) : Int).toNat * 5 + 1, none⟩ = some (.int .i64 ((rd_T160 x3_1 (ji7)).f1)) := hcc11 1 _ rfl
   have hx11_2 : World.cell? _ ⟨go11, ((ji7) : Int).toNat * 5 + 2, none⟩ = some (.int .i64 ((rd_T160 x3_1 (ji7)).f2)) := hcc11 2 _ rfl
   have hx11_3 : World.cell? _ ⟨go11, ((ji7) : Int).toNat * 5 + 3, none⟩ = some (.int .i64 ((rd_T160 x3_1 (ji7)).f3)) := hcc11 3 _ rfl
   have hx11_4 : World.cell? _ ⟨go11, ((ji7) : Int).toNat * 5 + 4, none⟩ = some (.int .i64 ((rd_T160 x3_1 (ji7)).f4)) := hcc11 4 _ rfl
   have hf11_0 : World.frozen? _ ⟨go11, ((ji7) : Int).toNat * 5, none⟩ = false := hfr11 0
   have hf11_1 : World.frozen? _ ⟨go11, ((ji7) : Int).toNat * 5 + 1, none⟩ = false := hfr11 1
   have hf11_2 : World.frozen? _ ⟨go11, ((ji7) : Int).toNat * 5 + 2, none⟩ = false := hfr11 2
   have hf11_3 : World.frozen? _ ⟨go11, ((ji7) : Int).toNat * 5 + 3, none⟩ = false := hfr11 3
   have hf11_4 : World.frozen? _ ⟨go11, ((ji7) : Int).toNat * 5 + 4, none⟩ = false := hfr11 4
   clear hcl11 hcc11 hfr11; (try clear hM11)
   replace p11 := eq_true p11
   replace q11 := eq_true q11
   have HN0_go11 := AM_ (show g ≠ go11 from by have h_ := IsS202.own_ne HI0.out HO_3.out (by decide); intro e_; exact h_ (by rw [e_]; rfl))
   obtain ⟨ce23, hcl23, hM23, hcc23, hfr23⟩ := Kd.R_elem HO_3.out z160 ((ji7) : Int) (of_decide_eq_true (by first | (with_reducible assumption) | assumption)) (by have h_ : ((ji7) : Int) < ((x3_1.length : Int) : Int) := of_decide_eq_true (by first | (with_reducible assumption) | assumption); first | exact h_ | (have e_ := (Kd.R_reads' HO_3.out).1; omega) | simpa using h_)
   obtain rfl := k160_openM hM23
   have HP23 := (Kd.R_seg HO_3.out ((ji7) : Int) (of_decide_eq_true (by first | (with_reducible assumption) | assumption)) (by have h_ : ((ji7) : Int) < ((x3_1.length : Int) : Int) := of_decide_eq_true (by first | (with_reducible assumption) | assumption); first | exact h_ | (have e_ := (Kd.R_reads' HO_3.out).1; omega) | simpa using h_) (seg := [.int .i64 (wrap64 (((rd_T160 x3_1 (ji7)).f2) + t131))]) (j := 3) hcl23 hcc23 (show 4 ≤ 5 from by decide) (x' := (⟨(rd_T160 x3_1 (ji7)).f0, (rd_T160 x3_1 (ji7)).f1, (rd_T160 x3_1 (ji7)).f2, wrap64 (((rd_T160 x3_1 (ji7)).f2) + t131), (rd_T160 x3_1 (ji7)).f4⟩ : S160)) (k160_mkM _ _ _ (⟨(rd_T160 x3_1 (ji7)).f0, (rd_T160 x3_1 (ji7)).f1, (rd_T160 x3_1 (ji7)).f2, wrap64 (((rd_T160 x3_1 (ji7)).f2) + t131), (rd_T160 x3_1 (ji7)).f4⟩ : S160) ) (fun _ hk => hk)).1
   rw [← Ny134.out] at HP23
   have HQ23 := AM_ HP23
   clear hcl23 hcc23 hfr23 HP23; (try clear hM23)
   refine hK.out _ _ ⟨HS0_, HS1_, HS2_, HS3_, HS4_⟩ (fun hHeld => ?_)
   clear hK K
   refine norm_ (a' := ?_) ?_ ?_
   rotate_left
   ·show Act.put _ (some 26) _ = _
    simp only [pA, pS, pZ, pK, i64_w, i32_w]
    rfl
   refine pure_ (i := 9) (N := some 27) (v := ?_) (a' := ?_) (bs 1023 13) rfl rfl (any_of HT_.out (by kernel_rfl)) (fun _ _ _ h => h) (Or.inl ⟨by rfl, ?_⟩) ?_ ?_
   rotate_left
   ·intro w'
    go_simp
    with_reducible rfl
   rotate_left
   ·simp only [pA, pS, pZ, pK, i64_w, i32_w]
    rfl
   refine pure_ (i := 10) (N := some 28) (v := ?_) (a' := ?_) (bs 2047 13) rfl rfl (any_of HT_.out (by kernel_rfl)) (fun _ _ _ h => h) (Or.inl ⟨by rfl, ?_⟩) ?_ ?_
   rotate_left
   ·intro w'
    go_simp
    with_reducible rfl
   rotate_left
   ·simp only [pA, pS, pZ, pK, i64_w, i32_w]
    rfl
   refine pure_ (i := 11) (N := some 29) (v := ?_) (a' := ?_) (bs 4095 13) rfl rfl (any_of HT_.out (by kernel_rfl)) (fun _ _ _ h => h) (Or.inl ⟨by rfl, ?_⟩) ?_ ?_
   rotate_left
   ·intro w'
    go_simp
    with_reducible rfl
   rotate_left
   ·simp only [pA, pS, pZ, pK, i64_w, i32_w]
    rfl
   refine last_ (i := 12) (N := none) (bs 8191 13) rfl rfl (one_of HT_.out (by kernel_rfl)) (by decide) (fun K hK => ?_)
   refine skip_ (w1 := ?_) (by rfl) rfl ?_ ?_
   rotate_left
   ·go_simp
    rfl
   refine hK.out _ _ ?_
   clear hK K
   refine done_ (done_of HT_.out (by kernel_rfl)) ?_
   try go_wp2
   have n0_ : Aside0 (Kd.R k160 160 (w22.setCell ⟨go11, ((ji7) : Int).toNat * 5 + 3, none⟩ (.int .i64 (wrap64 (((rd_T160 x3_1 (ji7)).f2) + t131)))) w.heap.size (fun _ => True) (.slice (some ⟨go11, 0, none⟩) x3_1.length co20) y134) := ⟨by exact RL HQ23.out rfl⟩
   have n1_ : Aside0 (IsS202 w0 (w22.setCell ⟨go11, ((ji7) : Int).toNat * 5 + 3, none⟩ (.int .i64 (wrap64 (((rd_T160 x3_1 (ji7)).f2) + t131)))) g s0_0 t132 t133) := ⟨by repeat (first | (with_reducible first | exact HI0.out | apply IsS202.alloc | apply IsS202.drewN | apply IsS202.drew | apply IsS202.set_1 | apply IsS202.set_2 | refine IsS202.far ?_ HN0_go11.out _) | exact HI0.out)⟩
   have n2_ : Aside0 (KeepBut w (w22.setCell ⟨go11, ((ji7) : Int).toNat * 5 + 3, none⟩ (.int .i64 (wrap64 (((rd_T160 x3_1 (ji7)).f2) + t131)))) g none) := ⟨by repeat (first | (with_reducible first | exact HK.out | apply KeepBut.set_ | apply keep_drewN | apply keep_drew | apply keep_alloc | refine keep_far ?_ GB11.out _) | exact HK.out)⟩
   have n3_ : Aside0 (Below w0.heap.size w0 (w22.setCell ⟨go11, ((ji7) : Int).toNat * 5 + 3, none⟩ (.int .i64 (wrap64 (((rd_T160 x3_1 (ji7)).f2) + t131))))) := ⟨by repeat (first | (with_reducible first | exact HB.out | apply below_alloc | apply pw_below_drewN | apply below_drew1 | refine below_set ?_ (Nat.le_trans HL.out GB11.out) | refine below_set ?_ (IsS202.ge HI0.out)) | exact HB.out)⟩
   (try clear HO_3)
   (try clear HI0)
   (try clear HK)
   (try clear HB)
   generalize (w22.setCell ⟨go11, ((ji7) : Int).toNat * 5 + 3, none⟩ (.int .i64 (wrap64 (((rd_T160 x3_1 (ji7)).f2) + t131)))) = w24 at n0_ n1_ n2_ n3_ ⊢
   have HO_3 := n0_
   have HI0 := n1_
   have HK := n2_
   have HB := n3_
   clear n0_ n1_ n2_ n3_
   have n0_ := AM_ (Kd.R_drew HO_3.out)
   have n1_ := AM_ (IsS202.drew HI0.out)
   have n2_ := AM_ (keep_drew HK.out)
   have n3_ := AM_ (below_drew1 HB.out)
   clear HO_3
   clear HI0
   clear HK
   clear HB
   have HO_3 := n0_
   have HI0 := n1_
   have HK := n2_
   have HB := n3_
   clear n0_ n1_ n2_ n3_
   have p135 : 0 ≤ ((ji7) : Int) := of_decide_eq_true (by first | (with_reducible assumption) | assumption)
   have q135 : (ji7) < (y134.length : Int) := (by have h_ : ((ji7) : Int) < ((x3_1.length : Int) : Int) := of_decide_eq_true (by first | (with_reducible assumption) | assumption); first | (have e_ := (Kd.R_reads' HO_3.out).1; omega) | simpa only [Ny134.out, List.length_set] using h_)
   have ql135 : (((ji7) : Int) < ((x3_1.length : Int) : Int)) = True := eq_true (of_decide_eq_true (by first | (with_reducible assumption) | assumption))
   obtain ⟨ad135, e135, hx135_0, hx135_1, hx135_2, hx135_3, hx135_4⟩ := at_T160 (Kd.R_reads' HO_3.out).2.2 (ji7) p135 q135
   obtain rfl : (⟨go11, 0, none⟩ : Addr) = ad135 := (by injection e135)
   (first | simp only [add_plain] at hx135_0 | simp only [add_at] at hx135_0 | simp only [Addr.add, Nat.zero_add] at hx135_0 | skip)
   (first | simp only [add_plain] at hx135_1 | simp only [add_at] at hx135_1 | simp only [Addr.add, Nat.zero_add] at hx135_1 | skip)
   (first | simp only [add_plain] at hx135_2 | simp only [add_at] at hx135_2 | simp only [Addr.add, Nat.zero_add] at hx135_2 | skip)
   (first | simp only [add_plain] at hx135_3 | simp only [add_at] at hx135_3 | simp only [Addr.add, Nat.zero_add] at hx135_3 | skip)
   (first | simp only [add_plain] at hx135_4 | simp only [add_at] at hx135_4 | simp only [Addr.add, Nat.zero_add] at hx135_4 | skip)
   replace p135 := eq_true p135
   replace q135 := eq_true q135
   refine start_ (n := 12) (S := fun w' => w'.cell? ⟨go11, ((ji7)).toNat * 5, none⟩ = some (.int .i64 ((rd_T160 y134 (ji7)).f0)) ∧ w'.cell? ⟨go11, ((ji7)).toNat * 5 + 1, none⟩ = some (.int .i64 ((rd_T160 y134 (ji7)).f1)) ∧ w'.cell? ⟨go11, ((ji7)).toNat * 5 + 2, none⟩ = some (.int .i64 ((rd_T160 y134 (ji7)).f2)) ∧ w'.cell? ⟨go11, ((ji7)).toNat * 5 + 3, none⟩ = some (.int .i64 ((rd_T160 y134 (ji7)).f3)) ∧ w'.cell? ⟨go11, ((ji7)).toNat * 5 + 4, none⟩ = some (.int .i64 ((rd_T160 y134 (ji7)).f4))) (ds := []) (bs 0 12) (by kernel_rfl) rfl rfl ⟨hx135_0, hx135_1, hx135_2, hx135_3, hx135_4⟩ (fun hHeld => ?_); refine with_tabW spec_l3Chain.tab8 spec_l3Chain.bits8 (fun HT_ HW_ => ?_)
   generalize w24.drew = w25 at HO_3 HI0 HK HB HQ23 hx135_0 hx135_1 hx135_2 hx135_3 hx135_4 hHeld ⊢
   refine pure_ (i := 0) (N := some 30) (v := ?_) (a' := ?_) (bs 1 12) rfl rfl (any_of HT_.out (by kernel_rfl)) (fun _ _ _ h => h) (Or.inl ⟨by rfl, ?_⟩) ?_ ?_
   rotate_left
   ·intro w'
    go_simp
    with_reducible rfl
   rotate_left
   ·simp only [pA, pS, pZ, pK, i64_w, i32_w]
    rfl
   refine pure_ (i := 1) (N := some 31) (v := ?_) (a' := ?_) (bs 3 12) rfl rfl (any_of HT_.out (by kernel_rfl)) (fun _ _ _ h => h) (Or.inl ⟨by rfl, ?_⟩) ?_ ?_
   rotate_left
   ·intro w'
    go_simp
    with_reducible rfl
   rotate_left
   ·simp only [pA, pS, pZ, pK, i64_w, i32_w]
    rfl
   refine pure_ (i := 2) (N := some 32) (v := ?_) (a' := ?_) (bs 7 12) rfl rfl (any_of HT_.out (by kernel_rfl)) (fun _ _ _ h => h) (Or.inl ⟨by rfl, ?_⟩) ?_ ?_
   rotate_left
   ·intro w'
    go_simp
    with_reducible rfl
   rotate_left
   ·simp only [pA, pS, pZ, pK, i64_w, i32_w]
    rfl
   refine pure_ (i := 3) (N := some 33) (v := ?_) (a' := ?_) (bs 15 12) rfl rfl (any_of HT_.out (by kernel_rfl)) (fun _ _ _ h => h) (Or.inl ⟨by rfl, ?_⟩) ?_ ?_
   rotate_left
   ·intro w'
    go_simp
    with_reducible rfl
   rotate_left
   ·simp only [pA, pS, pZ, pK, i64_w, i32_w]
    rfl
   refine pure_ (i := 4) (N := some 34) (v := ?_) (a' := ?_) (bs 31 12) rfl rfl (any_of HT_.out (by kernel_rfl)) (fun _ _ _ h => h) (Or.inl ⟨by rfl, ?_⟩) ?_ ?_
   rotate_left
   ·intro w'
    go_simp
    with_reducible rfl
   rotate_left
   ·simp only [pA, pS, pZ, pK, i64_w, i32_w]
    rfl
   refine pure_ (i := 8) (N := some 38) (v := ?_) (a' := ?_) (bs 287 12) rfl rfl (any_of HT_.out (by kernel_rfl)) (fun _ _ _ h => h) (Or.inl ⟨by rfl, ?_⟩) ?_ ?_
   rotate_left
   ·intro w'
    go_simp
    with_reducible rfl
   rotate_left
   ·simp only [pA, pS, pZ, pK, i64_w, i32_w]
    rfl
   refine take_ (i := 5) (N := some 35) (v := ?_) (a' := ?_) (bs 319 12) rfl rfl (take_ofW HT_.out HW_.out (by kernel_rfl)) (fun _ _ _ h => h) (Or.inl ⟨by rfl, ?_⟩) hHeld ?_ ?_
   rotate_left
   ·rintro w' ⟨s0, s1, s2, s3, s4⟩
    go_simp
    with_reducible rfl
   rotate_left
   ·simp only [pA, pS, pZ, pK, i64_w, i32_w]
    rfl
   refine pure_ (i := 6) (N := some 36) (v := ?_) (a' := ?_) (bs 383 12) rfl rfl (any_of HT_.out (by kernel_rfl)) (fun _ _ _ h => h) (Or.inl ⟨by rfl, ?_⟩) ?_ ?_
   rotate_left
   ·intro w'
    go_simp
    with_reducible rfl
   rotate_left
   ·simp only [pA, pS, pZ, pK, i64_w, i32_w]
    rfl
   refine pure_ (i := 7) (N := some 37) (v := ?_) (a' := ?_) (bs 511 12) rfl rfl (any_of HT_.out (by kernel_rfl)) (fun _ _ _ h => h) (Or.inl ⟨by rfl, ?_⟩) ?_ ?_
   rotate_left
   ·intro w'
    go_simp
    with_reducible rfl
   rotate_left
   ·simp only [pA, pS, pZ, pK, i64_w, i32_w]
    rfl
   refine one_ (i := 9) (N := some 39) (bs 1023 12) rfl rfl (one_of HT_.out (by kernel_rfl)) (by decide) (fun K hK => ?_)
   refine goes_ Try.func106 (by kernel_rfl) rfl #[.pointer (some ⟨g, 0, none⟩), .int .i64 2] (by rfl) rfl rfl (by (try simp only [List.map_toArray, List.map_cons, List.map_nil]); first | done | rfl | (simp only [List.length_drop, List.length_take]; rfl)) ?_
   with_reducible refine (spec_l1Below.calls g s0_0 t132 t133 2 t136 t137 t138 w0 _ ?side1 ?side2 A13.out).mono ?_
   (case side1 => repeat (first | (with_reducible first | exact HI0.out | apply IsS202.alloc | apply IsS202.drewN | apply IsS202.drew | apply IsS202.set_1 | apply IsS202.set_2) | exact HI0.out))
   (case side2 => repeat (first | (with_reducible first | exact HB.out | apply below_alloc | apply pw_below_drewN | apply below_drew1 | refine below_set ?_ (IsS202.ge HI0.out)) | exact HB.out))
   rintro e w26 ⟨rfl, hi, hb, hk⟩
   have HS0_ := keep_cell hk (hHeld.1) (by first | (rw [add_block]; exact Kd.own_blk (IsS202.own_ne HI0.out HO_3.out (by decide))) | (show (Addr.add _ _).block ≠ _; rw [add_block]; exact Kd.own_blk (IsS202.own_ne HI0.out HO_3.out (by decide))) | exact Kd.own_blk (IsS202.own_ne HI0.out HO_3.out (by decide)) | (dsimp only; exact Kd.own_blk (IsS202.own_ne HI0.out HO_3.out (by decide))))
   have HS1_ := keep_cell hk (hHeld.2.1) (by first | (rw [add_block]; exact Kd.own_blk (IsS202.own_ne HI0.out HO_3.out (by decide))) | (show (Addr.add _ _).block ≠ _; rw [add_block]; exact Kd.own_blk (IsS202.own_ne HI0.out HO_3.out (by decide))) | exact Kd.own_blk (IsS202.own_ne HI0.out HO_3.out (by decide)) | (dsimp only; exact Kd.own_blk (IsS202.own_ne HI0.out HO_3.out (by decide))))
   have HS2_ := keep_cell hk (hHeld.2.2.1) (by first | (rw [add_block]; exact Kd.own_blk (IsS202.own_ne HI0.out HO_3.out (by decide))) | (show (Addr.add _ _).block ≠ _; rw [add_block]; exact Kd.own_blk (IsS202.own_ne HI0.out HO_3.out (by decide))) | exact Kd.own_blk (IsS202.own_ne HI0.out HO_3.out (by decide)) | (dsimp only; exact Kd.own_blk (IsS202.own_ne HI0.out HO_3.out (by decide))))
   have HS3_ := keep_cell hk (hHeld.2.2.2.1) (by first | (rw [add_block]; exact Kd.own_blk (IsS202.own_ne HI0.out HO_3.out (by decide))) | (show (Addr.add _ _).block ≠ _; rw [add_block]; exact Kd.own_blk (IsS202.own_ne HI0.out HO_3.out (by decide))) | exact Kd.own_blk (IsS202.own_ne HI0.out HO_3.out (by decide)) | (dsimp only; exact Kd.own_blk (IsS202.own_ne HI0.out HO_3.out (by decide))))
   have HS4_ := keep_cell hk (hHeld.2.2.2.2) (by first | (rw [add_block]; exact Kd.own_blk (IsS202.own_ne HI0.out HO_3.out (by decide))) | (show (Addr.add _ _).block ≠ _; rw [add_block]; exact Kd.own_blk (IsS202.own_ne HI0.out HO_3.out (by decide))) | exact Kd.own_blk (IsS202.own_ne HI0.out HO_3.out (by decide)) | (dsimp only; exact Kd.own_blk (IsS202.own_ne HI0.out HO_3.out (by decide))))
   refine ⟨_, rfl, ?_⟩
   have n0_ := AM_ (Kd.R_mono (Kd.R_keep (IsS202.apart (show IsS202 w0 _ g s0_0 t132 t133 from by repeat (first | (with_reducible first | exact HI0.out | apply IsS202.alloc | apply IsS202.drewN | apply IsS202.drew | apply IsS202.set_1 | apply IsS202.set_2) | exact HI0.out)) (by exact RL HO_3.out rfl) (by decide)) hk (fun _ h => h.2)) (fun _ h => h.1))
   have n1_ := AM_ (KeepBut.trans (by repeat (first | (with_reducible first | exact HK.out | apply KeepBut.set_ | apply keep_drewN | apply keep_drew | apply keep_alloc) | exact HK.out)) hk (.inl rfl))
   have n2_ := AM_ (hb)
   have n3_ := AM_ (hi)
   clear HO_3
   clear HK
   clear HB
   clear HI0
   have HO_3 := n0_
   have HK := n1_
   have HB := n2_
   have HI0 := n3_
   clear n0_ n1_ n2_ n3_
   (try clear hb)
   (try clear hb2)
   (try clear hk)
   (try clear hi)
   refine hK.out _ _ ⟨HS0_, HS1_, HS2_, HS3_, HS4_⟩ (fun hHeld => ?_)
   clear hK K
   refine norm_ (a' := ?_) ?_ ?_
   rotate_left
   ·show Act.put _ (some 39) _ = _
    simp only [pA, pS, pZ, pK, i64_w, i32_w]
    rfl
   refine pure_ (i := 10) (N := some 40) (v := ?_) (a' := ?_) (bs 2047 12) rfl rfl (any_of HT_.out (by kernel_rfl)) (fun _ _ _ h => h) (Or.inl ⟨by rfl, ?_⟩) ?_ ?_
   rotate_left
   ·intro w'
    go_simp
    with_reducible rfl
   rotate_left
   ·simp only [pA, pS, pZ, pK, i64_w, i32_w]
    rfl
   refine pure_ (i := 11) (N := some 4) (v := ?_) (a' := ?_) (bs 4095 12) rfl rfl (any_of HT_.out (by kernel_rfl)) (fun _ _ _ h => h) (Or.inl ⟨by rfl, ?_⟩) ?_ ?_
   rotate_left
   ·intro w'
    go_simp
    with_reducible rfl
   rotate_left
   ·simp only [pA, pS, pZ, pK, i64_w, i32_w]
    rfl
   refine done_ (done_of HT_.out (by kernel_rfl)) ?_
   try go_wp2_with (first | ((with_reducible refine gate_callee (f := 106) rfl ?_); refine goesL_ (some 45) rfl rfl Try.func106 (by kernel_rfl) rfl #[.pointer (some ⟨g, 0, none⟩), .int .i64 4] rfl (by (try simp only [List.map_toArray, List.map_cons, List.map_nil]); first | done | rfl | (simp only [List.length_drop, List.length_take]; rfl)) ?_; (with_reducible refine (spec_l1Below.calls g s0_0 t137 t138 4 t139 t140 t141 w0 _ ?side1 ?side2 A14.out).mono ?_); (case side1 => repeat (first | (with_reducible first | exact HI0.out | apply IsS202.alloc | apply IsS202.drewN | apply IsS202.drew | apply IsS202.set_1 | apply IsS202.set_2) | exact HI0.out)); (case side2 => repeat (first | (with_reducible first | exact HB.out | apply below_alloc | apply pw_below_drewN | apply below_drew1 | refine below_set ?_ (IsS202.ge HI0.out)) | exact HB.out)); rintro e w27 ⟨rfl, hi, hb, hk⟩; refine ⟨_, rfl, ?_⟩; have n0_ := AM_ (Kd.R_mono (Kd.R_keep (IsS202.apart (show IsS202 w0 _ g s0_0 t137 t138 from by repeat (first | (with_reducible first | exact HI0.out | apply IsS202.alloc | apply IsS202.drewN | apply IsS202.drew | apply IsS202.set_1 | apply IsS202.set_2) | exact HI0.out)) (by exact RL HO_3.out rfl) (by decide)) hk (fun _ h => h.2)) (fun _ h => h.1)); have n1_ := AM_ (KeepBut.trans (by repeat (first | (with_reducible first | exact HK.out | apply KeepBut.set_ | apply keep_drewN | apply keep_drew | apply keep_alloc) | exact HK.out)) hk (.inl rfl)); have n2_ := AM_ (hb); have n3_ := AM_ (hi); clear HO_3; clear HK; clear HB; clear HI0; have HO_3 := n0_; have HK := n1_; have HB := n2_; have HI0 := n3_; clear n0_ n1_ n2_ n3_; (try clear hb); (try clear hb2); (try clear hk); (try clear hi); have p16 : 0 ≤ ((ji7) : Int) := of_decide_eq_true (by first | (with_reducible assumption) | assumption); have q16 : ((ji7) : Int) < ((x3_1.length : Int) : Int) := of_decide_eq_true (by first | (with_reducible assumption) | assumption); obtain ⟨ce16, hcl16, hM16, hcc16, hfr16⟩ := Kd.R_elem HO_3.out z160 ((ji7) : Int) p16 q16; obtain rfl := k160_openM hM16; have hx16_0 : w27.cell? ⟨go11, ((ji7) : Int).toNat * 5, none⟩ = some (.int .i64 ((rd_T160 y134 (ji7)).f0)) := hcc16 0 _ rfl; have hx16_1 : w27.cell? ⟨go11, ((ji7) : Int).toNat * 5 + 1, none⟩ = some (.int .i64 ((rd_T160 y134 (ji7)).f1)) := hcc16 1 _ rfl; have hx16_2 : w27.cell? ⟨go11, ((ji7) : Int).toNat * 5 + 2, none⟩ = some (.int .i64 ((rd_T160 y134 (ji7)).f2)) := hcc16 2 _ rfl; have hx16_3 : w27.cell? ⟨go11, ((ji7) : Int).toNat * 5 + 3, none⟩ = some (.int .i64 ((rd_T160 y134 (ji7)).f3)) := hcc16 3 _ rfl; have hx16_4 : w27.cell? ⟨go11, ((ji7) : Int).toNat * 5 + 4, none⟩ = some (.int .i64 ((rd_T160 y134 (ji7)).f4)) := hcc16 4 _ rfl; have hf16_0 : w27.frozen? ⟨go11, ((ji7) : Int).toNat * 5, none⟩ = false := hfr16 0; have hf16_1 : w27.frozen? ⟨go11, ((ji7) : Int).toNat * 5 + 1, none⟩ = false := hfr16 1; have hf16_2 : w27.frozen? ⟨go11, ((ji7) : Int).toNat * 5 + 2, none⟩ = false := hfr16 2; have hf16_3 : w27.frozen? ⟨go11, ((ji7) : Int).toNat * 5 + 3, none⟩ = false := hfr16 3; have hf16_4 : w27.frozen? ⟨go11, ((ji7) : Int).toNat * 5 + 4, none⟩ = false := hfr16 4; clear hcl16 hcc16 hfr16; (try clear hM16); replace p16 := eq_true p16; replace q16 := eq_true q16; have HX28 := AM_ (show Kd.R k160 160 w27 w.heap.size (fun _ => True) (.slice (some ⟨go11, 0, none⟩) x3_1.length co20) y134 from (by exact RL HO_3.out rfl)); obtain ⟨ce28, hcl28, hM28, hcc28, hfr28⟩ := Kd.R_elem HX28.out z160 ((ji7) : Int) (of_decide_eq_true (by first | (with_reducible assumption) | assumption)) (by have h_ : ((ji7) : Int) < ((x3_1.length : Int) : Int) := of_decide_eq_true (by first | (with_reducible assumption) | assumption); first | exact h_ | (have e_ := (Kd.R_reads' HO_3.out).1; omega) | simpa using h_); obtain rfl := k160_openM hM28; have HP28 := Kd.R_seg HX28.out ((ji7) : Int) (of_decide_eq_true (by first | (with_reducible assumption) | assumption)) (by have h_ : ((ji7) : Int) < ((x3_1.length : Int) : Int) := of_decide_eq_true (by first | (with_reducible assumption) | assumption); first | exact h_ | (have e_ := (Kd.R_reads' HO_3.out).1; omega) | simpa using h_) (seg := [.int .i64 ji15]) (j := 4) hcl28 hcc28 (show 5 ≤ 5 from by decide) (x' := (⟨(rd_T160 y134 (ji7)).f0, (rd_T160 y134 (ji7)).f1, (rd_T160 y134 (ji7)).f2, (rd_T160 y134 (ji7)).f3, ji15⟩ : S160)) (k160_mkM _ _ _ (⟨(rd_T160 y134 (ji7)).f0, (rd_T160 y134 (ji7)).f1, (rd_T160 y134 (ji7)).f2, (rd_T160 y134 (ji7)).f3, ji15⟩ : S160) ) (fun _ hk => hk); have hx28_4 := hcc28 4 _ rfl; (try simp only [show (k160).sz = 5 from rfl, Nat.mul_one, Nat.add_zero] at hx28_4); have hf28_4 := hfr28 4; (try simp only [show (k160).sz = 5 from rfl, Nat.mul_one, Nat.add_zero] at hf28_4); clear hcl28 hcc28 hfr28; (try clear hM28)) | ((with_reducible refine gate_store (t := 3) (p := 49) rfl ?_); refine store_event (t := 3) (p := 49) (v := ?vo_w29) (w1 := (w27.setCell ⟨go11, ((ji7) : Int).toNat * 5 + 4, none⟩ (.int .i64 ji15))) ?hg ?ho ?hn ?hr ?_; (case ho => rfl); (case hg => rfl); (case hn => rfl); (case hr => first | (go_simp; done) | (go_simp; rfl)); intro w29 hw; have hg : w27.grownBy w29 (some go11) := (by rw [hw]; exact HP28.2); have hp_ : Kd.R k160 160 w29 w.heap.size (fun _ => True) (.slice (some ⟨go11, 0, none⟩) x3_1.length co20) y142 := (by rw [hw, Ny142.out]; exact HP28.1); clear HP28; have n0_ := AM_ (hp_); have n1_ := AM_ (IsS202.grown (by repeat (first | (with_reducible first | exact HI0.out | apply IsS202.alloc | apply IsS202.drewN | apply IsS202.drew | apply IsS202.set_1 | apply IsS202.set_2) | exact HI0.out)) hg (IsS202.own_ne HI0.out HO_3.out (by decide))); have n2_ := AM_ ((by rw [hw]; exact below_set (HB.out) (Nat.le_trans HL.out GB11.out) : Below w0.heap.size w0 w29)); have n3_ := AM_ (KeepBut.trans (by repeat (first | (with_reducible first | exact HK.out | apply KeepBut.set_ | apply keep_drewN | apply keep_drew | apply keep_alloc) | exact HK.out)) (KeepBut.of_grown hg g) (Kd.R_base2 HO_3.out)); clear HO_3; clear HI0; clear HB; clear HK; have HO_3 := n0_; have HI0 := n1_; have HB := n2_; have HK := n3_; clear n0_ n1_ n2_ n3_; clear hg hw hp_) | ((with_reducible refine gate_callee (f := 106) rfl ?_); refine goesL_ (some 52) rfl rfl Try.func106 (by kernel_rfl) rfl #[.pointer (some ⟨g, 0, none⟩), .int .i64 9] rfl (by (try simp only [List.map_toArray, List.map_cons, List.map_nil]); first | done | rfl | (simp only [List.length_drop, List.length_take]; rfl)) ?_; (with_reducible refine (spec_l1Below.calls g s0_0 t140 t141 9 t143 t144 t145 w0 _ ?side1 ?side2 A17.out).mono ?_); (case side1 => repeat (first | (with_reducible first | exact HI0.out | apply IsS202.alloc | apply IsS202.drewN | apply IsS202.drew | apply IsS202.set_1 | apply IsS202.set_2) | exact HI0.out)); (case side2 => repeat (first | (with_reducible first | exact HB.out | apply below_alloc | apply pw_below_drewN | apply below_drew1 | refine below_set ?_ (IsS202.ge HI0.out)) | exact HB.out)); rintro e w30 ⟨rfl, hi, hb, hk⟩; refine ⟨_, rfl, ?_⟩; have n0_ := AM_ (Kd.R_mono (Kd.R_keep (IsS202.apart (show IsS202 w0 _ g s0_0 t140 t141 from by repeat (first | (with_reducible first | exact HI0.out | apply IsS202.alloc | apply IsS202.drewN | apply IsS202.drew | apply IsS202.set_1 | apply IsS202.set_2) | exact HI0.out)) (by exact RL HO_3.out rfl) (by decide)) hk (fun _ h => h.2)) (fun _ h => h.1)); have n1_ := AM_ (KeepBut.trans (by repeat (first | (with_reducible first | exact HK.out | apply KeepBut.set_ | apply keep_drewN | apply keep_drew | apply keep_alloc) | exact HK.out)) hk (.inl rfl)); have n2_ := AM_ (hb); have n3_ := AM_ (hi); clear HO_3; clear HK; clear HB; clear HI0; have HO_3 := n0_; have HK := n1_; have HB := n2_; have HI0 := n3_; clear n0_ n1_ n2_ n3_; (try clear hb); (try clear hb2); (try clear hk); (try clear hi)) | ((with_reducible refine gate_dst (N := 55) rfl ?_); refine Kd.R_lit (Kd.int .i64) _ 3 ?hg (N := 55) ?hd (xs := ([(-1), 0, 5, 7, 42, 99] : List Int)) (inner := [.int .i64 (-1), .int .i64 0, .int .i64 5, .int .i64 7, .int .i64 42, .int .i64 99]) (ok := fun _ => True) (okp := fun _ => True) ?hr ?hp (fun _ hk => hk) trivial (Below.refl _ _) (Nat.le_refl _) (by simp) ?_; (case hd => rfl); (case hg => rfl); (case hr => first | (go_simp; done) | (go_simp; rfl)); (case hp => exact (Reps.one (show Kd.M (Kd.int .i64) _ _ _ (-1) [.int .i64 (-1)] from rfl) (Reps.one (show Kd.M (Kd.int .i64) _ _ _ 0 [.int .i64 0] from rfl) (Reps.one (show Kd.M (Kd.int .i64) _ _ _ 5 [.int .i64 5] from rfl) (Reps.one (show Kd.M (Kd.int .i64) _ _ _ 7 [.int .i64 7] from rfl) (Reps.one (show Kd.M (Kd.int .i64) _ _ _ 42 [.int .i64 42] from rfl) (Reps.one (show Kd.M (Kd.int .i64) _ _ _ 99 [.int .i64 99] from rfl) (Reps.none _ _)))))))); intro v147 w31 ho32 hb hg_ hnew_; clear hg_ hnew_; (first | rw [← Ny146.out] at ho32 | (simp only [Int.reduceToNat] at ho32; rw [← Ny146.out] at ho32)); have n0_ := AM_ (Kd.R_below (by exact RL HO_3.out rfl) hb); have n1_ := AM_ (Kd.R_lower ho32 (keep_size (w := w) (g := g) (row := none) (by repeat (first | (with_reducible first | exact HK.out | apply KeepBut.set_ | apply keep_drewN | apply keep_drew | apply keep_alloc) | exact HK.out)))); have n2_ := AM_ (IsS202.below (by repeat (first | (with_reducible first | exact HI0.out | apply IsS202.alloc | apply IsS202.drewN | apply IsS202.drew | apply IsS202.set_1 | apply IsS202.set_2) | exact HI0.out)) hb); have n3_ := AM_ (KeepBut.trans (by repeat (first | (with_reducible first | exact HK.out | apply KeepBut.set_ | apply keep_drewN | apply keep_drew | apply keep_alloc) | exact HK.out)) (KeepBut.of_below hb g none) (.inl rfl)); have n4_ := AM_ (below_step (by repeat (first | (with_reducible first | exact HB.out | apply below_alloc | apply pw_below_drewN | apply below_drew1 | refine below_set ?_ (IsS202.ge HI0.out)) | exact HB.out)) hb); clear HO_3; clear HI0; clear HK; clear HB; have HO_3 := n0_; have HO148 := n1_; have HI0 := n2_; have HK := n3_; have HB := n4_; clear n0_ n1_ n2_ n3_ n4_; clear hb ho32; obtain ⟨Ao33, co33, eo33⟩ := Kd.R_slice HO148.out; subst eo33) | ((with_reducible refine gate_callee (f := 172) rfl ?_); refine goesL_ (some 56) rfl rfl Try.func172 (by kernel_rfl) rfl #[.pointer (some ⟨g, 0, none⟩), .slice Ao33 y146.length co33] rfl (by (try simp only [List.map_toArray, List.map_cons, List.map_nil]); first | done | rfl | (simp only [List.length_drop, List.length_take]; rfl)) ?_; (with_reducible refine (spec_l1PickInt.calls g s0_0 t144 t145 _ _ y146 t149 t150 t151 w0 _ ?side1 ?side2 ?side3 ?side4 ?side5 A18.out).mono ?_); (case side1 => repeat (first | (with_reducible first | exact HI0.out | apply IsS202.alloc | apply IsS202.drewN | apply IsS202.drew | apply IsS202.set_1 | apply IsS202.set_2) | exact HI0.out)); (case side2 => repeat (first | (with_reducible first | exact HB.out | apply below_alloc | apply pw_below_drewN | apply below_drew1 | refine below_set ?_ (IsS202.ge HI0.out)) | exact HB.out)); (case side3 => exact Kd.C_below (Kd.R_reads' HO148.out).2.2 (BL (Below.refl _ _) rfl rfl rfl rfl)); (case side4 => exact (Kd.R_reads' HO148.out).2.1); (case side5 => exact far_slice (IsS202.own_ne HI0.out HO148.out (by decide))); rintro e w34 ⟨rfl, hi, hb, hk⟩; refine ⟨_, rfl, ?_⟩; have n0_ := AM_ (Kd.R_mono (Kd.R_keep (IsS202.apart (show IsS202 w0 _ g s0_0 t144 t145 from by repeat (first | (with_reducible first | exact HI0.out | apply IsS202.alloc | apply IsS202.drewN | apply IsS202.drew | apply IsS202.set_1 | apply IsS202.set_2) | exact HI0.out)) (by exact RL HO_3.out rfl) (by decide)) hk (fun _ h => h.2)) (fun _ h => h.1)); have n1_ := AM_ (Kd.R_mono (Kd.R_keep (IsS202.apart (show IsS202 w0 _ g s0_0 t144 t145 from by repeat (first | (with_reducible first | exact HI0.out | apply IsS202.alloc | apply IsS202.drewN | apply IsS202.drew | apply IsS202.set_1 | apply IsS202.set_2) | exact HI0.out)) (by exact RL HO148.out rfl) (by decide)) hk (fun _ h => h.2)) (fun _ h => h.1)); have n2_ := AM_ (KeepBut.trans (by repeat (first | (with_reducible first | exact HK.out | apply KeepBut.set_ | apply keep_drewN | apply keep_drew | apply keep_alloc) | exact HK.out)) hk (.inl rfl)); have n3_ := AM_ (hb); have n4_ := AM_ (hi); clear HO_3; clear HO148; clear HK; clear HB; clear HI0; have HO_3 := n0_; have HO148 := n1_; have HK := n2_; have HB := n3_; have HI0 := n4_; clear n0_ n1_ n2_ n3_ n4_; (try clear hb); (try clear hb2); (try clear hk); (try clear hi)) | ((with_reducible refine gate_builtin (b := .append) (xs := #[.tmp 50, .tmp 60]) rfl ?_); at_builtin; refine Kd.R_append k160 w.heap.size rfl (.tmp 50) (.tmp 60) 158 160 (.agg #[(.int .i64 0), (.int .i64 0), (.int .i64 0), (.int .i64 0), (.int .i64 0)]) 40 rfl Try.underlying158 info160 rfl (by decide) (by omega) (.slice (some ⟨go11, 0, none⟩) x3_1.length co20) y142 (⟨wrap64 (1 + t143), t149, wrap64 ((wrap64 ((ji12) + 1)) + t136), wrap64 ((wrap64 ((ji12) + 1)) + t136), 1000⟩ : S160) [.int .i64 (wrap64 (1 + t143)), .int .i64 t149, .int .i64 (wrap64 ((wrap64 ((ji12) + 1)) + t136)), .int .i64 (wrap64 ((wrap64 ((ji12) + 1)) + t136)), .int .i64 1000] (fun _ => True) (fun _ => False) rfl rfl ?aP (fun _ hk => hk.elim) ?aF ?aO (Below.refl _ _) ?aS ?aL ?_; (case aP => exact k160_mkM _ _ _ (⟨wrap64 (1 + t143), t149, wrap64 ((wrap64 ((ji12) + 1)) + t136), wrap64 ((wrap64 ((ji12) + 1)) + t136), 1000⟩ : S160)); (case aF => exact (fun _ _ => trivial)); (case aO => exact (by exact RL HO_3.out rfl)); (case aS => exact (keep_size (w := w) (g := g) (row := none) (by repeat (first | (with_reducible first | exact HK.out | apply KeepBut.set_ | apply keep_drewN | apply keep_drew | apply keep_alloc) | exact HK.out)))); (case aL => have := LMc19.out; omega); intro v153 w35 ho hb hg hat; rw [← Ny152.out] at ho; have n0_ := AM_ (IsS202.grown (by repeat (first | (with_reducible first | exact HI0.out | apply IsS202.alloc | apply IsS202.drewN | apply IsS202.drew | apply IsS202.set_1 | apply IsS202.set_2) | exact HI0.out)) hg (IsS202.own_ne HI0.out HO_3.out (by decide))); have n1_ := AM_ (Kd.R_over' (by exact RL HO148.out rfl) (Kd.R_typed (by exact RL HO_3.out rfl)) (by decide) hg); have n2_ := AM_ (below_weaken (by repeat (first | (with_reducible first | exact HB.out | apply below_alloc | apply pw_below_drewN | apply below_drew1 | refine below_set ?_ (IsS202.ge HI0.out)) | exact HB.out)) HL.out hb); have n3_ := AM_ (KeepBut.trans (by repeat (first | (with_reducible first | exact HK.out | apply KeepBut.set_ | apply keep_drewN | apply keep_drew | apply keep_alloc) | exact HK.out)) (KeepBut.of_grown hg g) (Kd.R_base2 HO_3.out)); have n4_ := AM_ (ho); clear HI0; clear HO148; clear HB; clear HK; clear HO_3; have HI0 := n0_; have HO148 := n1_; have HB := n2_; have HK := n3_; have HO154 := n4_; clear n0_ n1_ n2_ n3_ n4_; clear ho hb hg hat))
   go_roundg k1
   case measure => have := HK1.out; omega
   case rel => exact ⟨(y152), (wrap64 ((wrap64 ((ji12) + 1)) + t136)), (wrap64 (x5_1 - 1)), (t150), (t151), (by first | rfl | (simp; done) | (simp only [← hji12] <;> (first | rfl | simp)) | (simp [*]; done)), (by first | rfl | (simp; done) | (simp [*]; done)), H', ⟨by have := HK1.out; omega⟩, ⟨by exact RL HO154.out rfl⟩, ⟨by repeat (first | (with_reducible first | exact HI0.out | apply IsS202.alloc | apply IsS202.drewN | apply IsS202.drew | apply IsS202.set_1 | apply IsS202.set_2) | exact HI0.out)⟩, ⟨by repeat (first | (with_reducible first | exact HK.out | apply KeepBut.set_ | apply keep_drewN | apply keep_drew | apply keep_alloc) | exact HK.out)⟩, ⟨by repeat (first | (with_reducible first | exact HB.out | apply below_alloc | apply pw_below_drewN | apply below_drew1 | refine below_set ?_ (IsS202.ge HI0.out)) | exact HB.out)⟩⟩

/-! ### spec_l4Store: function 182 -/
def spec_l4Store.l0 : Nat → Int → List Int → Int → Int → List (List (S160)) → Option ((List (List (S160))) × Int × Int)
 | 0, _, _, _, _, _ => none
 | k + 1, x4, x1000, x1001, x1002, x157000 => if x4 < 6 then ((spec_l3Chain.f k x1000 x1001 x1002).bind fun bt157 => (if x157000.length < 5864062014805 then (spec_l4Store.l0 k (wrap64 (x4 + 1)) x1000 bt157.2.1 bt157.2.2 (x157000 ++ [bt157.1])) else (none))) else (some (x157000, x1001, x1002))
def spec_l4Store.f (k : Nat) (s0_0 : List Int) (s0_1 : Int) (s0_2 : Int) : Option ((List (List (S160))) × Int × Int) := spec_l4Store.l0 k 0 s0_0 s0_1 s0_2 ([] : List (List (S160)))
theorem spec_l4Store.mono_l : ∀ k, (∀ y0 y1 y2 y3 y4, LeO (spec_l4Store.l0 k y0 y1 y2 y3 y4) (spec_l4Store.l0 (k + 1) y0 y1 y2 y3 y4))
 | 0 => fun _ _ _ _ _ r h => by simp [spec_l4Store.l0] at h
 | k + 1 => by
  have ih0 := spec_l4Store.mono_l k
  ·intro y0 y1 y2 y3 y4
   unfold spec_l4Store.l0
   repeat' first
   | (with_reducible exact ih0 _ _ _ _ _)
   | (with_reducible exact spec_l3Chain.mono _ _ _ _)
   | (with_reducible exact LeO.refl _)
   | (with_reducible exact LeO.none _)
   | (with_reducible refine LeO.ite ?_ ?_)
   | (with_reducible refine LeO.bind ?_ (fun _ => ?_))
   | exact ih0 _ _ _ _ _
   | exact spec_l3Chain.mono _ _ _ _
   | exact LeO.none _
   | refine LeO.ite ?_ ?_
   | refine LeO.bind ?_ (fun _ => ?_)
theorem spec_l4Store.mono : ∀ a0 a1 a2 k, LeO (spec_l4Store.f k a0 a1 a2) (spec_l4Store.f (k + 1) a0 a1 a2) := by
 intro a0 a1 a2 k
 have ih0 := spec_l4Store.mono_l k
 unfold spec_l4Store.f
 repeat' first
   | (with_reducible exact ih0 _ _ _ _ _)
   | (with_reducible exact spec_l3Chain.mono _ _ _ _)
   | (with_reducible exact LeO.refl _)
   | (with_reducible exact LeO.none _)
   | (with_reducible refine LeO.ite ?_ ?_)
   | (with_reducible refine LeO.bind ?_ (fun _ => ?_))
   | exact ih0 _ _ _ _ _
   | exact spec_l3Chain.mono _ _ _ _
   | exact LeO.none _
   | refine LeO.ite ?_ ?_
   | refine LeO.bind ?_ (fun _ => ?_)
def spec_l4Store.T5 : Bool × List (List Nat × List Nat) := (true, [([], []), ([0], [0]), ([], []), ([2], [2]), ([3], [3]), ([1, 4, 3], [1, 4]), ([0, 1, 2, 3, 4, 5], []), ([6, 5, 5, 0, 1, 2, 3, 4, 5], [5, 6])])
def spec_l4Store.B5 : List Nat := [0, 1, 0, 4, 12, 31, 63, 127]
theorem spec_l4Store.tab5 : rtab .any (opsOf Try.f182 5) = spec_l4Store.T5 := by kernel_rfl
theorem spec_l4Store.bits5 : waitsOk spec_l4Store.T5.2 spec_l4Store.B5 = true := by kernel_rfl
set_option maxHeartbeats 8000000 in
set_option maxRecDepth 100000 in
theorem spec_l4Store.calls (k : Nat) (g : Nat) (s0_0 : List Int) (s0_1 : Int) (s0_2 : Int) (r1 : List (List (S160))) (r2 : Int) (r3 : Int) (w0 w : World) (hI : IsS202 w0 w g s0_0 s0_1 s0_2) (hB : Below w0.heap.size w0 w) (h : spec_l4Store.f k s0_0 s0_1 s0_2 = some (r1, r2, r3)) :
  Calls Try.prog 182 #[.pointer (some ⟨g, 0, none⟩)] w fun e w' => ∃ v0_ : Value, e = .returned (.agg #[v0_]) ∧ Kd.S (Kd.slice 160 k160) 158 w' w.heap.size (fun _ => True) v0_ r1 ∧ IsS202 w0 w' g s0_0 r2 r3 ∧ Below w0.heap.size w0 w' ∧ KeepBut w w' g none := by
 have hu72 := Try.underlying72
 have HI0 := AM_ hI
 have HK := AM_ (KeepBut.refl w g none)
 have HL := AM_ hB.size
 clear hI
 have HW0 := AM_ hB.size
 have HB := AM_ hB
 clear hB
 have H : (spec_l4Store.l0 k 0 s0_0 s0_1 s0_2 ([] : List (List (S160)))) = some (r1, r2, r3) := h
 clear h
 have H' := AM_ H
 clear H
 go_enter Try.func182, Try.ntmps182
 go_wp2_with (first | ((with_reducible refine gate_dst (N := 2) rfl ?_); refine box_event ?hg (N := 2) ?hd (cs := #[.slice none 0 0]) (t := 72) ?hr ?_; (case hd => rfl); (case hg => rfl); (case hr => first | (go_simp; done) | (go_simp; rfl)); intro gb155 hg w2 hbox hb; have n0_ := AM_ (IsS202.below (by repeat (first | (with_reducible first | exact HI0.out | apply IsS202.alloc | apply IsS202.drewN | apply IsS202.drew | apply IsS202.set_1 | apply IsS202.set_2) | exact HI0.out)) hb); have n1_ := AM_ (KeepBut.trans (by repeat (first | (with_reducible first | exact HK.out | apply KeepBut.set_ | apply keep_drewN | apply keep_drew | apply keep_alloc) | exact HK.out)) (KeepBut.of_below hb g none) (.inl rfl)); have n2_ := AM_ (below_step (by repeat (first | (with_reducible first | exact HB.out | apply below_alloc | apply pw_below_drewN | apply below_drew1 | refine below_set ?_ (IsS202.ge HI0.out)) | exact HB.out)) hb); have n3_ := AM_ (hbox); have n4_ := AM_ ((by rw [hg]; exact (keep_size (w := w) (g := g) (row := none) (by repeat (first | (with_reducible first | exact HK.out | apply KeepBut.set_ | apply keep_drewN | apply keep_drew | apply keep_alloc) | exact HK.out))) : w.heap.size ≤ gb155)); have n5_ := AM_ ((Nat.le_trans HW0.out (by rw [hg]; exact (keep_size (w := w) (g := g) (row := none) (by repeat (first | (with_reducible first | exact HK.out | apply KeepBut.set_ | apply keep_drewN | apply keep_drew | apply keep_alloc) | exact HK.out))) : w.heap.size ≤ gb155) : w0.heap.size ≤ gb155)); have n6_ := AM_ ((by rw [hg]; exact Nat.ne_of_lt (IsS202.lt (show IsS202 w0 _ g s0_0 s0_1 s0_2 from by repeat (first | (with_reducible first | exact HI0.out | apply IsS202.alloc | apply IsS202.drewN | apply IsS202.drew | apply IsS202.set_1 | apply IsS202.set_2) | exact HI0.out))) : g ≠ gb155)); have n7_ := AM_ ((by rw [hg]; exact Nat.ne_of_gt (IsS202.lt (show IsS202 w0 _ g s0_0 s0_1 s0_2 from by repeat (first | (with_reducible first | exact HI0.out | apply IsS202.alloc | apply IsS202.drewN | apply IsS202.drew | apply IsS202.set_1 | apply IsS202.set_2) | exact HI0.out))) : gb155 ≠ g)); clear HI0; clear HK; clear HB; have HI0 := n0_; have HK := n1_; have HB := n2_; have BK155 := n3_; have GW155 := n4_; have GE155 := n5_; have NB0_155 := n6_; have NB155_0 := n7_; clear n0_ n1_ n2_ n3_ n4_ n5_ n6_ n7_; clear hb hbox hg) | ((with_reducible refine gate_dst (N := 3) rfl ?_); refine box_event ?hg (N := 3) ?hd (cs := #[.slice none 0 0]) (t := 72) ?hr ?_; (case hd => rfl); (case hg => rfl); (case hr => first | (go_simp; done) | (go_simp; rfl)); intro gb156 hg w3 hbox hb; have n0_ := AM_ (IsS202.below (by repeat (first | (with_reducible first | exact HI0.out | apply IsS202.alloc | apply IsS202.drewN | apply IsS202.drew | apply IsS202.set_1 | apply IsS202.set_2 | refine IsS202.far ?_ NB0_155.out _) | exact HI0.out)) hb); have n1_ := AM_ (blk_below (g := gb155) (o := .cells #[.slice none 0 0] 72 (0, 0)) (by (with_reducible repeat (first | refine blk_drewN ?_ _ | refine blk_drew ?_ | refine blk_alloc ?_ _)); exact BK155.out) hb); have n2_ := AM_ (KeepBut.trans (by repeat (first | (with_reducible first | exact HK.out | apply KeepBut.set_ | apply keep_drewN | apply keep_drew | apply keep_alloc | refine keep_far ?_ GW155.out _) | exact HK.out)) (KeepBut.of_below hb g none) (.inl rfl)); have n3_ := AM_ (below_step (by repeat (first | (with_reducible first | exact HB.out | apply below_alloc | apply pw_below_drewN | apply below_drew1 | refine below_set ?_ (IsS202.ge HI0.out) | refine below_set ?_ GE155.out) | exact HB.out)) hb); have n4_ := AM_ (hbox); have n5_ := AM_ ((by rw [hg]; exact (keep_size (w := w) (g := g) (row := none) (by repeat (first | (with_reducible first | exact HK.out | apply KeepBut.set_ | apply keep_drewN | apply keep_drew | apply keep_alloc | refine keep_far ?_ GW155.out _) | exact HK.out))) : w.heap.size ≤ gb156)); have n6_ := AM_ ((Nat.le_trans HW0.out (by rw [hg]; exact (keep_size (w := w) (g := g) (row := none) (by repeat (first | (with_reducible first | exact HK.out | apply KeepBut.set_ | apply keep_drewN | apply keep_drew | apply keep_alloc | refine keep_far ?_ GW155.out _) | exact HK.out))) : w.heap.size ≤ gb156) : w0.heap.size ≤ gb156)); have n7_ := AM_ ((by rw [hg]; exact Nat.ne_of_lt (blk_lt (g := gb155) (o := .cells #[.slice none 0 0] 72 (0, 0)) (by (with_reducible repeat (first | refine blk_drewN ?_ _ | refine blk_drew ?_ | refine blk_alloc ?_ _)); exact BK155.out)) : gb155 ≠ gb156)); have n8_ := AM_ ((by rw [hg]; exact Nat.ne_of_gt (blk_lt (g := gb155) (o := .cells #[.slice none 0 0] 72 (0, 0)) (by (with_reducible repeat (first | refine blk_drewN ?_ _ | refine blk_drew ?_ | refine blk_alloc ?_ _)); exact BK155.out)) : gb156 ≠ gb155)); have n9_ := AM_ ((by rw [hg]; exact Nat.ne_of_lt (IsS202.lt (show IsS202 w0 _ g s0_0 s0_1 s0_2 from by repeat (first | (with_reducible first | exact HI0.out | apply IsS202.alloc | apply IsS202.drewN | apply IsS202.drew | apply IsS202.set_1 | apply IsS202.set_2 | refine IsS202.far ?_ NB0_155.out _) | exact HI0.out))) : g ≠ gb156)); have n10_ := AM_ ((by rw [hg]; exact Nat.ne_of_gt (IsS202.lt (show IsS202 w0 _ g s0_0 s0_1 s0_2 from by repeat (first | (with_reducible first | exact HI0.out | apply IsS202.alloc | apply IsS202.drewN | apply IsS202.drew | apply IsS202.set_1 | apply IsS202.set_2 | refine IsS202.far ?_ NB0_155.out _) | exact HI0.out))) : gb156 ≠ g)); clear HI0; clear BK155; clear HK; clear HB; have HI0 := n0_; have BK155 := n1_; have HK := n2_; have HB := n3_; have BK156 := n4_; have GW156 := n5_; have GE156 := n6_; have NB155_156 := n7_; have NB156_155 := n8_; have NB0_156 := n9_; have NB156_0 := n10_; clear n0_ n1_ n2_ n3_ n4_ n5_ n6_ n7_ n8_ n9_ n10_; clear hb hbox hg; have hnb4 := NB156_155.out; have hnc4 := NB155_156.out; have hnb5 := NB156_0.out; have hnc5 := NB0_156.out; have hcz6_0 : w3.cell? ⟨gb156, 0, none⟩ = some (.slice none 0 0) := (blk_cell BK156.out 0).trans rfl; have hfz6_0 := blk_frozen BK156.out 0))
 go_loopg [4] k (fun kq v4 w' => ∃ (x4_1 : Int) (x1001_1 : Int) (x1002_1 : Int) (x157000_1 : List (List (S160))) (u157000 : Value), v4 = .int .i64 x4_1 ∧ Aside0 (spec_l4Store.l0 kq x4_1 s0_0 x1001_1 x1002_1 x157000_1 = some (r1, r2, r3)) ∧ Aside0 (kq ≤ k) ∧ Aside0 (Kd.S (Kd.slice 160 k160) 158 w' w.heap.size (fun _ => True) u157000 x157000_1) ∧ Aside0 (w'.heap[gb155]? = some (.cells #[(.slice none 0 0)] 72 (0, 0))) ∧ Aside0 (w'.heap[gb156]? = some (.cells #[u157000] 72 (0, 0))) ∧ Aside0 (IsS202 w0 w' g s0_0 x1001_1 x1002_1) ∧ Aside0 (KeepBut w w' g none) ∧ Aside0 (Below w0.heap.size w0 w'))
 case atStart => exact ⟨(0), (s0_1), (s0_2), (([] : List (List (S160)))), (.slice none 0 0), (by first | rfl | (simp; done) | (simp [*]; done)), H', ⟨Nat.le_refl _⟩, ⟨by first | exact Kd.S_nil _ _ _ _ _ | exact Kd.N_nil _ _ _ _ _ | exact Kd.V_nil _ _ _ _ _ | exact Kd.Q_nil _ _ _ _ _ | exact Kd.R_nil _ _ _ _ _⟩, ⟨by (with_reducible repeat (first | refine blk_drewN ?_ _ | refine blk_drew ?_ | refine blk_alloc ?_ _)); refine blk_far ?_ NB155_156.out _; (with_reducible repeat (first | refine blk_drewN ?_ _ | refine blk_drew ?_ | refine blk_alloc ?_ _)); exact BK155.out⟩, ⟨by (with_reducible repeat (first | refine blk_drewN ?_ _ | refine blk_drew ?_ | refine blk_alloc ?_ _)); refine blk_put (cs := #[.slice none 0 0]) ?_ 0 _ rfl; (with_reducible repeat (first | refine blk_drewN ?_ _ | refine blk_drew ?_ | refine blk_alloc ?_ _)); exact BK156.out⟩, ⟨by repeat (first | (with_reducible first | exact HI0.out | apply IsS202.alloc | apply IsS202.drewN | apply IsS202.drew | apply IsS202.set_1 | apply IsS202.set_2 | refine IsS202.far ?_ NB0_155.out _ | refine IsS202.far ?_ NB0_156.out _) | exact HI0.out)⟩, ⟨by repeat (first | (with_reducible first | exact HK.out | apply KeepBut.set_ | apply keep_drewN | apply keep_drew | apply keep_alloc | refine keep_far ?_ GW155.out _ | refine keep_far ?_ GW156.out _) | exact HK.out)⟩, ⟨by repeat (first | (with_reducible first | exact HB.out | apply below_alloc | apply pw_below_drewN | apply below_drew1 | refine below_set ?_ (IsS202.ge HI0.out) | refine below_set ?_ GE155.out | refine below_set ?_ GE156.out) | exact HB.out)⟩⟩
 case round =>
  clear H'
  try clear c1
  try clear p2
  try clear c4
  try clear c5
  try clear hcz6_0
  try clear hfz6_0
  obtain ⟨x4_1, x1001_1, x1002_1, x157000_1, u157000, rfl, HA, HK1, HO_157000, BK155, BK156, HI0, HK, HB⟩ := hrel
  cases gk with
  | zero => exact absurd HA.out (by simp [spec_l4Store.l0])
  | succ k1 =>
   have H := HA.out
   clear HA
   simp only [spec_l4Store.l0] at H
   by_cases c7 : x4_1 < 6
   rotate_left
   ·rw [if_neg c7] at H
    have c7b0 : decide (x4_1 < 6) = false := decide_eq_false c7
    clear c7
    simp only [Option.some.injEq, Prod.mk.injEq] at H
    obtain ⟨rfl, rfl, rfl⟩ := H
    have hnb16 := NB156_155.out
    have hnc16 := NB155_156.out
    have hnb17 := NB156_0.out
    have hnc17 := NB0_156.out
    have hcz18_0 : wr.cell? ⟨gb156, 0, none⟩ = some (u157000) := (blk_cell BK156.out 0).trans rfl
    have hfz18_0 := blk_frozen BK156.out 0
    obtain ⟨Ao19, co19, eo19⟩ := Kd.S_slice HO_157000.out
    subst eo19
    have hnb20 := NB155_0.out
    have hnc20 := NB0_155.out
    have hcz21_0 : wr.cell? ⟨gb155, 0, none⟩ = some (.slice none 0 0) := (blk_cell BK155.out 0).trans rfl
    have hfz21_0 := blk_frozen BK155.out 0
    go_wp2
    refine bodyPost_ret (results_cell_row rfl _ _ gb155 72 #[.slice Ao19 x157000_1.length co19] (0, 0) _ rfl (by (with_reducible repeat (first | refine blk_drewN ?_ _ | refine blk_drew ?_ | refine blk_alloc ?_ _)); refine blk_put (cs := #[.slice none 0 0]) ?_ 0 _ rfl; (with_reducible repeat (first | refine blk_drewN ?_ _ | refine blk_drew ?_ | refine blk_alloc ?_ _)); exact BK155.out) Try.underlying72 rfl (by kernel_rfl)) rfl ?_
    exact ⟨_, by first | rfl | (simp [errW_none, errW_some] <;> rfl) | (simp [*, errW_none, errW_some] <;> rfl), by (with_reducible repeat (first | apply Kd.S_alloc | apply Kd.S_drewN | apply Kd.S_drew)); exact Kd.S_mono (Kd.S_far (p := ⟨gb155, 0, none⟩) (Kd.S_types HO_157000.out BK155.out (by decide)) (fun _ hk => hk.2) (.slice Ao19 x157000_1.length co19)) (fun _ hk => trivial), by repeat (first | (with_reducible first | exact HI0.out | apply IsS202.alloc | apply IsS202.drewN | apply IsS202.drew | apply IsS202.set_1 | apply IsS202.set_2 | refine IsS202.far ?_ NB0_155.out _ | refine IsS202.far ?_ NB0_156.out _) | exact HI0.out), by repeat (first | (with_reducible first | exact HB.out | apply below_alloc | apply pw_below_drewN | apply below_drew1 | refine below_set ?_ (IsS202.ge HI0.out) | refine below_set ?_ GE155.out | refine below_set ?_ GE156.out) | exact HB.out), by repeat (first | (with_reducible first | exact HK.out | apply KeepBut.set_ | apply keep_drewN | apply keep_drew | apply keep_alloc | refine keep_far ?_ GW155.out _ | refine keep_far ?_ GW156.out _) | exact HK.out)⟩
   rw [if_pos c7] at H
   have c7b0 : decide (x4_1 < 6) = true := decide_eq_true c7
   clear c7
   replace H := Option.bind_eq_some_iff.mp H
   obtain ⟨⟨t157, t160, t161⟩, A80, H⟩ := H
   replace H : (if x157000_1.length < 5864062014805 then (spec_l4Store.l0 k1 (wrap64 (x4_1 + 1)) s0_0 t160 t161 (x157000_1 ++ [t157])) else (none)) = some (r1, r2, r3) := H
   have A8 := AM_ A80
   clear A80
   by_cases c9 : x157000_1.length < 5864062014805
   rotate_left
   ·rw [if_neg c9] at H
    exact absurd H (by simp)
   rw [if_pos c9] at H
   have LMc9 := AM_ c9
   clear c9
   obtain ⟨y162, hy162⟩ : ∃ y_ : List (List (S160)), y_ = (x157000_1 ++ [t157]) := ⟨_, rfl⟩
   replace H : (spec_l4Store.l0 k1 (wrap64 (x4_1 + 1)) s0_0 t160 t161 y162) = some (r1, r2, r3) := by first | (rw [hy162]; with_reducible exact H) | (have H2_ := (Option.bind_some _ _).symm.trans H; rw [hy162]; with_reducible exact H2_) | (have H2_ := (Option.bind_some _ _).symm.trans H; with_reducible exact H2_) | with_reducible exact H | (rw [hy162]; exact H) | exact H
   have Ny162 := AM_ hy162
   clear hy162
   have H' := AM_ H
   clear H
   try go_wp2
   have n0_ := AM_ (Kd.S_drew HO_157000.out)
   have n1_ := AM_ (blk_drew BK155.out)
   have n2_ := AM_ (blk_drew BK156.out)
   have n3_ := AM_ (IsS202.drew HI0.out)
   have n4_ := AM_ (keep_drew HK.out)
   have n5_ := AM_ (below_drew1 HB.out)
   clear HO_157000
   clear BK155
   clear BK156
   clear HI0
   clear HK
   clear HB
   have HO_157000 := n0_
   have BK155 := n1_
   have BK156 := n2_
   have HI0 := n3_
   have HK := n4_
   have HB := n5_
   clear n0_ n1_ n2_ n3_ n4_ n5_
   refine start_ (n := 8) (S := fun w' => w'.cell? ⟨gb156, 0, none⟩ = some (u157000)) (ds := [7]) (bs 0 8) (by kernel_rfl) rfl rfl ((blk_cell BK156.out 0).trans rfl) (fun hHeld => ?_); refine with_tabW spec_l4Store.tab5 spec_l4Store.bits5 (fun HT_ HW_ => ?_)
   generalize wr.drew = w10 at HO_157000 BK155 BK156 HI0 HK HB hHeld ⊢
   refine pure_ (i := 0) (N := some 10) (v := ?_) (a' := ?_) (bs 1 8) rfl rfl (any_of HT_.out (by kernel_rfl)) (fun _ _ _ h => h) (Or.inl ⟨by rfl, ?_⟩) ?_ ?_
   rotate_left
   ·intro w'
    go_simp
    with_reducible rfl
   rotate_left
   ·simp only [pA, pS, pZ, pK, i64_w, i32_w]
    rfl
   refine pure_ (i := 2) (N := some 12) (v := ?_) (a' := ?_) (bs 5 8) rfl rfl (any_of HT_.out (by kernel_rfl)) (fun _ _ _ h => h) (Or.inl ⟨by rfl, ?_⟩) ?_ ?_
   rotate_left
   ·intro w'
    go_simp
    with_reducible rfl
   rotate_left
   ·simp only [pA, pS, pZ, pK, i64_w, i32_w]
    rfl
   refine take_ (i := 1) (N := some 11) (v := ?_) (a' := ?_) (bs 7 8) rfl rfl (take_ofW HT_.out HW_.out (by kernel_rfl)) (fun _ _ _ h => h) (Or.inl ⟨by rfl, ?_⟩) hHeld ?_ ?_
   rotate_left
   ·intro w' s0
    go_simp
    with_reducible rfl
   rotate_left
   ·simp only [pA, pS, pZ, pK, i64_w, i32_w]
    rfl
   refine one_ (i := 3) (N := some 13) (bs 15 8) rfl rfl (one_of HT_.out (by kernel_rfl)) (by decide) (fun K hK => ?_)
   refine goes_ Try.func211 (by kernel_rfl) rfl #[.pointer (some ⟨g, 0, none⟩)] (by rfl) rfl rfl (by (try simp only [List.map_toArray, List.map_cons, List.map_nil]); first | done | rfl | (simp only [List.length_drop, List.length_take]; rfl)) ?_
   with_reducible refine (spec_l3Chain.calls k1 g s0_0 x1001_1 x1002_1 t157 t160 t161 w0 _ ?side1 ?side2 A8.out).mono ?_
   (case side1 => repeat (first | (with_reducible first | exact HI0.out | apply IsS202.alloc | apply IsS202.drewN | apply IsS202.drew | apply IsS202.set_1 | apply IsS202.set_2 | refine IsS202.far ?_ NB0_155.out _ | refine IsS202.far ?_ NB0_156.out _) | exact HI0.out))
   (case side2 => repeat (first | (with_reducible first | exact HB.out | apply below_alloc | apply pw_below_drewN | apply below_drew1 | refine below_set ?_ (IsS202.ge HI0.out) | refine below_set ?_ GE155.out | refine below_set ?_ GE156.out) | exact HB.out))
   rintro e w11 ⟨v158, rfl, ho0, hi, hb, hk⟩
   refine ⟨_, rfl, ?_⟩
   have n0_ := AM_ (Kd.S_mono (Kd.S_told (Kd.S_oldK (IsS202.apartS (show IsS202 w0 _ g s0_0 x1001_1 x1002_1 from by repeat (first | (with_reducible first | exact HI0.out | apply IsS202.alloc | apply IsS202.drewN | apply IsS202.drew | apply IsS202.set_1 | apply IsS202.set_2 | refine IsS202.far ?_ NB0_155.out _ | refine IsS202.far ?_ NB0_156.out _) | exact HI0.out)) (by exact SL HO_157000.out rfl) (by decide)) hk) (Kd.R_base ho0)) (fun _ h_ => h_.1))
   have n1_ := AM_ (KeepBut.blk hk (g' := gb155) (o := .cells #[.slice none 0 0] 72 (0, 0)) (by (with_reducible repeat (first | refine blk_drewN ?_ _ | refine blk_drew ?_ | refine blk_alloc ?_ _)); exact BK155.out) NB155_0.out (by simp))
   have n2_ := AM_ (KeepBut.blk hk (g' := gb156) (o := .cells #[u157000] 72 (0, 0)) (by (with_reducible repeat (first | refine blk_drewN ?_ _ | refine blk_drew ?_ | refine blk_alloc ?_ _)); exact BK156.out) NB156_0.out (by simp))
   have n3_ := AM_ (Kd.R_lower ho0 (keep_size (w := w) (g := g) (row := none) (by repeat (first | (with_reducible first | exact HK.out | apply KeepBut.set_ | apply keep_drewN | apply keep_drew | apply keep_alloc | refine keep_far ?_ GW155.out _ | refine keep_far ?_ GW156.out _) | exact HK.out))))
   have n4_ := AM_ (KeepBut.trans (by repeat (first | (with_reducible first | exact HK.out | apply KeepBut.set_ | apply keep_drewN | apply keep_drew | apply keep_alloc | refine keep_far ?_ GW155.out _ | refine keep_far ?_ GW156.out _) | exact HK.out)) hk (.inl rfl))
   have n5_ := AM_ (hb)
   have n6_ := AM_ (hi)
   clear HO_157000
   clear BK155
   clear BK156
   clear HK
   clear HB
   clear HI0
   have HO_157000 := n0_
   have BK155 := n1_
   have BK156 := n2_
   have HO159 := n3_
   have HK := n4_
   have HB := n5_
   have HI0 := n6_
   clear n0_ n1_ n2_ n3_ n4_ n5_ n6_
   (try clear hb)
   (try clear hb2)
   (try clear hk)
   (try clear hi)
   (try clear ho0)
   obtain ⟨Ao13, co13, eo13⟩ := Kd.R_slice HO159.out
   (first | subst eo13 | (injection eo13 with f1_ f2_ f3_; have f4_ := f1_.symm; have f5_ := f3_.symm; clear f1_ f2_ f3_; subst f4_; subst f5_))
   refine hK.out _ _ ((blk_cell BK156.out 0).trans rfl) (fun hHeld => ?_)
   clear hK K
   refine norm_ (a' := ?_) ?_ ?_
   rotate_left
   ·show Act.put _ (some 13) _ = _
    simp only [pA, pS, pZ, pK, i64_w, i32_w]
    rfl
   refine one_ (i := 4) (N := some 14) (bs 31 8) rfl rfl (one_of HT_.out (by kernel_rfl)) (by decide) (fun K hK => ?_)
   refine value_ (w1 := ?_) (v := ?_) (by rfl) rfl ?_ ?_
   rotate_left 2
   ·go_simp
    constructor
    ·rfl
    ·rfl
   refine hK.out _ _ ((blk_cell (blk_alloc BK156.out _) 0).trans rfl) (fun hHeld => ?_)
   clear hK K
   refine norm_ (a' := ?_) ?_ ?_
   rotate_left
   ·show Act.put _ (some 14) _ = _
    simp only [pA, pS, pZ, pK, i64_w, i32_w]
    rfl
   refine one_ (i := 5) (N := some 15) (bs 63 8) rfl rfl (one_of HT_.out (by kernel_rfl)) (by decide) (fun K hK => ?_)
   refine Kd.S_append_step (Kd.slice 160 k160) w.heap.size (by rfl) (.tmp 11) (.tmp 14) 70 158 (.slice none 0 0) 24 rfl Try.underlying70 info158 rfl (by decide) (by omega) u157000 x157000_1 t157 [.slice Ao13 t157.length co13] (fun _ => True) (fun k_ => some k_ = (.slice Ao13 t157.length co13 : Value).ownBlock) rfl rfl ?aP (fun k_ hk_ => ((Kd.R_mono (ok' := fun k_ => ((fun _ => True)) k_ ∧ some k_ ≠ (u157000 : Value).ownBlock) (Kd.R_apart' (HO159.out) (Kd.S_typed HO_157000.out) (by decide)) (fun k_ hk => ⟨trivial, hk.2⟩))).1 k_ hk_.symm) ?aF ?aO (Below.refl _ _) ?aS ?aL ?_
   (case aP => exact Kd.M_row (Kd.R_mono (Kd.R_tight rfl (Kd.R_mono (ok' := fun k_ => ((fun _ => True)) k_ ∧ some k_ ≠ (u157000 : Value).ownBlock) (Kd.R_apart' (HO159.out) (Kd.S_typed HO_157000.out) (by decide)) (fun k_ hk => ⟨trivial, hk.2⟩))) (fun _ h_ => h_)))
   (case aF => exact (fun _ _ => trivial))
   (case aO => exact (by (with_reducible repeat (first | apply Kd.S_alloc | apply Kd.S_drewN | apply Kd.S_drew)); exact Kd.S_mono HO_157000.out (fun k_ hk => ⟨trivial, fun e_ => hk.2 e_⟩)))
   (case aS => exact (keep_size (w := w) (g := g) (row := none) (by repeat (first | (with_reducible first | exact HK.out | apply KeepBut.set_ | apply keep_drewN | apply keep_drew | apply keep_alloc | refine keep_far ?_ GW155.out _ | refine keep_far ?_ GW156.out _) | exact HK.out))))
   (case aL => have := LMc9.out; omega)
   intro v163 w12 ho hb hg hat
   rw [← Ny162.out] at ho
   have n0_ := AM_ (blk_grown (g := gb155) (o := .cells #[.slice none 0 0] 72 (0, 0)) (by (with_reducible repeat (first | refine blk_drewN ?_ _ | refine blk_drew ?_ | refine blk_alloc ?_ _)); exact BK155.out) hg (Kd.S_ne HO_157000.out BK155.out (by decide)))
   have n1_ := AM_ (blk_grown (g := gb156) (o := .cells #[u157000] 72 (0, 0)) (by (with_reducible repeat (first | refine blk_drewN ?_ _ | refine blk_drew ?_ | refine blk_alloc ?_ _)); exact BK156.out) hg (Kd.S_ne HO_157000.out BK156.out (by decide)))
   have n2_ := AM_ (IsS202.grown (by repeat (first | (with_reducible first | exact HI0.out | apply IsS202.alloc | apply IsS202.drewN | apply IsS202.drew | apply IsS202.set_1 | apply IsS202.set_2 | refine IsS202.far ?_ NB0_155.out _ | refine IsS202.far ?_ NB0_156.out _) | exact HI0.out)) hg (IsS202.own_neS HI0.out HO_157000.out (by decide)))
   have n3_ := AM_ (below_weaken (by repeat (first | (with_reducible first | exact HB.out | apply below_alloc | apply pw_below_drewN | apply below_drew1 | refine below_set ?_ (IsS202.ge HI0.out) | refine below_set ?_ GE155.out | refine below_set ?_ GE156.out) | exact HB.out)) HL.out hb)
   have n4_ := AM_ (KeepBut.trans (by repeat (first | (with_reducible first | exact HK.out | apply KeepBut.set_ | apply keep_drewN | apply keep_drew | apply keep_alloc | refine keep_far ?_ GW155.out _ | refine keep_far ?_ GW156.out _) | exact HK.out)) (KeepBut.of_grown hg g) (Kd.S_base2 HO_157000.out))
   have n5_ := AM_ (ho)
   clear BK155
   clear BK156
   clear HI0
   clear HB
   clear HK
   clear HO_157000
   clear HO159
   have BK155 := n0_
   have BK156 := n1_
   have HI0 := n2_
   have HB := n3_
   have HK := n4_
   have HO164 := n5_
   clear n0_ n1_ n2_ n3_ n4_ n5_
   clear ho hb hg hat
   obtain ⟨Ao14, co14, eo14⟩ := Kd.S_slice HO164.out
   (first | subst eo14 | (injection eo14 with f1_ f2_ f3_; have f4_ := f1_.symm; have f5_ := f3_.symm; clear f1_ f2_ f3_; subst f4_; subst f5_))
   refine hK.out _ _ ((blk_cell BK156.out 0).trans rfl) (fun hHeld => ?_)
   clear hK K
   refine norm_ (a' := ?_) ?_ ?_
   rotate_left
   ·show Act.put _ (some 15) _ = _
    simp only [pA, pS, pZ, pK, i64_w, i32_w]
    rfl
   refine pure_ (i := 6) (N := some 16) (v := ?_) (a' := ?_) (bs 127 8) rfl rfl (any_of HT_.out (by kernel_rfl)) (fun _ _ _ h => h) (Or.inl ⟨by rfl, ?_⟩) ?_ ?_
   rotate_left
   ·intro w'
    go_simp
    with_reducible rfl
   rotate_left
   ·simp only [pA, pS, pZ, pK, i64_w, i32_w]
    rfl
   refine last_ (i := 7) (N := none) (bs 255 8) rfl rfl (one_of HT_.out (by kernel_rfl)) (by decide) (fun K hK => ?_)
   have hs15 : w12.cell? ⟨gb156, 0, none⟩ = some (u157000) := (blk_cell BK156.out 0).trans rfl
   have hfs15 := blk_frozen BK156.out 0
   have hns15_0 := NB155_156.out
   have hms15_0 := NB156_155.out
   refine skip_ (w1 := ?_) (by rfl) rfl ?_ ?_
   rotate_left
   ·go_simp
    rfl
   refine hK.out _ _ ?_
   clear hK K
   refine done_ (done_of HT_.out (by kernel_rfl)) ?_
   try go_wp2
   go_roundg k1
   case measure => have := HK1.out; omega
   case rel => exact ⟨(wrap64 (x4_1 + 1)), (t160), (t161), (y162), (.slice Ao14 y162.length co14), (by first | rfl | (simp; done) | (simp [*]; done)), H', ⟨by have := HK1.out; omega⟩, ⟨by (with_reducible repeat (first | apply Kd.S_alloc | apply Kd.S_drewN | apply Kd.S_drew)); exact Kd.S_mono (Kd.S_far (p := ⟨gb156, 0, none⟩) (Kd.S_types HO164.out BK156.out (by decide)) (fun _ hk => hk.2) (.slice Ao14 y162.length co14)) (fun _ hk => trivial)⟩, ⟨by (with_reducible repeat (first | refine blk_drewN ?_ _ | refine blk_drew ?_ | refine blk_alloc ?_ _)); refine blk_far ?_ NB155_156.out _; (with_reducible repeat (first | refine blk_drewN ?_ _ | refine blk_drew ?_ | refine blk_alloc ?_ _)); exact BK155.out⟩, ⟨by (with_reducible repeat (first | refine blk_drewN ?_ _ | refine blk_drew ?_ | refine blk_alloc ?_ _)); refine blk_put (cs := #[u157000]) ?_ 0 _ rfl; (with_reducible repeat (first | refine blk_drewN ?_ _ | refine blk_drew ?_ | refine blk_alloc ?_ _)); exact BK156.out⟩, ⟨by repeat (first | (with_reducible first | exact HI0.out | apply IsS202.alloc | apply IsS202.drewN | apply IsS202.drew | apply IsS202.set_1 | apply IsS202.set_2 | refine IsS202.far ?_ NB0_155.out _ | refine IsS202.far ?_ NB0_156.out _) | exact HI0.out)⟩, ⟨by repeat (first | (with_reducible first | exact HK.out | apply KeepBut.set_ | apply keep_drewN | apply keep_drew | apply keep_alloc | refine keep_far ?_ GW155.out _ | refine keep_far ?_ GW156.out _) | exact HK.out)⟩, ⟨by repeat (first | (with_reducible first | exact HB.out | apply below_alloc | apply pw_below_drewN | apply below_drew1 | refine below_set ?_ (IsS202.ge HI0.out) | refine below_set ?_ GE155.out | refine below_set ?_ GE156.out) | exact HB.out)⟩⟩

end Go.Proofs.Ytpiaeinfneoioaa.PFnPhantoms
