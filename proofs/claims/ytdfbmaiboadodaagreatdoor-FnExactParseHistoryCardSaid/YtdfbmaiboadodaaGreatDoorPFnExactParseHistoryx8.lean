-- Printed by wip/myprint.py.
import Derived.Test.YtdfbmaiboadodaaGreatDoorPFnExactParseHistoryx7
namespace Go.Proofs.YtdfbmaiboadodaaGreatDoor.PFnExactParseHistory
open Go.RowKit Go.Proofs.YtdfbmaiboadodaaGreatDoorW.PrintWords Go.Proofs.YtdfbmaiboadodaaGreatDoorW.PrintLast Go.Proofs.YtdfbmaiboadodaaGreatDoorW.PrintMore
set_option maxHeartbeats 8000000
set_option maxRecDepth 100000
set_option linter.unusedVariables false
set_option linter.unusedSimpArgs false

/-! ### spec_ParseHistory: function 4 -/
mutual
def spec_ParseHistory.l0 : Nat → ByteArray → List (S33) → List ByteArray → Int → Option ((List (S33)) × Bool)
 | 0, _, _, _, _ => none
 | k + 1, x0, x4, x5, x6 => if x6 < (x5.length : Int) then (spec_ParseHistory.j1 k x0 x4 x5 x6 (decide (x6 ≤ 9))) else (spec_ParseHistory.j1 k x0 x4 x5 x6 false)
def spec_ParseHistory.j1 : Nat → ByteArray → List (S33) → List ByteArray → Int → Bool → Option ((List (S33)) × Bool)
 | 0, _, _, _, _, _ => none
 | k + 1, x0, x4, x5, x6, x22 => if x22 = true then (if 0 ≤ x6 then (if x6 < (x5.length : Int) then (if x6 > 0 then (if (rdOf ByteArray.empty x5 x6).toList = ([] : List UInt8) then ((spec_l18Read.f k (rdOf ByteArray.empty x5 x6)).bind fun bt240 => (if x4.length < 2199023255552 then (spec_ParseHistory.l0 k x0 (x4 ++ [(⟨bt240.1, bt240.2.1, bt240.2.2.1, bt240.2.2.2⟩ : S33)]) x5 (wrap64 (x6 + 1))) else (none))) else (if 1 ≤ ((rdOf ByteArray.empty x5 x6).size : Int) then ((spec_l18Read.f k ((rdOf ByteArray.empty x5 x6).extract 1 (rdOf ByteArray.empty x5 x6).size)).bind fun bt252 => (if x4.length < 2199023255552 then (spec_ParseHistory.l0 k x0 (x4 ++ [(⟨bt252.1, bt252.2.1, bt252.2.2.1, bt252.2.2.2⟩ : S33)]) x5 (wrap64 (x6 + 1))) else (none))) else (none))) else ((spec_l18Read.f k (rdOf ByteArray.empty x5 x6)).bind fun bt264 => (if x4.length < 2199023255552 then (spec_ParseHistory.l0 k x0 (x4 ++ [(⟨bt264.1, bt264.2.1, bt264.2.2.1, bt264.2.2.2⟩ : S33)]) x5 (wrap64 (x6 + 1))) else (none)))) else (none)) else (none)) else (if x0.toList = ([] : List UInt8) then (some ((([] : List (S33))), false)) else ((spec_FormatHistory.f k x4).bind fun t279 => (if t279.toList = x0.toList then (some (x4, true)) else (some ((([] : List (S33))), false)))))
end
def spec_ParseHistory.f (k : Nat) (a0 : ByteArray) : Option ((List (S33)) × Bool) := (some (([] : List (S33)) : List (S33))).bind fun y233 => (if a0.toList = ([110, 111, 110, 101] : List UInt8) then (some (y233, true)) else ((spec_l2Cut.f k a0 59).bind fun t236 => (spec_ParseHistory.l0 k a0 y233 t236 0)))
theorem spec_ParseHistory.mono_l : ∀ k, (∀ y0 y1 y2 y3, LeO (spec_ParseHistory.l0 k y0 y1 y2 y3) (spec_ParseHistory.l0 (k + 1) y0 y1 y2 y3)) ∧ (∀ y0 y1 y2 y3 y4, LeO (spec_ParseHistory.j1 k y0 y1 y2 y3 y4) (spec_ParseHistory.j1 (k + 1) y0 y1 y2 y3 y4))
 | 0 => ⟨fun _ _ _ _ r h => by simp [spec_ParseHistory.l0] at h, fun _ _ _ _ _ r h => by simp [spec_ParseHistory.j1] at h⟩
 | k + 1 => by
  obtain ⟨ih0, ih1⟩ := spec_ParseHistory.mono_l k
  refine ⟨?_, ?_⟩
  ·intro y0 y1 y2 y3
   unfold spec_ParseHistory.l0
   repeat' first
   | (with_reducible exact ih0 _ _ _ _)
   | (with_reducible exact ih1 _ _ _ _ _)
   | (with_reducible exact spec_FormatHistory.mono _ _)
   | (with_reducible exact spec_l18Read.mono _ _)
   | (with_reducible exact spec_l2Cut.mono _ _ _)
   | (with_reducible first | exact LeO.refl _ | exact LeO.none _ | refine LeO.ite ?_ ?_ | refine LeO.bind ?_ (fun _ => ?_))
   | exact ih0 _ _ _ _
   | exact ih1 _ _ _ _ _
   | exact spec_FormatHistory.mono _ _
   | exact spec_l18Read.mono _ _
   | exact spec_l2Cut.mono _ _ _
   | exact LeO.none _ | refine LeO.ite ?_ ?_ | refine LeO.bind ?_ (fun _ => ?_)
  ·intro y0 y1 y2 y3 y4
   unfold spec_ParseHistory.j1
   repeat' first
   | (with_reducible exact ih0 _ _ _ _)
   | (with_reducible exact ih1 _ _ _ _ _)
   | (with_reducible exact spec_FormatHistory.mono _ _)
   | (with_reducible exact spec_l18Read.mono _ _)
   | (with_reducible exact spec_l2Cut.mono _ _ _)
   | (with_reducible first | exact LeO.refl _ | exact LeO.none _ | refine LeO.ite ?_ ?_ | refine LeO.bind ?_ (fun _ => ?_))
   | exact ih0 _ _ _ _
   | exact ih1 _ _ _ _ _
   | exact spec_FormatHistory.mono _ _
   | exact spec_l18Read.mono _ _
   | exact spec_l2Cut.mono _ _ _
   | exact LeO.none _ | refine LeO.ite ?_ ?_ | refine LeO.bind ?_ (fun _ => ?_)
theorem spec_ParseHistory.mono : ∀ a0 k, LeO (spec_ParseHistory.f k a0) (spec_ParseHistory.f (k + 1) a0) := by
 intro a0 k
 obtain ⟨ih0, ih1⟩ := spec_ParseHistory.mono_l k
 unfold spec_ParseHistory.f
 repeat' first
   | (with_reducible exact ih0 _ _ _ _)
   | (with_reducible exact ih1 _ _ _ _ _)
   | (with_reducible exact spec_FormatHistory.mono _ _)
   | (with_reducible exact spec_l18Read.mono _ _)
   | (with_reducible exact spec_l2Cut.mono _ _ _)
   | (with_reducible first | exact LeO.refl _ | exact LeO.none _ | refine LeO.ite ?_ ?_ | refine LeO.bind ?_ (fun _ => ?_))
   | exact ih0 _ _ _ _
   | exact ih1 _ _ _ _ _
   | exact spec_FormatHistory.mono _ _
   | exact spec_l18Read.mono _ _
   | exact spec_l2Cut.mono _ _ _
   | exact LeO.none _ | refine LeO.ite ?_ ?_ | refine LeO.bind ?_ (fun _ => ?_)
theorem spec_ParseHistory.calls (k : Nat) (a0 : ByteArray) (r1 : List (S33)) (r2 : Bool) (w : World) (h : spec_ParseHistory.f k a0 = some (r1, r2)) :
  Calls Tryz.prog 4 #[.string a0] w fun e w' => ∃ v0_ : Value, e = .returned (.tuple #[v0_, .bool r2]) ∧ Kd.S k33 33 w' w.heap.size (fun _ => True) v0_ r1 ∧ Below w.heap.size w w' := by
 have hu33 := Tryz.underlying33
 have HB := AM_ (Below.refl w.heap.size w)
 have H : ((some (([] : List (S33)) : List (S33))).bind fun y233 => (if a0.toList = ([110, 111, 110, 101] : List UInt8) then (some (y233, true)) else ((spec_l2Cut.f k a0 59).bind fun t236 => (spec_ParseHistory.l0 k a0 y233 t236 0)))) = some (r1, r2) := h
 clear h
 obtain ⟨y233, hy233⟩ : ∃ y_ : List (S33), y_ = (([] : List (S33))) := ⟨_, rfl⟩
 replace H : (if a0.toList = ([110, 111, 110, 101] : List UInt8) then (some (y233, true)) else ((spec_l2Cut.f k a0 59).bind fun t236 => (spec_ParseHistory.l0 k a0 y233 t236 0))) = some (r1, r2) := by first | (rw [hy233]; with_reducible exact H) | (have H2_ := (Option.bind_some _ _).symm.trans H; rw [hy233]; with_reducible exact H2_) | (have H2_ := (Option.bind_some _ _).symm.trans H; with_reducible exact H2_) | with_reducible exact H | (rw [hy233]; exact H) | exact H
 have Ny233 := AM_ hy233
 clear hy233
 by_cases c2 : a0.toList = ([110, 111, 110, 101] : List UInt8)
 ·rw [if_pos c2] at H
  have c2b0 : (a0.toList == ([110, 111, 110, 101] : List UInt8)) = true := beq_iff_eq.mpr c2
  have c2b1 : (a0.toList != ([110, 111, 110, 101] : List UInt8)) = false := bne_eq_false_iff_eq.mpr c2
  clear c2
  simp only [Option.some.injEq, Prod.mk.injEq] at H
  obtain ⟨rfl, rfl⟩ := H
  go_enter Tryz.func4, Tryz.ntmps4
  go_wp2_with (first | ((with_reducible refine gate_dst (N := 9) rfl ?_); refine Kd.S_lit k33 _ 33 ?hg (N := 9) ?hd (xs := ([] : List (S33))) (inner := []) (ok := fun _ => True) (okp := fun _ => True) ?hr ?hp (fun _ hk => hk) trivial (Below.refl _ _) (Nat.le_refl _) (by simp) ?_; (case hd => rfl); (case hg => rfl); (case hr => first | (go_simp; done) | (go_simp; rfl)); (case hp => exact (Reps.none _ _)); intro v234 w3 ho4 hb hg_ hnew_; clear hg_ hnew_; (first | rw [← Ny233.out] at ho4 | (simp only [Int.reduceToNat] at ho4; rw [← Ny233.out] at ho4)); have HO235 := AM_ (Kd.S_lower ho4 (below_size (BT HB.out))); replace HB := AM_ (below_step (BT HB.out) hb); clear hb ho4))
  go_ret2
  exact ⟨_, by first | rfl | (simp [errW_none, errW_some] <;> rfl) | (simp [*, errW_none, errW_some] <;> rfl), ST HO235.out, BT HB.out⟩
 rw [if_neg c2] at H
 have c2b0 : (a0.toList == ([110, 111, 110, 101] : List UInt8)) = false := beq_eq_false_iff_ne.mpr c2
 have c2b1 : (a0.toList != ([110, 111, 110, 101] : List UInt8)) = true := bne_iff_ne.mpr c2
 replace H := Option.bind_eq_some_iff.mp H
 obtain ⟨t236, A50, H⟩ := H
 replace H : (spec_ParseHistory.l0 k a0 y233 t236 0) = some (r1, r2) := H
 have A5 := AM_ A50
 clear A50
 have H' := AM_ H
 clear H
 go_enter Tryz.func4, Tryz.ntmps4
 go_wp2_with (first | ((with_reducible refine gate_dst (N := 9) rfl ?_); refine Kd.S_lit k33 _ 33 ?hg (N := 9) ?hd (xs := ([] : List (S33))) (inner := []) (ok := fun _ => True) (okp := fun _ => True) ?hr ?hp (fun _ hk => hk) trivial (Below.refl _ _) (Nat.le_refl _) (by simp) ?_; (case hd => rfl); (case hg => rfl); (case hr => first | (go_simp; done) | (go_simp; rfl)); (case hp => exact (Reps.none _ _)); intro v234 w6 ho7 hb hg_ hnew_; clear hg_ hnew_; (first | rw [← Ny233.out] at ho7 | (simp only [Int.reduceToNat] at ho7; rw [← Ny233.out] at ho7)); have HO235 := AM_ (Kd.S_lower ho7 (below_size (BT HB.out))); replace HB := AM_ (below_step (BT HB.out) hb); clear hb ho7) | ((with_reducible refine gate_callee (f := 9) rfl ?_); refine goesL_ (some 14) rfl rfl Tryz.func9 (by kernel_rfl) rfl #[.string a0, .int .u8 59] rfl (by (try simp only [List.map_toArray, List.map_cons, List.map_nil]); first | done | rfl | (simp only [List.length_drop, List.length_take]; rfl)) ?_; (with_reducible refine (spec_l2Cut.calls k a0 59 t236 _ A5.out).mono ?_); rintro e w8 ⟨v237, rfl, ho0, hb⟩; refine ⟨_, rfl, ?_⟩; replace HO235 := AM_ (Kd.S_below (ST HO235.out) hb); have HO238 := AM_ (Kd.R_lower ho0 (below_size (BT HB.out))); replace HB := AM_ (below_step (BT HB.out) hb); (try clear hb); (try clear hb2); (try clear hk); (try clear hi); (try clear ho0)))
 go_loopg [4, 6] k (fun kq v4 v6 w' => ∃ (x4_1 : List (S33)) (x6_1 : Int), v6 = .int .i64 x6_1 ∧ Aside0 (spec_ParseHistory.l0 kq a0 x4_1 t236 x6_1 = some (r1, r2)) ∧ Aside0 (kq ≤ k) ∧ Aside0 (Kd.S k33 33 w' w.heap.size (fun _ => True) v4 x4_1) ∧ Aside0 (Kd.R Kd.string 9 w' w.heap.size (fun _ => True) v237 t236) ∧ Aside0 (Below w.heap.size w w'))
 case atStart => exact ⟨(y233), (0), (by first | rfl | (simp; done) | (simp [*]; done)), H', ⟨Nat.le_refl _⟩, ⟨ST HO235.out⟩, ⟨RT HO238.out⟩, ⟨BT HB.out⟩⟩
 case round =>
  clear H'
  try clear c2
  try clear c2b0
  try clear c2b1
  try clear p2
  try clear c4
  obtain ⟨x4_1, x6_1, rfl, HA, HK1, HO_4, HO_5, HB⟩ := hrel
  cases gk with
  | zero => exact absurd HA.out (by simp [spec_ParseHistory.l0])
  | succ k1 =>
   have H := HA.out
   clear HA
   simp only [spec_ParseHistory.l0] at H
   have HC9 := AM_ H
   clear H
   go_upto_region 6 with (fail)
   go_cut [22] (fun v22 wc => ∃ (kq : Nat) (x22_8 : Bool), v22 = .bool x22_8 ∧ Aside0 (spec_ParseHistory.j1 kq a0 x4_1 t236 x6_1 x22_8 = some (r1, r2)) ∧ Aside0 (kq ≤ k1) ∧ Aside0 (Kd.S k33 33 wc w.heap.size (fun _ => True) u4 x4_1) ∧ Aside0 (Kd.R Kd.string 9 wc w.heap.size (fun _ => True) v237 t236) ∧ Aside0 (Below w.heap.size w wc))
   case first =>
    have H := HC9.out
    clear HC9
    by_cases c10 : x6_1 < (t236.length : Int)
    rotate_left
    ·rw [if_neg c10] at H
     have c10b0 : decide (x6_1 < (t236.length : Int)) = false := decide_eq_false c10
     clear c10
     (first | rw [c10b0] | (simp only [i64_w, i32_w]; rw [c10b0]) | skip)
     have H' := AM_ H
     clear H
     obtain ⟨Ao12, co12, eo12⟩ := Kd.R_slice HO_5.out
     subst eo12
     go_wp2
     go_meet
     case rel => exact ⟨_, (false), (by first | rfl | (simp; done) | (simp [*]; done)), H', ⟨by have := HK1.out; first | omega | exact Nat.le_refl _⟩, ⟨ST HO_4.out⟩, ⟨RT HO_5.out⟩, ⟨BT HB.out⟩⟩
    rw [if_pos c10] at H
    have c10b0 : decide (x6_1 < (t236.length : Int)) = true := decide_eq_true c10
    clear c10
    (first | rw [c10b0] | (simp only [i64_w, i32_w]; rw [c10b0]) | skip)
    have H' := AM_ H
    clear H
    obtain ⟨Ao11, co11, eo11⟩ := Kd.R_slice HO_5.out
    subst eo11
    go_wp2
    go_meet
    case rel => exact ⟨_, (decide (x6_1 ≤ 9)), (by first | rfl | (simp; done) | (simp [*]; done)), H', ⟨by have := HK1.out; first | omega | exact Nat.le_refl _⟩, ⟨ST HO_4.out⟩, ⟨RT HO_5.out⟩, ⟨BT HB.out⟩⟩
   case rest =>
    clear HC9
    try clear c1
    try clear c2
    try clear c2b0
    try clear c2b1
    try clear p2
    try clear c4
    try clear c9
    try clear c10
    try clear c10b0
    obtain ⟨kq, x22_8, rfl, HA, HJ8, HO_4, HO_5, HB⟩ := hcut
    cases kq with
    | zero => exact absurd HA.out (by simp [spec_ParseHistory.j1])
    | succ kj8 =>
     have H := HA.out
     clear HA
     simp only [spec_ParseHistory.j1] at H
     by_cases c13 : x22_8 = true
     rotate_left
     ·replace c13 := Bool.eq_false_iff.mpr c13
      subst c13
      have H1 : (if a0.toList = ([] : List UInt8) then (some ((([] : List (S33))), false)) else ((spec_FormatHistory.f kj8 x4_1).bind fun t279 => (if t279.toList = a0.toList then (some (x4_1, true)) else (some ((([] : List (S33))), false))))) = some (r1, r2) := by rw [if_neg (show ¬ (false = true) by decide)] at H; exact H
      clear H
      have H := H1
      clear H1
      by_cases c52 : a0.toList = ([] : List UInt8)
      ·rw [if_pos c52] at H
       have c52b0 : (a0.toList == ([] : List UInt8)) = true := beq_iff_eq.mpr c52
       have c52b1 : (a0.toList != ([] : List UInt8)) = false := bne_eq_false_iff_eq.mpr c52
       clear c52
       obtain ⟨y276, hy276⟩ : ∃ y_ : List (S33), y_ = (([] : List (S33))) := ⟨_, rfl⟩
       replace H : (some (y276, false)) = some (r1, r2) := by first | (rw [hy276]; with_reducible exact H) | (have H2_ := (Option.bind_some _ _).symm.trans H; rw [hy276]; with_reducible exact H2_) | (have H2_ := (Option.bind_some _ _).symm.trans H; with_reducible exact H2_) | with_reducible exact H | (rw [hy276]; exact H) | exact H
       have Ny276 := AM_ hy276
       clear hy276
       simp only [Option.some.injEq, Prod.mk.injEq] at H
       obtain ⟨rfl, rfl⟩ := H
       go_wp2_with (first | ((with_reducible refine gate_dst (N := 51) rfl ?_); refine Kd.S_lit k33 _ 33 ?hg (N := 51) ?hd (xs := ([] : List (S33))) (inner := []) (ok := fun _ => True) (okp := fun _ => True) ?hr ?hp (fun _ hk => hk) trivial (Below.refl _ _) (Nat.le_refl _) (by simp) ?_; (case hd => rfl); (case hg => rfl); (case hr => first | (go_simp; done) | (go_simp; rfl)); (case hp => exact (Reps.none _ _)); intro v277 w53 ho54 hb hg_ hnew_; clear hg_ hnew_; (first | rw [← Ny276.out] at ho54 | (simp only [Int.reduceToNat] at ho54; rw [← Ny276.out] at ho54)); replace HO_5 := AM_ (Kd.R_below (RT HO_5.out) hb); have HO278 := AM_ (Kd.S_lower (Kd.S_new' ho54 (Kd.S_lt (ST HO_4.out))) (below_size (BT HB.out))); replace HO_4 := AM_ (Kd.S_elder' (ST HO_4.out) (Kd.S_base ho54) hb); replace HB := AM_ (below_step (BT HB.out) hb); clear hb ho54))
       go_ret2
       exact ⟨_, by first | rfl | (simp [errW_none, errW_some] <;> rfl) | (simp [*, errW_none, errW_some] <;> rfl), by (with_reducible repeat (first | apply Kd.S_alloc | apply Kd.S_drewN | apply Kd.S_drew)); exact Kd.S_mono HO278.out (fun _ hk => trivial), BT HB.out⟩
      rw [if_neg c52] at H
      have c52b0 : (a0.toList == ([] : List UInt8)) = false := beq_eq_false_iff_ne.mpr c52
      have c52b1 : (a0.toList != ([] : List UInt8)) = true := bne_iff_ne.mpr c52
      replace H := Option.bind_eq_some_iff.mp H
      obtain ⟨t279, A550, H⟩ := H
      replace H : (if t279.toList = a0.toList then (some (x4_1, true)) else (some ((([] : List (S33))), false))) = some (r1, r2) := H
      have A55 := AM_ A550
      clear A550
      by_cases c56 : t279.toList = a0.toList
      ·rw [if_pos c56] at H
       have c56b0 : (t279.toList == a0.toList) = true := beq_iff_eq.mpr c56
       have c56b1 : (t279.toList != a0.toList) = false := bne_eq_false_iff_eq.mpr c56
       clear c56
       simp only [Option.some.injEq, Prod.mk.injEq] at H
       obtain ⟨rfl, rfl⟩ := H
       obtain ⟨Ao57, co57, eo57⟩ := Kd.S_slice HO_4.out
       subst eo57
       go_wp2_with (first | (go_at_call 11; (with_reducible refine (spec_FormatHistory.calls kj8 _ _ x4_1 t279 _ ?side1 ?side2 A55.out).mono ?_); (case side1 => exact Kd.C_below (Kd.S_reads' HO_4.out).2.2 (BL (Below.refl _ _) rfl rfl rfl rfl)); (case side2 => exact (Kd.S_reads' HO_4.out).2.1); rintro e w58 ⟨rfl, hb⟩; replace HO_4 := AM_ (Kd.S_below (ST HO_4.out) hb); replace HO_5 := AM_ (Kd.R_below (RT HO_5.out) hb); replace HB := AM_ (below_step (BT HB.out) hb); (try clear hb); (try clear hb2); (try clear hk); (try clear hi)))
       go_ret2
       exact ⟨_, by first | rfl | (simp [errW_none, errW_some] <;> rfl) | (simp [*, errW_none, errW_some] <;> rfl), ST HO_4.out, BT HB.out⟩
      rw [if_neg c56] at H
      have c56b0 : (t279.toList == a0.toList) = false := beq_eq_false_iff_ne.mpr c56
      have c56b1 : (t279.toList != a0.toList) = true := bne_iff_ne.mpr c56
      obtain ⟨y280, hy280⟩ : ∃ y_ : List (S33), y_ = (([] : List (S33))) := ⟨_, rfl⟩
      replace H : (some (y280, false)) = some (r1, r2) := by first | (rw [hy280]; with_reducible exact H) | (have H2_ := (Option.bind_some _ _).symm.trans H; rw [hy280]; with_reducible exact H2_) | (have H2_ := (Option.bind_some _ _).symm.trans H; with_reducible exact H2_) | with_reducible exact H | (rw [hy280]; exact H) | exact H
      have Ny280 := AM_ hy280
      clear hy280
      simp only [Option.some.injEq, Prod.mk.injEq] at H
      obtain ⟨rfl, rfl⟩ := H
      obtain ⟨Ao59, co59, eo59⟩ := Kd.S_slice HO_4.out
      subst eo59
      go_wp2_with (first | (go_at_call 11; (with_reducible refine (spec_FormatHistory.calls kj8 _ _ x4_1 t279 _ ?side1 ?side2 A55.out).mono ?_); (case side1 => exact Kd.C_below (Kd.S_reads' HO_4.out).2.2 (BL (Below.refl _ _) rfl rfl rfl rfl)); (case side2 => exact (Kd.S_reads' HO_4.out).2.1); rintro e w60 ⟨rfl, hb⟩; replace HO_4 := AM_ (Kd.S_below (ST HO_4.out) hb); replace HO_5 := AM_ (Kd.R_below (RT HO_5.out) hb); replace HB := AM_ (below_step (BT HB.out) hb); (try clear hb); (try clear hb2); (try clear hk); (try clear hi)) | ((with_reducible refine gate_dst (N := 51) rfl ?_); refine Kd.S_lit k33 _ 33 ?hg (N := 51) ?hd (xs := ([] : List (S33))) (inner := []) (ok := fun _ => True) (okp := fun _ => True) ?hr ?hp (fun _ hk => hk) trivial (Below.refl _ _) (Nat.le_refl _) (by simp) ?_; (case hd => rfl); (case hg => rfl); (case hr => first | (go_simp; done) | (go_simp; rfl)); (case hp => exact (Reps.none _ _)); intro v281 w61 ho62 hb hg_ hnew_; clear hg_ hnew_; (first | rw [← Ny280.out] at ho62 | (simp only [Int.reduceToNat] at ho62; rw [← Ny280.out] at ho62)); replace HO_5 := AM_ (Kd.R_below (RT HO_5.out) hb); have HO282 := AM_ (Kd.S_lower (Kd.S_new' ho62 (Kd.S_lt (ST HO_4.out))) (below_size (BT HB.out))); replace HO_4 := AM_ (Kd.S_elder' (ST HO_4.out) (Kd.S_base ho62) hb); replace HB := AM_ (below_step (BT HB.out) hb); clear hb ho62))
      go_ret2
      exact ⟨_, by first | rfl | (simp [errW_none, errW_some] <;> rfl) | (simp [*, errW_none, errW_some] <;> rfl), by (with_reducible repeat (first | apply Kd.S_alloc | apply Kd.S_drewN | apply Kd.S_drew)); exact Kd.S_mono HO282.out (fun _ hk => trivial), BT HB.out⟩
     subst c13
     have H1 : (if 0 ≤ x6_1 then (if x6_1 < (t236.length : Int) then (if x6_1 > 0 then (if (rdOf ByteArray.empty t236 x6_1).toList = ([] : List UInt8) then ((spec_l18Read.f kj8 (rdOf ByteArray.empty t236 x6_1)).bind fun bt240 => (if x4_1.length < 2199023255552 then (spec_ParseHistory.l0 kj8 a0 (x4_1 ++ [(⟨bt240.1, bt240.2.1, bt240.2.2.1, bt240.2.2.2⟩ : S33)]) t236 (wrap64 (x6_1 + 1))) else (none))) else (if 1 ≤ ((rdOf ByteArray.empty t236 x6_1).size : Int) then ((spec_l18Read.f kj8 ((rdOf ByteArray.empty t236 x6_1).extract 1 (rdOf ByteArray.empty t236 x6_1).size)).bind fun bt252 => (if x4_1.length < 2199023255552 then (spec_ParseHistory.l0 kj8 a0 (x4_1 ++ [(⟨bt252.1, bt252.2.1, bt252.2.2.1, bt252.2.2.2⟩ : S33)]) t236 (wrap64 (x6_1 + 1))) else (none))) else (none))) else ((spec_l18Read.f kj8 (rdOf ByteArray.empty t236 x6_1)).bind fun bt264 => (if x4_1.length < 2199023255552 then (spec_ParseHistory.l0 kj8 a0 (x4_1 ++ [(⟨bt264.1, bt264.2.1, bt264.2.2.1, bt264.2.2.2⟩ : S33)]) t236 (wrap64 (x6_1 + 1))) else (none)))) else (none)) else (none)) = some (r1, r2) := by rw [if_pos rfl] at H; exact H
     clear H
     have H := H1
     clear H1
     replace H := HI H
     obtain ⟨c14, H⟩ := H
     have c14b0 : decide (0 ≤ x6_1) = true := decide_eq_true c14
     clear c14
     replace H := HI H
     obtain ⟨c15, H⟩ := H
     have c15b0 : decide (x6_1 < (t236.length : Int)) = true := decide_eq_true c15
     clear c15
     by_cases c16 : x6_1 > 0
     rotate_left
     ·rw [if_neg c16] at H
      have c16b0 : decide (0 < x6_1) = false := decide_eq_false c16
      clear c16
      replace H := Option.bind_eq_some_iff.mp H
      obtain ⟨⟨t264, t265, t266, t269⟩, A410, H⟩ := H
      replace H : (if x4_1.length < 2199023255552 then (spec_ParseHistory.l0 kj8 a0 (x4_1 ++ [(⟨t264, t265, t266, t269⟩ : S33)]) t236 (wrap64 (x6_1 + 1))) else (none)) = some (r1, r2) := H
      have A41 := AM_ A410
      clear A410
      replace H := HI H
      obtain ⟨c42, H⟩ := H
      have LMc42 := AM_ c42
      clear c42
      obtain ⟨y273, hy273⟩ : ∃ y_ : List (S33), y_ = (x4_1 ++ [(⟨t264, t265, t266, t269⟩ : S33)]) := ⟨_, rfl⟩
      replace H : (spec_ParseHistory.l0 kj8 a0 y273 t236 (wrap64 (x6_1 + 1))) = some (r1, r2) := by first | (rw [hy273]; with_reducible exact H) | (have H2_ := (Option.bind_some _ _).symm.trans H; rw [hy273]; with_reducible exact H2_) | (have H2_ := (Option.bind_some _ _).symm.trans H; with_reducible exact H2_) | with_reducible exact H | (rw [hy273]; exact H) | exact H
      have Ny273 := AM_ hy273
      clear hy273
      have H' := AM_ H
      clear H
      obtain ⟨Ao43, co43, eo43⟩ := Kd.R_slice HO_5.out
      subst eo43
      have p239 : 0 ≤ (x6_1 : Int) := DT
      have q239 : x6_1 < (t236.length : Int) := DT
      obtain ⟨ad239, e239, hx239_0⟩ := Kd.at_string (Kd.R_reads' HO_5.out).2.2 x6_1 p239 q239
      cases e239
      replace p239 := eq_true p239
      replace q239 := eq_true q239
      go_wp2_with (first | ((with_reducible refine gate_callee (f := 10) rfl ?_); refine goesL_ (some 38) rfl rfl Tryz.func10 (by kernel_rfl) rfl #[.string (rdOf ByteArray.empty t236 x6_1)] rfl (by (try simp only [List.map_toArray, List.map_cons, List.map_nil]); first | done | rfl | (simp only [List.length_drop, List.length_take]; rfl)) ?_; (with_reducible refine (spec_l18Read.calls kj8 (rdOf ByteArray.empty t236 x6_1) t264 t265 t266 t269 _ A41.out).mono ?_); rintro e w44 ⟨v267, v270, rfl, ho0, ho1, hb⟩; refine ⟨_, rfl, ?_⟩; replace HO_4 := AM_ (Kd.S_mono (Kd.S_told (Kd.S_told (Kd.S_old (ST HO_4.out) hb) (Kd.R_base ho0)) (Kd.R_base ho1)) (fun _ h_ => h_.1)); replace HO_5 := AM_ (Kd.R_below (RT HO_5.out) hb); have HO268 := AM_ (Kd.R_lower ho0 (below_size (BT HB.out))); have HO271 := AM_ (Kd.R_lower ho1 (below_size (BT HB.out))); replace HB := AM_ (below_step (BT HB.out) hb); (try clear hb); (try clear hb2); (try clear hk); (try clear hi); (try clear ho0); (try clear ho1)) | ((with_reducible refine gate_dst (N := 8) rfl ?_); refine box_event ?hg (N := 8) ?hd (cs := #[.int .i64 0, .int .i64 0, .slice none 0 0, .slice none 0 0]) (t := 33) ?hr ?_; (case hd => rfl); (case hg => rfl); (case hr => first | (go_simp; done) | (go_simp; rfl)); intro gb272 hg w45 hbox hb; replace HO_4 := AM_ (Kd.S_below (Kd.S_elderB (ST HO_4.out) gb272 (Nat.le_of_eq hg.symm)) hb); replace HO_5 := AM_ (Kd.R_below (RT HO_5.out) hb); replace HO268 := AM_ (Kd.R_below (RT HO268.out) hb); replace HO271 := AM_ (Kd.R_below (RT HO271.out) hb); have BK272 := AM_ (hbox); have GW272 := AM_ ((GS HB.out hg)); have GE272 := AM_ ((GS HB.out hg)); replace HB := AM_ (below_step (BT HB.out) hb); clear hb hbox hg; obtain ⟨hcz46_0, hcz46_1, hcz46_2, hcz46_3, hfz46_0, hfz46_1, hfz46_2, hfz46_3⟩ := bk4 BK272.out; obtain ⟨Ao47, co47, eo47⟩ := Kd.R_slice HO268.out; subst eo47; obtain ⟨Ao48, co48, eo48⟩ := Kd.R_slice HO271.out; subst eo48) | ((with_reducible refine gate_store (t := 33) (p := 8) rfl ?_); refine store_event (t := 33) (p := 8) (v := ?vo_w49) (w1 := ((((w45.setCell ⟨gb272, 0, none⟩ (.int .i64 t264)).setCell ⟨gb272, 1, none⟩ (.int .i64 t265)).setCell ⟨gb272, 2, none⟩ (.slice Ao47 t266.length co47)).setCell ⟨gb272, 3, none⟩ (.slice Ao48 t269.length co48))) ?hg ?ho ?hn ?hr ?_; (case ho => rfl); (case hg => rfl); (case hn => rfl); (case hr => first | (go_simp; done) | (go_simp; rfl)); intro w49 hw; have n0_ : Aside0 (Kd.S k33 33 w49 w.heap.size (fun k_ => some k_ ≠ (.slice Ao47 t266.length co47 : Value).ownBlock ∧ some k_ ≠ (.slice Ao48 t269.length co48 : Value).ownBlock ∧ k_ ≠ gb272) u4 x4_1) := ⟨(by rw [hw]; exact (by (with_reducible repeat (first | apply Kd.S_alloc | apply Kd.S_drewN | apply Kd.S_drew)); exact Kd.S_mono (Kd.S_far (p := ⟨gb272, 3, none⟩) (Kd.S_far (p := ⟨gb272, 2, none⟩) (Kd.S_far (p := ⟨gb272, 1, none⟩) (Kd.S_far (p := ⟨gb272, 0, none⟩) (Kd.S_mono HO_4.out (fun k_ hk => (⟨hk, hk.2⟩ : _ ∧ k_ ≠ gb272))) (fun _ hk => hk.2) (.int .i64 t264)) (fun _ hk => hk.2) (.int .i64 t265)) (fun _ hk => hk.2) (.slice Ao47 t266.length co47)) (fun _ hk => hk.2) (.slice Ao48 t269.length co48)) (fun _ hk => ⟨hk.1.1.1.2, ⟨hk.1.1.2, hk.1.2⟩⟩)))⟩; have n1_ : Aside0 (Kd.R Kd.string 9 w49 w.heap.size (fun _ => True) (.slice (some ad239) t236.length co43) t236) := ⟨(by rw [hw]; exact (by (with_reducible repeat (first | apply Kd.R_alloc | apply Kd.R_drewN | apply Kd.R_drew)); exact Kd.R_mono (Kd.R_far (p := ⟨gb272, 3, none⟩) (Kd.R_far (p := ⟨gb272, 2, none⟩) (Kd.R_far (p := ⟨gb272, 1, none⟩) (Kd.R_far (p := ⟨gb272, 0, none⟩) (Kd.R_types HO_5.out BK272.out (by decide)) (fun _ hk => hk.2) (.int .i64 t264)) (fun _ hk => hk.2) (.int .i64 t265)) (fun _ hk => hk.2) (.slice Ao47 t266.length co47)) (fun _ hk => hk.2) (.slice Ao48 t269.length co48)) (fun _ hk => trivial)))⟩; have n2_ : Aside0 (Kd.R k48 48 w49 w.heap.size (fun _ => True) (.slice Ao47 t266.length co47) t266) := ⟨(by rw [hw]; exact (by (with_reducible repeat (first | apply Kd.R_alloc | apply Kd.R_drewN | apply Kd.R_drew)); exact Kd.R_mono (Kd.R_far (p := ⟨gb272, 3, none⟩) (Kd.R_far (p := ⟨gb272, 2, none⟩) (Kd.R_far (p := ⟨gb272, 1, none⟩) (Kd.R_far (p := ⟨gb272, 0, none⟩) (Kd.R_types HO268.out BK272.out (by decide)) (fun _ hk => hk.2) (.int .i64 t264)) (fun _ hk => hk.2) (.int .i64 t265)) (fun _ hk => hk.2) (.slice Ao47 t266.length co47)) (fun _ hk => hk.2) (.slice Ao48 t269.length co48)) (fun _ hk => trivial)))⟩; have n3_ : Aside0 (Kd.R k50 50 w49 w.heap.size (fun _ => True) (.slice Ao48 t269.length co48) t269) := ⟨(by rw [hw]; exact (by (with_reducible repeat (first | apply Kd.R_alloc | apply Kd.R_drewN | apply Kd.R_drew)); exact Kd.R_mono (Kd.R_far (p := ⟨gb272, 3, none⟩) (Kd.R_far (p := ⟨gb272, 2, none⟩) (Kd.R_far (p := ⟨gb272, 1, none⟩) (Kd.R_far (p := ⟨gb272, 0, none⟩) (Kd.R_types HO271.out BK272.out (by decide)) (fun _ hk => hk.2) (.int .i64 t264)) (fun _ hk => hk.2) (.int .i64 t265)) (fun _ hk => hk.2) (.slice Ao47 t266.length co47)) (fun _ hk => hk.2) (.slice Ao48 t269.length co48)) (fun _ hk => trivial)))⟩; have n4_ : Aside0 (w49.heap[gb272]? = some (.cells #[.int .i64 t264, .int .i64 t265, .slice Ao47 t266.length co47, .slice Ao48 t269.length co48] 33 (0, 0))) := ⟨(by rw [hw]; exact (by (with_reducible repeat (first | refine blk_drewN ?_ _ | refine blk_drew ?_ | refine blk_alloc ?_ _)); refine blk_put (cs := #[.int .i64 t264, .int .i64 t265, .slice Ao47 t266.length co47, .slice none 0 0]) ?_ 3 _ rfl; (with_reducible repeat (first | refine blk_drewN ?_ _ | refine blk_drew ?_ | refine blk_alloc ?_ _)); refine blk_put (cs := #[.int .i64 t264, .int .i64 t265, .slice none 0 0, .slice none 0 0]) ?_ 2 _ rfl; (with_reducible repeat (first | refine blk_drewN ?_ _ | refine blk_drew ?_ | refine blk_alloc ?_ _)); refine blk_put (cs := #[.int .i64 t264, .int .i64 0, .slice none 0 0, .slice none 0 0]) ?_ 1 _ rfl; (with_reducible repeat (first | refine blk_drewN ?_ _ | refine blk_drew ?_ | refine blk_alloc ?_ _)); refine blk_put (cs := #[.int .i64 0, .int .i64 0, .slice none 0 0, .slice none 0 0]) ?_ 0 _ rfl; (with_reducible repeat (first | refine blk_drewN ?_ _ | refine blk_drew ?_ | refine blk_alloc ?_ _)); exact BK272.out))⟩; have n5_ : Aside0 (Below w.heap.size w w49) := ⟨(by rw [hw]; exact (BT HB.out))⟩; clear hw; clear HO_4; clear HO_5; clear HO268; clear HO271; clear BK272; clear HB; have HO_4 := n0_; have HO_5 := n1_; have HO268 := n2_; have HO271 := n3_; have BK272 := n4_; have HB := n5_; clear n0_ n1_ n2_ n3_ n4_ n5_; obtain ⟨hcz50_0, hcz50_1, hcz50_2, hcz50_3, hfz50_0, hfz50_1, hfz50_2, hfz50_3⟩ := bk4 BK272.out) | ((with_reducible refine gate_builtin (b := .append) (xs := #[.tmp 39, .tmp 41]) rfl ?_); at_builtin; refine Kd.S_append k33 (w0 := w) w.heap.size rfl (.tmp 39) (.tmp 41) 22 33 (.agg #[(.int .i64 0), (.int .i64 0), (.slice none 0 0), (.slice none 0 0)]) 64 rfl Tryz.underlying22 info33 rfl (by decide) (by omega) u4 x4_1 (⟨t264, t265, t266, t269⟩ : S33) [.int .i64 t264, .int .i64 t265, .slice Ao47 t266.length co47, .slice Ao48 t269.length co48] (fun k_ => k_ ≠ gb272) (fun k_ => some k_ = (.slice Ao47 t266.length co47 : Value).ownBlock ∨ some k_ = (.slice Ao48 t269.length co48 : Value).ownBlock) rfl rfl ?aP (fun k_ hk_ => hk_.elim (fun h_ => ((Kd.R_mono (ok' := fun k_ => ((fun k_ => k_ ≠ gb272)) k_ ∧ some k_ ≠ (u4 : Value).ownBlock) (Kd.R_types (Kd.R_apart' (HO268.out) (Kd.S_typed HO_4.out) (by decide)) BK272.out (by decide)) (fun k_ hk => ⟨hk.2, hk.1.2⟩))).1 k_ h_.symm) (fun h_ => ((Kd.R_mono (ok' := fun k_ => ((fun k_ => k_ ≠ gb272)) k_ ∧ some k_ ≠ (u4 : Value).ownBlock) (Kd.R_types (Kd.R_apart' (HO271.out) (Kd.S_typed HO_4.out) (by decide)) BK272.out (by decide)) (fun k_ hk => ⟨hk.2, hk.1.2⟩))).1 k_ h_.symm)) ?aF ?aO ?aB ?aS ?aL ?_; (case aP => exact k33_mkM _ _ _ (⟨t264, t265, t266, t269⟩ : S33) (Kd.R_mono (Kd.R_tight rfl (Kd.R_mono (ok' := fun k_ => ((fun k_ => k_ ≠ gb272)) k_ ∧ some k_ ≠ (u4 : Value).ownBlock) (Kd.R_types (Kd.R_apart' (HO268.out) (Kd.S_typed HO_4.out) (by decide)) BK272.out (by decide)) (fun k_ hk => ⟨hk.2, hk.1.2⟩))) (fun _ h_ => Or.inl h_)) (Kd.R_mono (Kd.R_tight rfl (Kd.R_mono (ok' := fun k_ => ((fun k_ => k_ ≠ gb272)) k_ ∧ some k_ ≠ (u4 : Value).ownBlock) (Kd.R_types (Kd.R_apart' (HO271.out) (Kd.S_typed HO_4.out) (by decide)) BK272.out (by decide)) (fun k_ hk => ⟨hk.2, hk.1.2⟩))) (fun _ h_ => Or.inr (h_)))); (case aB => exact (BT HB.out)); (case aF => exact (fun k_ hk => Kd.freshB (g := gb272) (o := .cells #[.int .i64 t264, .int .i64 t265, .slice Ao47 t266.length co47, .slice Ao48 t269.length co48] 33 (0, 0)) (by (with_reducible repeat (first | refine blk_drewN ?_ _ | refine blk_drew ?_ | refine blk_alloc ?_ _)); exact BK272.out) k_ hk)); (case aO => exact (by (with_reducible repeat (first | apply Kd.S_alloc | apply Kd.S_drewN | apply Kd.S_drew)); exact Kd.S_mono HO_4.out (fun k_ hk => ⟨hk.2.2, fun e_ => e_.elim (fun h_ => hk.1 h_) (fun h_ => hk.2.1 h_)⟩))); (case aS => exact (below_size (BT HB.out))); (case aL => have := LMc42.out; omega); intro v274 w51 ho hb hg hat; rw [← Ny273.out] at ho; have n0_ := AM_ (Kd.R_over' (RT HO_5.out) (Kd.S_typed (ST HO_4.out)) (by decide) hg); have n1_ := AM_ (blk_grown (g := gb272) (o := .cells #[.int .i64 t264, .int .i64 t265, .slice Ao47 t266.length co47, .slice Ao48 t269.length co48] 33 (0, 0)) (by (with_reducible repeat (first | refine blk_drewN ?_ _ | refine blk_drew ?_ | refine blk_alloc ?_ _)); exact BK272.out) hg (Kd.S_away HO_4.out (fun _ hk => hk.2.2))); have n2_ := AM_ (hb); have n3_ := AM_ (ho); clear HO_5; clear BK272; clear HB; clear HO_4; clear HO268; clear HO271; have HO_5 := n0_; have BK272 := n1_; have HB := n2_; have HO275 := n3_; clear n0_ n1_ n2_ n3_; clear ho hb hg hat))
      go_roundg kj8
      case measure => have := HK1.out; have := HJ8.out; omega
      case rel => exact ⟨(y273), (wrap64 (x6_1 + 1)), (by first | rfl | (simp; done) | (simp [*]; done)), H', ⟨by have := HK1.out; have := HJ8.out; omega⟩, ⟨by (with_reducible repeat (first | apply Kd.S_alloc | apply Kd.S_drewN | apply Kd.S_drew)); exact Kd.S_mono HO275.out (fun _ hk => trivial)⟩, ⟨RT HO_5.out⟩, ⟨BT HB.out⟩⟩
     rw [if_pos c16] at H
     have c16b0 : decide (0 < x6_1) = true := decide_eq_true c16
     clear c16
     by_cases c17 : (rdOf ByteArray.empty t236 x6_1).toList = ([] : List UInt8)
     ·rw [if_pos c17] at H
      have c17b0 : ((rdOf ByteArray.empty t236 x6_1).toList == ([] : List UInt8)) = true := beq_iff_eq.mpr c17
      have c17b1 : ((rdOf ByteArray.empty t236 x6_1).toList != ([] : List UInt8)) = false := bne_eq_false_iff_eq.mpr c17
      clear c17
      replace H := Option.bind_eq_some_iff.mp H
      obtain ⟨⟨t240, t241, t242, t245⟩, A180, H⟩ := H
      replace H : (if x4_1.length < 2199023255552 then (spec_ParseHistory.l0 kj8 a0 (x4_1 ++ [(⟨t240, t241, t242, t245⟩ : S33)]) t236 (wrap64 (x6_1 + 1))) else (none)) = some (r1, r2) := H
      have A18 := AM_ A180
      clear A180
      replace H := HI H
      obtain ⟨c19, H⟩ := H
      have LMc19 := AM_ c19
      clear c19
      obtain ⟨y249, hy249⟩ : ∃ y_ : List (S33), y_ = (x4_1 ++ [(⟨t240, t241, t242, t245⟩ : S33)]) := ⟨_, rfl⟩
      replace H : (spec_ParseHistory.l0 kj8 a0 y249 t236 (wrap64 (x6_1 + 1))) = some (r1, r2) := by first | (rw [hy249]; with_reducible exact H) | (have H2_ := (Option.bind_some _ _).symm.trans H; rw [hy249]; with_reducible exact H2_) | (have H2_ := (Option.bind_some _ _).symm.trans H; with_reducible exact H2_) | with_reducible exact H | (rw [hy249]; exact H) | exact H
      have Ny249 := AM_ hy249
      clear hy249
      have H' := AM_ H
      clear H
      obtain ⟨Ao20, co20, eo20⟩ := Kd.R_slice HO_5.out
      subst eo20
      have p239 : 0 ≤ (x6_1 : Int) := DT
      have q239 : x6_1 < (t236.length : Int) := DT
      obtain ⟨ad239, e239, hx239_0⟩ := Kd.at_string (Kd.R_reads' HO_5.out).2.2 x6_1 p239 q239
      cases e239
      replace p239 := eq_true p239
      replace q239 := eq_true q239
      go_wp2_with (first | ((with_reducible refine gate_callee (f := 10) rfl ?_); refine goesL_ (some 38) rfl rfl Tryz.func10 (by kernel_rfl) rfl #[.string (rdOf ByteArray.empty t236 x6_1)] rfl (by (try simp only [List.map_toArray, List.map_cons, List.map_nil]); first | done | rfl | (simp only [List.length_drop, List.length_take]; rfl)) ?_; (with_reducible refine (spec_l18Read.calls kj8 (rdOf ByteArray.empty t236 x6_1) t240 t241 t242 t245 _ A18.out).mono ?_); rintro e w21 ⟨v243, v246, rfl, ho0, ho1, hb⟩; refine ⟨_, rfl, ?_⟩; replace HO_4 := AM_ (Kd.S_mono (Kd.S_told (Kd.S_told (Kd.S_old (ST HO_4.out) hb) (Kd.R_base ho0)) (Kd.R_base ho1)) (fun _ h_ => h_.1)); replace HO_5 := AM_ (Kd.R_below (RT HO_5.out) hb); have HO244 := AM_ (Kd.R_lower ho0 (below_size (BT HB.out))); have HO247 := AM_ (Kd.R_lower ho1 (below_size (BT HB.out))); replace HB := AM_ (below_step (BT HB.out) hb); (try clear hb); (try clear hb2); (try clear hk); (try clear hi); (try clear ho0); (try clear ho1)) | ((with_reducible refine gate_dst (N := 8) rfl ?_); refine box_event ?hg (N := 8) ?hd (cs := #[.int .i64 0, .int .i64 0, .slice none 0 0, .slice none 0 0]) (t := 33) ?hr ?_; (case hd => rfl); (case hg => rfl); (case hr => first | (go_simp; done) | (go_simp; rfl)); intro gb248 hg w22 hbox hb; replace HO_4 := AM_ (Kd.S_below (Kd.S_elderB (ST HO_4.out) gb248 (Nat.le_of_eq hg.symm)) hb); replace HO_5 := AM_ (Kd.R_below (RT HO_5.out) hb); replace HO244 := AM_ (Kd.R_below (RT HO244.out) hb); replace HO247 := AM_ (Kd.R_below (RT HO247.out) hb); have BK248 := AM_ (hbox); have GW248 := AM_ ((GS HB.out hg)); have GE248 := AM_ ((GS HB.out hg)); replace HB := AM_ (below_step (BT HB.out) hb); clear hb hbox hg; obtain ⟨hcz23_0, hcz23_1, hcz23_2, hcz23_3, hfz23_0, hfz23_1, hfz23_2, hfz23_3⟩ := bk4 BK248.out; obtain ⟨Ao24, co24, eo24⟩ := Kd.R_slice HO244.out; subst eo24; obtain ⟨Ao25, co25, eo25⟩ := Kd.R_slice HO247.out; subst eo25) | ((with_reducible refine gate_store (t := 33) (p := 8) rfl ?_); refine store_event (t := 33) (p := 8) (v := ?vo_w26) (w1 := ((((w22.setCell ⟨gb248, 0, none⟩ (.int .i64 t240)).setCell ⟨gb248, 1, none⟩ (.int .i64 t241)).setCell ⟨gb248, 2, none⟩ (.slice Ao24 t242.length co24)).setCell ⟨gb248, 3, none⟩ (.slice Ao25 t245.length co25))) ?hg ?ho ?hn ?hr ?_; (case ho => rfl); (case hg => rfl); (case hn => rfl); (case hr => first | (go_simp; done) | (go_simp; rfl)); intro w26 hw; have n0_ : Aside0 (Kd.S k33 33 w26 w.heap.size (fun k_ => some k_ ≠ (.slice Ao24 t242.length co24 : Value).ownBlock ∧ some k_ ≠ (.slice Ao25 t245.length co25 : Value).ownBlock ∧ k_ ≠ gb248) u4 x4_1) := ⟨(by rw [hw]; exact (by (with_reducible repeat (first | apply Kd.S_alloc | apply Kd.S_drewN | apply Kd.S_drew)); exact Kd.S_mono (Kd.S_far (p := ⟨gb248, 3, none⟩) (Kd.S_far (p := ⟨gb248, 2, none⟩) (Kd.S_far (p := ⟨gb248, 1, none⟩) (Kd.S_far (p := ⟨gb248, 0, none⟩) (Kd.S_mono HO_4.out (fun k_ hk => (⟨hk, hk.2⟩ : _ ∧ k_ ≠ gb248))) (fun _ hk => hk.2) (.int .i64 t240)) (fun _ hk => hk.2) (.int .i64 t241)) (fun _ hk => hk.2) (.slice Ao24 t242.length co24)) (fun _ hk => hk.2) (.slice Ao25 t245.length co25)) (fun _ hk => ⟨hk.1.1.1.2, ⟨hk.1.1.2, hk.1.2⟩⟩)))⟩; have n1_ : Aside0 (Kd.R Kd.string 9 w26 w.heap.size (fun _ => True) (.slice (some ad239) t236.length co20) t236) := ⟨(by rw [hw]; exact (by (with_reducible repeat (first | apply Kd.R_alloc | apply Kd.R_drewN | apply Kd.R_drew)); exact Kd.R_mono (Kd.R_far (p := ⟨gb248, 3, none⟩) (Kd.R_far (p := ⟨gb248, 2, none⟩) (Kd.R_far (p := ⟨gb248, 1, none⟩) (Kd.R_far (p := ⟨gb248, 0, none⟩) (Kd.R_types HO_5.out BK248.out (by decide)) (fun _ hk => hk.2) (.int .i64 t240)) (fun _ hk => hk.2) (.int .i64 t241)) (fun _ hk => hk.2) (.slice Ao24 t242.length co24)) (fun _ hk => hk.2) (.slice Ao25 t245.length co25)) (fun _ hk => trivial)))⟩; have n2_ : Aside0 (Kd.R k48 48 w26 w.heap.size (fun _ => True) (.slice Ao24 t242.length co24) t242) := ⟨(by rw [hw]; exact (by (with_reducible repeat (first | apply Kd.R_alloc | apply Kd.R_drewN | apply Kd.R_drew)); exact Kd.R_mono (Kd.R_far (p := ⟨gb248, 3, none⟩) (Kd.R_far (p := ⟨gb248, 2, none⟩) (Kd.R_far (p := ⟨gb248, 1, none⟩) (Kd.R_far (p := ⟨gb248, 0, none⟩) (Kd.R_types HO244.out BK248.out (by decide)) (fun _ hk => hk.2) (.int .i64 t240)) (fun _ hk => hk.2) (.int .i64 t241)) (fun _ hk => hk.2) (.slice Ao24 t242.length co24)) (fun _ hk => hk.2) (.slice Ao25 t245.length co25)) (fun _ hk => trivial)))⟩; have n3_ : Aside0 (Kd.R k50 50 w26 w.heap.size (fun _ => True) (.slice Ao25 t245.length co25) t245) := ⟨(by rw [hw]; exact (by (with_reducible repeat (first | apply Kd.R_alloc | apply Kd.R_drewN | apply Kd.R_drew)); exact Kd.R_mono (Kd.R_far (p := ⟨gb248, 3, none⟩) (Kd.R_far (p := ⟨gb248, 2, none⟩) (Kd.R_far (p := ⟨gb248, 1, none⟩) (Kd.R_far (p := ⟨gb248, 0, none⟩) (Kd.R_types HO247.out BK248.out (by decide)) (fun _ hk => hk.2) (.int .i64 t240)) (fun _ hk => hk.2) (.int .i64 t241)) (fun _ hk => hk.2) (.slice Ao24 t242.length co24)) (fun _ hk => hk.2) (.slice Ao25 t245.length co25)) (fun _ hk => trivial)))⟩; have n4_ : Aside0 (w26.heap[gb248]? = some (.cells #[.int .i64 t240, .int .i64 t241, .slice Ao24 t242.length co24, .slice Ao25 t245.length co25] 33 (0, 0))) := ⟨(by rw [hw]; exact (by (with_reducible repeat (first | refine blk_drewN ?_ _ | refine blk_drew ?_ | refine blk_alloc ?_ _)); refine blk_put (cs := #[.int .i64 t240, .int .i64 t241, .slice Ao24 t242.length co24, .slice none 0 0]) ?_ 3 _ rfl; (with_reducible repeat (first | refine blk_drewN ?_ _ | refine blk_drew ?_ | refine blk_alloc ?_ _)); refine blk_put (cs := #[.int .i64 t240, .int .i64 t241, .slice none 0 0, .slice none 0 0]) ?_ 2 _ rfl; (with_reducible repeat (first | refine blk_drewN ?_ _ | refine blk_drew ?_ | refine blk_alloc ?_ _)); refine blk_put (cs := #[.int .i64 t240, .int .i64 0, .slice none 0 0, .slice none 0 0]) ?_ 1 _ rfl; (with_reducible repeat (first | refine blk_drewN ?_ _ | refine blk_drew ?_ | refine blk_alloc ?_ _)); refine blk_put (cs := #[.int .i64 0, .int .i64 0, .slice none 0 0, .slice none 0 0]) ?_ 0 _ rfl; (with_reducible repeat (first | refine blk_drewN ?_ _ | refine blk_drew ?_ | refine blk_alloc ?_ _)); exact BK248.out))⟩; have n5_ : Aside0 (Below w.heap.size w w26) := ⟨(by rw [hw]; exact (BT HB.out))⟩; clear hw; clear HO_4; clear HO_5; clear HO244; clear HO247; clear BK248; clear HB; have HO_4 := n0_; have HO_5 := n1_; have HO244 := n2_; have HO247 := n3_; have BK248 := n4_; have HB := n5_; clear n0_ n1_ n2_ n3_ n4_ n5_; obtain ⟨hcz27_0, hcz27_1, hcz27_2, hcz27_3, hfz27_0, hfz27_1, hfz27_2, hfz27_3⟩ := bk4 BK248.out) | ((with_reducible refine gate_builtin (b := .append) (xs := #[.tmp 39, .tmp 41]) rfl ?_); at_builtin; refine Kd.S_append k33 (w0 := w) w.heap.size rfl (.tmp 39) (.tmp 41) 22 33 (.agg #[(.int .i64 0), (.int .i64 0), (.slice none 0 0), (.slice none 0 0)]) 64 rfl Tryz.underlying22 info33 rfl (by decide) (by omega) u4 x4_1 (⟨t240, t241, t242, t245⟩ : S33) [.int .i64 t240, .int .i64 t241, .slice Ao24 t242.length co24, .slice Ao25 t245.length co25] (fun k_ => k_ ≠ gb248) (fun k_ => some k_ = (.slice Ao24 t242.length co24 : Value).ownBlock ∨ some k_ = (.slice Ao25 t245.length co25 : Value).ownBlock) rfl rfl ?aP (fun k_ hk_ => hk_.elim (fun h_ => ((Kd.R_mono (ok' := fun k_ => ((fun k_ => k_ ≠ gb248)) k_ ∧ some k_ ≠ (u4 : Value).ownBlock) (Kd.R_types (Kd.R_apart' (HO244.out) (Kd.S_typed HO_4.out) (by decide)) BK248.out (by decide)) (fun k_ hk => ⟨hk.2, hk.1.2⟩))).1 k_ h_.symm) (fun h_ => ((Kd.R_mono (ok' := fun k_ => ((fun k_ => k_ ≠ gb248)) k_ ∧ some k_ ≠ (u4 : Value).ownBlock) (Kd.R_types (Kd.R_apart' (HO247.out) (Kd.S_typed HO_4.out) (by decide)) BK248.out (by decide)) (fun k_ hk => ⟨hk.2, hk.1.2⟩))).1 k_ h_.symm)) ?aF ?aO ?aB ?aS ?aL ?_; (case aP => exact k33_mkM _ _ _ (⟨t240, t241, t242, t245⟩ : S33) (Kd.R_mono (Kd.R_tight rfl (Kd.R_mono (ok' := fun k_ => ((fun k_ => k_ ≠ gb248)) k_ ∧ some k_ ≠ (u4 : Value).ownBlock) (Kd.R_types (Kd.R_apart' (HO244.out) (Kd.S_typed HO_4.out) (by decide)) BK248.out (by decide)) (fun k_ hk => ⟨hk.2, hk.1.2⟩))) (fun _ h_ => Or.inl h_)) (Kd.R_mono (Kd.R_tight rfl (Kd.R_mono (ok' := fun k_ => ((fun k_ => k_ ≠ gb248)) k_ ∧ some k_ ≠ (u4 : Value).ownBlock) (Kd.R_types (Kd.R_apart' (HO247.out) (Kd.S_typed HO_4.out) (by decide)) BK248.out (by decide)) (fun k_ hk => ⟨hk.2, hk.1.2⟩))) (fun _ h_ => Or.inr (h_)))); (case aB => exact (BT HB.out)); (case aF => exact (fun k_ hk => Kd.freshB (g := gb248) (o := .cells #[.int .i64 t240, .int .i64 t241, .slice Ao24 t242.length co24, .slice Ao25 t245.length co25] 33 (0, 0)) (by (with_reducible repeat (first | refine blk_drewN ?_ _ | refine blk_drew ?_ | refine blk_alloc ?_ _)); exact BK248.out) k_ hk)); (case aO => exact (by (with_reducible repeat (first | apply Kd.S_alloc | apply Kd.S_drewN | apply Kd.S_drew)); exact Kd.S_mono HO_4.out (fun k_ hk => ⟨hk.2.2, fun e_ => e_.elim (fun h_ => hk.1 h_) (fun h_ => hk.2.1 h_)⟩))); (case aS => exact (below_size (BT HB.out))); (case aL => have := LMc19.out; omega); intro v250 w28 ho hb hg hat; rw [← Ny249.out] at ho; have n0_ := AM_ (Kd.R_over' (RT HO_5.out) (Kd.S_typed (ST HO_4.out)) (by decide) hg); have n1_ := AM_ (blk_grown (g := gb248) (o := .cells #[.int .i64 t240, .int .i64 t241, .slice Ao24 t242.length co24, .slice Ao25 t245.length co25] 33 (0, 0)) (by (with_reducible repeat (first | refine blk_drewN ?_ _ | refine blk_drew ?_ | refine blk_alloc ?_ _)); exact BK248.out) hg (Kd.S_away HO_4.out (fun _ hk => hk.2.2))); have n2_ := AM_ (hb); have n3_ := AM_ (ho); clear HO_5; clear BK248; clear HB; clear HO_4; clear HO244; clear HO247; have HO_5 := n0_; have BK248 := n1_; have HB := n2_; have HO251 := n3_; clear n0_ n1_ n2_ n3_; clear ho hb hg hat))
      go_roundg kj8
      case measure => have := HK1.out; have := HJ8.out; omega
      case rel => exact ⟨(y249), (wrap64 (x6_1 + 1)), (by first | rfl | (simp; done) | (simp [*]; done)), H', ⟨by have := HK1.out; have := HJ8.out; omega⟩, ⟨by (with_reducible repeat (first | apply Kd.S_alloc | apply Kd.S_drewN | apply Kd.S_drew)); exact Kd.S_mono HO251.out (fun _ hk => trivial)⟩, ⟨RT HO_5.out⟩, ⟨BT HB.out⟩⟩
     rw [if_neg c17] at H
     have c17b0 : ((rdOf ByteArray.empty t236 x6_1).toList == ([] : List UInt8)) = false := beq_eq_false_iff_ne.mpr c17
     have c17b1 : ((rdOf ByteArray.empty t236 x6_1).toList != ([] : List UInt8)) = true := bne_iff_ne.mpr c17
     replace H := HI H
     obtain ⟨c29, H⟩ := H
     have c29b0 := eq_true c29
     have c29b1 : decide (1 ≤ ((rdOf ByteArray.empty t236 x6_1).size : Int)) = true := decide_eq_true c29
     clear c29
     replace H := Option.bind_eq_some_iff.mp H
     obtain ⟨⟨t252, t253, t254, t257⟩, A300, H⟩ := H
     replace H : (if x4_1.length < 2199023255552 then (spec_ParseHistory.l0 kj8 a0 (x4_1 ++ [(⟨t252, t253, t254, t257⟩ : S33)]) t236 (wrap64 (x6_1 + 1))) else (none)) = some (r1, r2) := H
     have A30 := AM_ A300
     clear A300
     replace H := HI H
     obtain ⟨c31, H⟩ := H
     have LMc31 := AM_ c31
     clear c31
     obtain ⟨y261, hy261⟩ : ∃ y_ : List (S33), y_ = (x4_1 ++ [(⟨t252, t253, t254, t257⟩ : S33)]) := ⟨_, rfl⟩
     replace H : (spec_ParseHistory.l0 kj8 a0 y261 t236 (wrap64 (x6_1 + 1))) = some (r1, r2) := by first | (rw [hy261]; with_reducible exact H) | (have H2_ := (Option.bind_some _ _).symm.trans H; rw [hy261]; with_reducible exact H2_) | (have H2_ := (Option.bind_some _ _).symm.trans H; with_reducible exact H2_) | with_reducible exact H | (rw [hy261]; exact H) | exact H
     have Ny261 := AM_ hy261
     clear hy261
     have H' := AM_ H
     clear H
     obtain ⟨Ao32, co32, eo32⟩ := Kd.R_slice HO_5.out
     subst eo32
     have p239 : 0 ≤ (x6_1 : Int) := DT
     have q239 : x6_1 < (t236.length : Int) := DT
     obtain ⟨ad239, e239, hx239_0⟩ := Kd.at_string (Kd.R_reads' HO_5.out).2.2 x6_1 p239 q239
     cases e239
     replace p239 := eq_true p239
     replace q239 := eq_true q239
     go_wp2_with (first | ((with_reducible refine gate_callee (f := 10) rfl ?_); refine goesL_ (some 38) rfl rfl Tryz.func10 (by kernel_rfl) rfl #[.string ((rdOf ByteArray.empty t236 x6_1).extract 1 (rdOf ByteArray.empty t236 x6_1).size)] rfl (by (try simp only [List.map_toArray, List.map_cons, List.map_nil]); first | done | rfl | (simp only [List.length_drop, List.length_take]; rfl)) ?_; (with_reducible refine (spec_l18Read.calls kj8 ((rdOf ByteArray.empty t236 x6_1).extract 1 (rdOf ByteArray.empty t236 x6_1).size) t252 t253 t254 t257 _ A30.out).mono ?_); rintro e w33 ⟨v255, v258, rfl, ho0, ho1, hb⟩; refine ⟨_, rfl, ?_⟩; replace HO_4 := AM_ (Kd.S_mono (Kd.S_told (Kd.S_told (Kd.S_old (ST HO_4.out) hb) (Kd.R_base ho0)) (Kd.R_base ho1)) (fun _ h_ => h_.1)); replace HO_5 := AM_ (Kd.R_below (RT HO_5.out) hb); have HO256 := AM_ (Kd.R_lower ho0 (below_size (BT HB.out))); have HO259 := AM_ (Kd.R_lower ho1 (below_size (BT HB.out))); replace HB := AM_ (below_step (BT HB.out) hb); (try clear hb); (try clear hb2); (try clear hk); (try clear hi); (try clear ho0); (try clear ho1)) | ((with_reducible refine gate_dst (N := 8) rfl ?_); refine box_event ?hg (N := 8) ?hd (cs := #[.int .i64 0, .int .i64 0, .slice none 0 0, .slice none 0 0]) (t := 33) ?hr ?_; (case hd => rfl); (case hg => rfl); (case hr => first | (go_simp; done) | (go_simp; rfl)); intro gb260 hg w34 hbox hb; replace HO_4 := AM_ (Kd.S_below (Kd.S_elderB (ST HO_4.out) gb260 (Nat.le_of_eq hg.symm)) hb); replace HO_5 := AM_ (Kd.R_below (RT HO_5.out) hb); replace HO256 := AM_ (Kd.R_below (RT HO256.out) hb); replace HO259 := AM_ (Kd.R_below (RT HO259.out) hb); have BK260 := AM_ (hbox); have GW260 := AM_ ((GS HB.out hg)); have GE260 := AM_ ((GS HB.out hg)); replace HB := AM_ (below_step (BT HB.out) hb); clear hb hbox hg; obtain ⟨hcz35_0, hcz35_1, hcz35_2, hcz35_3, hfz35_0, hfz35_1, hfz35_2, hfz35_3⟩ := bk4 BK260.out; obtain ⟨Ao36, co36, eo36⟩ := Kd.R_slice HO256.out; subst eo36; obtain ⟨Ao37, co37, eo37⟩ := Kd.R_slice HO259.out; subst eo37) | ((with_reducible refine gate_store (t := 33) (p := 8) rfl ?_); refine store_event (t := 33) (p := 8) (v := ?vo_w38) (w1 := ((((w34.setCell ⟨gb260, 0, none⟩ (.int .i64 t252)).setCell ⟨gb260, 1, none⟩ (.int .i64 t253)).setCell ⟨gb260, 2, none⟩ (.slice Ao36 t254.length co36)).setCell ⟨gb260, 3, none⟩ (.slice Ao37 t257.length co37))) ?hg ?ho ?hn ?hr ?_; (case ho => rfl); (case hg => rfl); (case hn => rfl); (case hr => first | (go_simp; done) | (go_simp; rfl)); intro w38 hw; have n0_ : Aside0 (Kd.S k33 33 w38 w.heap.size (fun k_ => some k_ ≠ (.slice Ao36 t254.length co36 : Value).ownBlock ∧ some k_ ≠ (.slice Ao37 t257.length co37 : Value).ownBlock ∧ k_ ≠ gb260) u4 x4_1) := ⟨(by rw [hw]; exact (by (with_reducible repeat (first | apply Kd.S_alloc | apply Kd.S_drewN | apply Kd.S_drew)); exact Kd.S_mono (Kd.S_far (p := ⟨gb260, 3, none⟩) (Kd.S_far (p := ⟨gb260, 2, none⟩) (Kd.S_far (p := ⟨gb260, 1, none⟩) (Kd.S_far (p := ⟨gb260, 0, none⟩) (Kd.S_mono HO_4.out (fun k_ hk => (⟨hk, hk.2⟩ : _ ∧ k_ ≠ gb260))) (fun _ hk => hk.2) (.int .i64 t252)) (fun _ hk => hk.2) (.int .i64 t253)) (fun _ hk => hk.2) (.slice Ao36 t254.length co36)) (fun _ hk => hk.2) (.slice Ao37 t257.length co37)) (fun _ hk => ⟨hk.1.1.1.2, ⟨hk.1.1.2, hk.1.2⟩⟩)))⟩; have n1_ : Aside0 (Kd.R Kd.string 9 w38 w.heap.size (fun _ => True) (.slice (some ad239) t236.length co32) t236) := ⟨(by rw [hw]; exact (by (with_reducible repeat (first | apply Kd.R_alloc | apply Kd.R_drewN | apply Kd.R_drew)); exact Kd.R_mono (Kd.R_far (p := ⟨gb260, 3, none⟩) (Kd.R_far (p := ⟨gb260, 2, none⟩) (Kd.R_far (p := ⟨gb260, 1, none⟩) (Kd.R_far (p := ⟨gb260, 0, none⟩) (Kd.R_types HO_5.out BK260.out (by decide)) (fun _ hk => hk.2) (.int .i64 t252)) (fun _ hk => hk.2) (.int .i64 t253)) (fun _ hk => hk.2) (.slice Ao36 t254.length co36)) (fun _ hk => hk.2) (.slice Ao37 t257.length co37)) (fun _ hk => trivial)))⟩; have n2_ : Aside0 (Kd.R k48 48 w38 w.heap.size (fun _ => True) (.slice Ao36 t254.length co36) t254) := ⟨(by rw [hw]; exact (by (with_reducible repeat (first | apply Kd.R_alloc | apply Kd.R_drewN | apply Kd.R_drew)); exact Kd.R_mono (Kd.R_far (p := ⟨gb260, 3, none⟩) (Kd.R_far (p := ⟨gb260, 2, none⟩) (Kd.R_far (p := ⟨gb260, 1, none⟩) (Kd.R_far (p := ⟨gb260, 0, none⟩) (Kd.R_types HO256.out BK260.out (by decide)) (fun _ hk => hk.2) (.int .i64 t252)) (fun _ hk => hk.2) (.int .i64 t253)) (fun _ hk => hk.2) (.slice Ao36 t254.length co36)) (fun _ hk => hk.2) (.slice Ao37 t257.length co37)) (fun _ hk => trivial)))⟩; have n3_ : Aside0 (Kd.R k50 50 w38 w.heap.size (fun _ => True) (.slice Ao37 t257.length co37) t257) := ⟨(by rw [hw]; exact (by (with_reducible repeat (first | apply Kd.R_alloc | apply Kd.R_drewN | apply Kd.R_drew)); exact Kd.R_mono (Kd.R_far (p := ⟨gb260, 3, none⟩) (Kd.R_far (p := ⟨gb260, 2, none⟩) (Kd.R_far (p := ⟨gb260, 1, none⟩) (Kd.R_far (p := ⟨gb260, 0, none⟩) (Kd.R_types HO259.out BK260.out (by decide)) (fun _ hk => hk.2) (.int .i64 t252)) (fun _ hk => hk.2) (.int .i64 t253)) (fun _ hk => hk.2) (.slice Ao36 t254.length co36)) (fun _ hk => hk.2) (.slice Ao37 t257.length co37)) (fun _ hk => trivial)))⟩; have n4_ : Aside0 (w38.heap[gb260]? = some (.cells #[.int .i64 t252, .int .i64 t253, .slice Ao36 t254.length co36, .slice Ao37 t257.length co37] 33 (0, 0))) := ⟨(by rw [hw]; exact (by (with_reducible repeat (first | refine blk_drewN ?_ _ | refine blk_drew ?_ | refine blk_alloc ?_ _)); refine blk_put (cs := #[.int .i64 t252, .int .i64 t253, .slice Ao36 t254.length co36, .slice none 0 0]) ?_ 3 _ rfl; (with_reducible repeat (first | refine blk_drewN ?_ _ | refine blk_drew ?_ | refine blk_alloc ?_ _)); refine blk_put (cs := #[.int .i64 t252, .int .i64 t253, .slice none 0 0, .slice none 0 0]) ?_ 2 _ rfl; (with_reducible repeat (first | refine blk_drewN ?_ _ | refine blk_drew ?_ | refine blk_alloc ?_ _)); refine blk_put (cs := #[.int .i64 t252, .int .i64 0, .slice none 0 0, .slice none 0 0]) ?_ 1 _ rfl; (with_reducible repeat (first | refine blk_drewN ?_ _ | refine blk_drew ?_ | refine blk_alloc ?_ _)); refine blk_put (cs := #[.int .i64 0, .int .i64 0, .slice none 0 0, .slice none 0 0]) ?_ 0 _ rfl; (with_reducible repeat (first | refine blk_drewN ?_ _ | refine blk_drew ?_ | refine blk_alloc ?_ _)); exact BK260.out))⟩; have n5_ : Aside0 (Below w.heap.size w w38) := ⟨(by rw [hw]; exact (BT HB.out))⟩; clear hw; clear HO_4; clear HO_5; clear HO256; clear HO259; clear BK260; clear HB; have HO_4 := n0_; have HO_5 := n1_; have HO256 := n2_; have HO259 := n3_; have BK260 := n4_; have HB := n5_; clear n0_ n1_ n2_ n3_ n4_ n5_; obtain ⟨hcz39_0, hcz39_1, hcz39_2, hcz39_3, hfz39_0, hfz39_1, hfz39_2, hfz39_3⟩ := bk4 BK260.out) | ((with_reducible refine gate_builtin (b := .append) (xs := #[.tmp 39, .tmp 41]) rfl ?_); at_builtin; refine Kd.S_append k33 (w0 := w) w.heap.size rfl (.tmp 39) (.tmp 41) 22 33 (.agg #[(.int .i64 0), (.int .i64 0), (.slice none 0 0), (.slice none 0 0)]) 64 rfl Tryz.underlying22 info33 rfl (by decide) (by omega) u4 x4_1 (⟨t252, t253, t254, t257⟩ : S33) [.int .i64 t252, .int .i64 t253, .slice Ao36 t254.length co36, .slice Ao37 t257.length co37] (fun k_ => k_ ≠ gb260) (fun k_ => some k_ = (.slice Ao36 t254.length co36 : Value).ownBlock ∨ some k_ = (.slice Ao37 t257.length co37 : Value).ownBlock) rfl rfl ?aP (fun k_ hk_ => hk_.elim (fun h_ => ((Kd.R_mono (ok' := fun k_ => ((fun k_ => k_ ≠ gb260)) k_ ∧ some k_ ≠ (u4 : Value).ownBlock) (Kd.R_types (Kd.R_apart' (HO256.out) (Kd.S_typed HO_4.out) (by decide)) BK260.out (by decide)) (fun k_ hk => ⟨hk.2, hk.1.2⟩))).1 k_ h_.symm) (fun h_ => ((Kd.R_mono (ok' := fun k_ => ((fun k_ => k_ ≠ gb260)) k_ ∧ some k_ ≠ (u4 : Value).ownBlock) (Kd.R_types (Kd.R_apart' (HO259.out) (Kd.S_typed HO_4.out) (by decide)) BK260.out (by decide)) (fun k_ hk => ⟨hk.2, hk.1.2⟩))).1 k_ h_.symm)) ?aF ?aO ?aB ?aS ?aL ?_; (case aP => exact k33_mkM _ _ _ (⟨t252, t253, t254, t257⟩ : S33) (Kd.R_mono (Kd.R_tight rfl (Kd.R_mono (ok' := fun k_ => ((fun k_ => k_ ≠ gb260)) k_ ∧ some k_ ≠ (u4 : Value).ownBlock) (Kd.R_types (Kd.R_apart' (HO256.out) (Kd.S_typed HO_4.out) (by decide)) BK260.out (by decide)) (fun k_ hk => ⟨hk.2, hk.1.2⟩))) (fun _ h_ => Or.inl h_)) (Kd.R_mono (Kd.R_tight rfl (Kd.R_mono (ok' := fun k_ => ((fun k_ => k_ ≠ gb260)) k_ ∧ some k_ ≠ (u4 : Value).ownBlock) (Kd.R_types (Kd.R_apart' (HO259.out) (Kd.S_typed HO_4.out) (by decide)) BK260.out (by decide)) (fun k_ hk => ⟨hk.2, hk.1.2⟩))) (fun _ h_ => Or.inr (h_)))); (case aB => exact (BT HB.out)); (case aF => exact (fun k_ hk => Kd.freshB (g := gb260) (o := .cells #[.int .i64 t252, .int .i64 t253, .slice Ao36 t254.length co36, .slice Ao37 t257.length co37] 33 (0, 0)) (by (with_reducible repeat (first | refine blk_drewN ?_ _ | refine blk_drew ?_ | refine blk_alloc ?_ _)); exact BK260.out) k_ hk)); (case aO => exact (by (with_reducible repeat (first | apply Kd.S_alloc | apply Kd.S_drewN | apply Kd.S_drew)); exact Kd.S_mono HO_4.out (fun k_ hk => ⟨hk.2.2, fun e_ => e_.elim (fun h_ => hk.1 h_) (fun h_ => hk.2.1 h_)⟩))); (case aS => exact (below_size (BT HB.out))); (case aL => have := LMc31.out; omega); intro v262 w40 ho hb hg hat; rw [← Ny261.out] at ho; have n0_ := AM_ (Kd.R_over' (RT HO_5.out) (Kd.S_typed (ST HO_4.out)) (by decide) hg); have n1_ := AM_ (blk_grown (g := gb260) (o := .cells #[.int .i64 t252, .int .i64 t253, .slice Ao36 t254.length co36, .slice Ao37 t257.length co37] 33 (0, 0)) (by (with_reducible repeat (first | refine blk_drewN ?_ _ | refine blk_drew ?_ | refine blk_alloc ?_ _)); exact BK260.out) hg (Kd.S_away HO_4.out (fun _ hk => hk.2.2))); have n2_ := AM_ (hb); have n3_ := AM_ (ho); clear HO_5; clear BK260; clear HB; clear HO_4; clear HO256; clear HO259; have HO_5 := n0_; have BK260 := n1_; have HB := n2_; have HO263 := n3_; clear n0_ n1_ n2_ n3_; clear ho hb hg hat))
     go_roundg kj8
     case measure => have := HK1.out; have := HJ8.out; omega
     case rel => exact ⟨(y261), (wrap64 (x6_1 + 1)), (by first | rfl | (simp; done) | (simp [*]; done)), H', ⟨by have := HK1.out; have := HJ8.out; omega⟩, ⟨by (with_reducible repeat (first | apply Kd.S_alloc | apply Kd.S_drewN | apply Kd.S_drew)); exact Kd.S_mono HO263.out (fun _ hk => trivial)⟩, ⟨RT HO_5.out⟩, ⟨BT HB.out⟩⟩

/-! ### strings_Split: function 12 -/
def strings_Split.f (a0 a1 : ByteArray) : Option (List ByteArray) := if a0.size < 4294967281 then (if 1 ≤ a1.size then (some (Lib.splitB a1 0 (Lib.countB a0 a1) a0)) else (none)) else (none)
theorem strings_Split.calls (a0 a1 : ByteArray) (r : List ByteArray) (w : World) (hTB : Tryz.TB w) (h : strings_Split.f a0 a1 = some r) :
  Calls Tryz.prog 12 #[.string a0, .string a1] w fun e w' => ∃ v0_ : Value, e = .returned (v0_) ∧ Kd.R Kd.string 9 w' w.heap.size (fun _ => True) v0_ r ∧ Below w.heap.size w w' := by
 unfold strings_Split.f at h
 by_cases c0 : a0.size < 4294967281
 rotate_left
 ·rw [if_neg c0] at h; exact absurd h (by simp)
 rw [if_pos c0] at h
 by_cases c1 : 1 ≤ a1.size
 rotate_left
 ·rw [if_neg c1] at h; exact absurd h (by simp)
 rw [if_pos c1] at h
 obtain rfl := Option.some.inj h
 obtain ⟨_, ⟨m, hm⟩, _⟩ := hTB
 have hlen : (Lib.splitB a1 0 (Lib.countB a0 a1) a0).length = Lib.countB a0 a1 + 1 := Lib.splitB_all a1 c1 0 _ a0 rfl
 have hle := Lib.countB_le a1 c1 a0.size a0 (Nat.le_refl _)
 refine (Tryz.strings_Split a0 a1 m w c0 hm c1).mono ?_
 rintro e w' ⟨rfl, rfl⟩
 generalize Lib.splitB a1 0 (Lib.countB a0 a1) a0 = xs at hlen ⊢
 have hb : Below w.heap.size w (w.alloc (.cells (xs.map Value.string).toArray 9)) := below_alloc (Below.refl _ _) _
 refine ⟨_, rfl, ⟨fun _ _ => trivial, xs.map Value.string, ⟨by rw [List.length_map]; exact (Nat.mul_one _).symm, .inr ⟨w.heap.size, Lib.countB a0 a1 + 1, (xs.map Value.string).toArray, ?_, Nat.le_refl _, ?_, by omega, by unfold maxLen; omega, ?_, ?_⟩⟩, ?_, ?_⟩, hb⟩
 ·rw [hlen]
 ·exact heap_alloc_new _ _
 ·simp [hlen, Kd.string, Kd.scalar]
 ·simp [Kd.string, Kd.scalar, List.take_of_length_le]
 ·simp [Kd.string, Kd.scalar]
 ·intro j p hj
  show ((xs.map Value.string).drop (j * 1)).take 1 = [Value.string p]
  obtain ⟨hjl, rfl⟩ := List.getElem?_eq_some_iff.1 hj
  have hjm : j < (xs.map Value.string).length := by simpa using hjl
  rw [Nat.mul_one, List.drop_eq_getElem_cons hjm, List.take_succ_cons, List.take_zero, List.getElem_map]

/-! ### strings_Cut: function 13 -/
def strings_Cut.f (a0 a1 : ByteArray) : Option (ByteArray × ByteArray × Bool) := if a0.size < 4294967281 then some (⟨(Lib.cut a0.data.toList a1.data.toList).1.toArray⟩, ⟨(Lib.cut a0.data.toList a1.data.toList).2.1.toArray⟩, (Lib.cut a0.data.toList a1.data.toList).2.2) else none
theorem strings_Cut.calls (a0 a1 r1 r2 : ByteArray) (r3 : Bool) (w : World) (hTB : Tryz.TB w) (h : strings_Cut.f a0 a1 = some (r1, r2, r3)) :
  Calls Tryz.prog 13 #[.string a0, .string a1] w fun e w' => e = .returned (.tuple #[.string r1, .string r2, .bool r3]) ∧ Below w.heap.size w w' := by
 unfold strings_Cut.f at h
 by_cases c0 : a0.size < 4294967281
 rotate_left
 ·rw [if_neg c0] at h; exact absurd h (by simp)
 rw [if_pos c0] at h
 injection h with h
 injection h with h1 h
 injection h with h2 h3
 subst h1 h2 h3
 obtain ⟨_, ⟨m, hm⟩, _⟩ := hTB
 refine (Tryz.strings_Cut a0 a1 m w c0 hm).mono ?_
 rintro e w' ⟨rfl, n, rfl⟩
 exact ⟨rfl, pw_below_drewN (Below.refl _ _) n⟩

/-! ### impl_in: function 30 -/
def impl_in.f (a0 : Int) (a1 : Int) (a2 : Int) : Option (Bool) := if a1 ≤ a0 then (some (decide (a0 ≤ a2))) else (some false)
theorem impl_in.calls (a0 : Int) (a1 : Int) (a2 : Int) (r : Bool) (w : World) (h : impl_in.f a0 a1 a2 = some r) :
  Calls Tryz.prog 30 #[.int .i64 a0, .int .i64 a1, .int .i64 a2] w fun e w' => e = .returned (.bool r) ∧ Drawn0 w w' := by
 have H : (if a1 ≤ a0 then (some (decide (a0 ≤ a2))) else (some false)) = some r := h
 clear h
 by_cases c4 : a1 ≤ a0
 ·rw [if_pos c4] at H
  have c4b0 : decide (a1 ≤ a0) = true := decide_eq_true c4
  clear c4
  obtain rfl := Option.some.inj H
  go_enter Tryz.func30, Tryz.ntmps30
  go_wp2
  go_ret
  exact ⟨by first | rfl | (simp; done) | (simp [*]; done), by repeat (first | exact Drawn0.refl _ | apply Drawn0.step)⟩
 rw [if_neg c4] at H
 have c4b0 : decide (a1 ≤ a0) = false := decide_eq_false c4
 clear c4
 obtain rfl := Option.some.inj H
 go_enter Tryz.func30, Tryz.ntmps30
 go_wp2
 go_ret
 exact ⟨by first | rfl | (simp; done) | (simp [*]; done), by repeat (first | exact Drawn0.refl _ | apply Drawn0.step)⟩

/-! ### strconv_Itoa: function 31 -/
def strconv_Itoa.f (a0 : Int) : Option ByteArray := if -9223372036854775808 ≤ a0 then (if a0 ≤ 9223372036854775807 then (some (⟨(Lib.itoa a0).toArray⟩ : ByteArray)) else (none)) else (none)
theorem strconv_Itoa.calls (a0 : Int) (r : ByteArray) (w : World) (hTB : Tryz.TB w) (h : strconv_Itoa.f a0 = some r) :
  Calls Tryz.prog 31 #[.int .i64 a0] w fun e w' => e = .returned (.string r) ∧ Below w.heap.size w w' := by
 unfold strconv_Itoa.f at h
 by_cases c0 : -9223372036854775808 ≤ a0
 rotate_left
 ·rw [if_neg c0] at h; exact absurd h (by simp)
 rw [if_pos c0] at h
 by_cases c1 : a0 ≤ 9223372036854775807
 rotate_left
 ·rw [if_neg c1] at h; exact absurd h (by simp)
 rw [if_pos c1] at h
 obtain rfl := Option.some.inj h
 refine (Tryz.strconv_Itoa a0 c0 c1 w hTB.1).mono ?_
 rintro e w' ⟨rfl, k, os, rfl⟩
 exact ⟨rfl, Lib.below_grow _ _ (Nat.le_refl _) _ _⟩

/-! ### impl_ParseInt: function 14 -/
def impl_ParseInt.f (a0 : ByteArray) : Option (Int × Bool) := if a0.size ≤ 281474976710656 then (match Lib.atoiAll a0.data.toList with | .ok v => if (-999999999 ≤ v ∧ v ≤ 999999999) ∧ Lib.itoa v = a0.data.toList then some (v, true) else some (0, false) | _ => some (0, false)) else none
theorem impl_ParseInt_atoi (s : ByteArray) (hs : s.size ≤ 281474976710656) (w : World) (hTB : Tryz.TB w) :
  (∀ v, Lib.atoiAll s.data.toList = .ok v → Calls Tryz.prog 29 #[.string s] w fun e w' => e = .returned (.tuple #[.int .i64 v, .nilIface]) ∧ Below w.heap.size w w') ∧
  ((∀ v, Lib.atoiAll s.data.toList ≠ .ok v) → Calls Tryz.prog 29 #[.string s] w fun e w' => ∃ n t p, e = .returned (.tuple #[.int .i64 n, .iface t (.pointer (some p))]) ∧ Below w.heap.size w w') := by
 obtain ⟨_, _, ⟨e1, h1, h1'⟩, ⟨e2, h2, h2'⟩⟩ := hTB
 refine ⟨fun v hv => ?_, fun hn => ?_⟩
 ·refine (Tryz.strconv_Atoi_ok s (by omega) v hv w).mono ?_
  rintro e w' ⟨rfl, hw⟩
  refine ⟨rfl, ?_⟩
  rcases hw with rfl | ⟨t, rfl⟩
  ·exact Below.refl _ _
  ·exact Lib.bytesWorld_below _ _ _
 ·by_cases hr : Lib.atoiAll s.data.toList = .range
  ·refine (Tryz.strconv_Atoi_range s hs hr e2 w h2 h2').mono ?_
   rintro e w' ⟨N, rfl, _, _, hb⟩
   exact ⟨_, _, _, rfl, hb⟩
  refine (Tryz.strconv_Atoi_none s hs hn hr e1 w h1 h1').mono ?_
  rintro e w' ⟨N, rfl, _, _, hb⟩
  exact ⟨_, _, _, rfl, hb⟩
theorem impl_ParseInt.calls (a0 : ByteArray) (r1 : Int) (r2 : Bool) (w : World) (hTB : Tryz.TB w) (h : impl_ParseInt.f a0 = some (r1, r2)) :
  Calls Tryz.prog 14 #[.string a0] w fun e w' => e = .returned (.tuple #[.int .i64 r1, .bool r2]) ∧ Below w.heap.size w w' := by
 unfold impl_ParseInt.f at h
 by_cases c0 : a0.size ≤ 281474976710656
 rotate_left
 ·rw [if_neg c0] at h; exact absurd h (by simp)
 rw [if_pos c0] at h
 obtain ⟨hok, hbad⟩ := impl_ParseInt_atoi a0 c0 w hTB
 have HT := AM_ hTB
 clear hTB
 by_cases hv : ∃ v, Lib.atoiAll a0.data.toList = .ok v
 rotate_left
 ·have hn : ∀ v, Lib.atoiAll a0.data.toList ≠ .ok v := fun v h_ => hv ⟨v, h_⟩
  have hr : r1 = 0 ∧ r2 = false := by
   rcases hc : Lib.atoiAll a0.data.toList with v | _ | _
   ·exact absurd hc (hn v)
   all_goals (rw [hc] at h; have := Option.some.inj h; injection this with h1 h2; exact ⟨h1.symm, h2.symm⟩)
  obtain ⟨rfl, rfl⟩ := hr
  have HV := AM_ (hbad hn)
  clear hok hbad hv hn h c0
  go_enter Tryz.func14, Tryz.ntmps14
  go_wp2_with (first | (go_at_call 29; refine HV.out.mono ?_; rintro e W1 ⟨n_, t_, p_, rfl, hb1⟩; have HB := AM_ hb1; clear hb1))
  go_ret2
  exact ⟨by first | rfl | (simp; done), by repeat (first | exact HB.out | apply below_alloc | apply pw_below_drewN | apply below_drew1)⟩
 obtain ⟨v, hv⟩ := hv
 replace hok := hok v hv
 clear hbad
 rw [hv] at h
 dsimp only at h
 have vb := Lib.atoiAll_bounds hv
 by_cases cr : -999999999 ≤ v ∧ v ≤ 999999999
 rotate_left
 ·rw [if_neg (fun h_ => cr h_.1)] at h
  obtain ⟨rfl, rfl⟩ : 0 = r1 ∧ false = r2 := by simpa using h
  have ci : impl_in.f v (-999999999) 999999999 = some false := by
   unfold impl_in.f
   by_cases c1 : -999999999 ≤ v
   rotate_left
   ·rw [if_neg c1]
   rw [if_pos c1, decide_eq_false (fun c2 => cr ⟨c1, c2⟩)]
  have HI := AM_ ci
  have HV := AM_ hok
  clear ci hok vb h hv cr c0
  go_enter Tryz.func14, Tryz.ntmps14
  go_wp2_with (first | (go_at_call 29; refine HV.out.mono ?_; rintro e W1 ⟨rfl, hb1⟩; have HB := AM_ hb1; clear hb1) | (go_at_call 30; refine (impl_in.calls _ _ _ _ _ HI.out).mono ?_; rintro e W2 ⟨rfl, ⟨nd, rfl⟩⟩))
  go_ret2
  exact ⟨by first | rfl | (simp; done), by repeat (first | exact HB.out | apply below_alloc | apply pw_below_drewN | apply below_drew1)⟩
 have ci : impl_in.f v (-999999999) 999999999 = some true := by unfold impl_in.f; rw [if_pos cr.1, decide_eq_true cr.2]
 have ct : strconv_Itoa.f v = some ⟨(Lib.itoa v).toArray⟩ := by unfold strconv_Itoa.f; rw [if_pos (by omega), if_pos (by omega)]
 have HI := AM_ ci
 have HC := AM_ ct
 have HV := AM_ hok
 clear ci ct hok vb
 by_cases ce : Lib.itoa v = a0.data.toList
 ·rw [if_pos ⟨cr, ce⟩] at h
  obtain ⟨rfl, rfl⟩ : v = r1 ∧ true = r2 := by simpa using h
  obtain rfl : a0 = ⟨(Lib.itoa v).toArray⟩ := by rw [ce]
  clear h hv cr ce c0
  go_enter Tryz.func14, Tryz.ntmps14
  go_wp2_with (first | (go_at_call 29; refine HV.out.mono ?_; rintro e W1 ⟨rfl, hb1⟩; have HB := AM_ hb1; clear hb1) | (go_at_call 30; refine (impl_in.calls _ _ _ _ _ HI.out).mono ?_; rintro e W2 ⟨rfl, ⟨nd, rfl⟩⟩) | (go_at_call 31; refine (strconv_Itoa.calls _ _ _ ?tb HC.out).mono ?_; (case tb => exact Tryz.TB_below HT.out (by repeat (first | exact HB.out | apply below_alloc | apply pw_below_drewN | apply below_drew1))); rintro e W3 ⟨rfl, hb3⟩; have HB3 := AM_ hb3; clear hb3))
  go_ret2
  exact ⟨by first | rfl | (simp; done), by first | exact below_step (by repeat (first | exact HB.out | apply below_alloc | apply pw_below_drewN | apply below_drew1)) HB3.out | exact HB.out⟩
 rw [if_neg (fun h_ => ce h_.2)] at h
 obtain ⟨rfl, rfl⟩ : 0 = r1 ∧ false = r2 := by simpa using h
 have cq : (Lib.itoa v == a0.toList) = false := by rw [ByteArray.toList_eq]; exact beq_false_of_ne ce
 clear h hv cr ce c0
 go_enter Tryz.func14, Tryz.ntmps14
 go_wp2_with (first | (go_at_call 29; refine HV.out.mono ?_; rintro e W1 ⟨rfl, hb1⟩; have HB := AM_ hb1; clear hb1) | (go_at_call 30; refine (impl_in.calls _ _ _ _ _ HI.out).mono ?_; rintro e W2 ⟨rfl, ⟨nd, rfl⟩⟩) | (go_at_call 31; refine (strconv_Itoa.calls _ _ _ ?tb HC.out).mono ?_; (case tb => exact Tryz.TB_below HT.out (by repeat (first | exact HB.out | apply below_alloc | apply pw_below_drewN | apply below_drew1))); rintro e W3 ⟨rfl, hb3⟩; have HB3 := AM_ hb3; clear hb3))
 all_goals first | (exfalso; rename_i hh; rw [cq] at hh; exact Bool.noConfusion hh) | (go_ret2; exact ⟨by first | rfl | (simp; done), by first | exact below_step (by repeat (first | exact HB.out | apply below_alloc | apply pw_below_drewN | apply below_drew1)) HB3.out | exact HB.out⟩)

/-! ### impl_parseValue: function 32 -/
def impl_parseValue.f (a0 : ByteArray) : Option (Int × Bool) := (impl_ParseInt.f a0).bind fun bt283 => (if a0.toList = ([45] : List UInt8) then (some ((-1), true)) else (if bt283.2 = true then ((impl_in.f bt283.1 0 99).bind fun t285 => (some (bt283.1, t285))) else (some (bt283.1, false))))
theorem impl_parseValue.calls (a0 : ByteArray) (r1 : Int) (r2 : Bool) (w : World) (hTB : Tryz.TB w) (h : impl_parseValue.f a0 = some (r1, r2)) :
  Calls Tryz.prog 32 #[.string a0] w fun e w' => e = .returned (.tuple #[.int .i64 r1, .bool r2]) ∧ Below w.heap.size w w' := by
 have HB := AM_ (Below.refl w.heap.size w)
 have H : ((impl_ParseInt.f a0).bind fun bt283 => (if a0.toList = ([45] : List UInt8) then (some ((-1), true)) else (if bt283.2 = true then ((impl_in.f bt283.1 0 99).bind fun t285 => (some (bt283.1, t285))) else (some (bt283.1, false))))) = some (r1, r2) := h
 clear h
 replace H := Option.bind_eq_some_iff.mp H
 obtain ⟨⟨t283, t284⟩, A20, H⟩ := H
 replace H : (if a0.toList = ([45] : List UInt8) then (some ((-1), true)) else (if t284 = true then ((impl_in.f t283 0 99).bind fun t285 => (some (t283, t285))) else (some (t283, false)))) = some (r1, r2) := H
 have A2 := AM_ A20
 clear A20
 by_cases c3 : a0.toList = ([45] : List UInt8)
 ·rw [if_pos c3] at H
  have c3b0 : (a0.toList == ([45] : List UInt8)) = true := beq_iff_eq.mpr c3
  have c3b1 : (a0.toList != ([45] : List UInt8)) = false := bne_eq_false_iff_eq.mpr c3
  clear c3
  simp only [Option.some.injEq, Prod.mk.injEq] at H
  obtain ⟨rfl, rfl⟩ := H
  go_enter Tryz.func32, Tryz.ntmps32
  go_wp2_with (first | ((with_reducible refine gate_callee (f := 14) rfl ?_); refine goesL_ (some 8) rfl rfl Tryz.func14 (by kernel_rfl) rfl #[.string a0] rfl (by (try simp only [List.map_toArray, List.map_cons, List.map_nil]); first | done | rfl | (simp only [List.length_drop, List.length_take]; rfl)) ?_; (with_reducible refine (impl_ParseInt.calls a0 t283 t284 _ ?side1 A2.out).mono ?_); (case side1 => first | (with_reducible exact hTB) | exact Tryz.TB_below hTB (BT HB.out)); rintro e w4 ⟨rfl, hb⟩; refine ⟨_, rfl, ?_⟩; replace HB := AM_ (below_step (BT HB.out) hb); (try clear hb); (try clear hb2); (try clear hk); (try clear hi)))
  go_ret2
  exact QT (BT HB.out)
 rw [if_neg c3] at H
 have c3b0 : (a0.toList == ([45] : List UInt8)) = false := beq_eq_false_iff_ne.mpr c3
 have c3b1 : (a0.toList != ([45] : List UInt8)) = true := bne_iff_ne.mpr c3
 by_cases c5 : t284 = true
 rotate_left
 ·replace c5 := Bool.eq_false_iff.mpr c5
  subst c5
  have H1 : (some (t283, false)) = some (r1, r2) := by rw [if_neg (show ¬ (false = true) by decide)] at H; exact H
  clear H
  have H := H1
  clear H1
  simp only [Option.some.injEq, Prod.mk.injEq] at H
  obtain ⟨rfl, rfl⟩ := H
  go_enter Tryz.func32, Tryz.ntmps32
  go_wp2_with (first | ((with_reducible refine gate_callee (f := 14) rfl ?_); refine goesL_ (some 8) rfl rfl Tryz.func14 (by kernel_rfl) rfl #[.string a0] rfl (by (try simp only [List.map_toArray, List.map_cons, List.map_nil]); first | done | rfl | (simp only [List.length_drop, List.length_take]; rfl)) ?_; (with_reducible refine (impl_ParseInt.calls a0 t283 false _ ?side1 A2.out).mono ?_); (case side1 => first | (with_reducible exact hTB) | exact Tryz.TB_below hTB (BT HB.out)); rintro e w8 ⟨rfl, hb⟩; refine ⟨_, rfl, ?_⟩; replace HB := AM_ (below_step (BT HB.out) hb); (try clear hb); (try clear hb2); (try clear hk); (try clear hi)))
  go_ret2
  exact QT (BT HB.out)
 subst c5
 have H1 : ((impl_in.f t283 0 99).bind fun t285 => (some (t283, t285))) = some (r1, r2) := by rw [if_pos rfl] at H; exact H
 clear H
 have H := H1
 clear H1
 replace H := Option.bind_eq_some_iff.mp H
 obtain ⟨t285, A60, H⟩ := H
 replace H : (some (t283, t285)) = some (r1, r2) := H
 have A6 := AM_ A60
 clear A60
 simp only [Option.some.injEq, Prod.mk.injEq] at H
 obtain ⟨rfl, rfl⟩ := H
 go_enter Tryz.func32, Tryz.ntmps32
 go_wp2_with (first | ((with_reducible refine gate_callee (f := 14) rfl ?_); refine goesL_ (some 8) rfl rfl Tryz.func14 (by kernel_rfl) rfl #[.string a0] rfl (by (try simp only [List.map_toArray, List.map_cons, List.map_nil]); first | done | rfl | (simp only [List.length_drop, List.length_take]; rfl)) ?_; (with_reducible refine (impl_ParseInt.calls a0 t283 true _ ?side1 A2.out).mono ?_); (case side1 => first | (with_reducible exact hTB) | exact Tryz.TB_below hTB (BT HB.out)); rintro e w7 ⟨rfl, hb⟩; refine ⟨_, rfl, ?_⟩; replace HB := AM_ (below_step (BT HB.out) hb); (try clear hb); (try clear hb2); (try clear hk); (try clear hi)) | (go_at_call 30; (with_reducible refine (impl_in.calls t283 0 99 t285 _ A6.out).mono ?_); rintro e w' ⟨rfl, ⟨nd, rfl⟩⟩))
 go_ret2
 exact QT (BT HB.out)

/-! ### impl_parseAccesses: function 15 -/
def impl_parseAccesses.l0 : Nat → List (S48) → List (S50) → List ByteArray → Int → Int → Option ((List (S48)) × (List (S50)))
 | 0, _, _, _, _, _ => none
 | k + 1, x4, x5, x19, x20, x21 => if x21 < x20 then (if 0 ≤ x21 then (if x21 < (x19.length : Int) then (if (rdOf ByteArray.empty x19 x21).toList = ([] : List UInt8) then (impl_parseAccesses.l0 k x4 x5 x19 x20 (wrap64 (x21 + 1))) else (if 1 ≤ ((rdOf ByteArray.empty x19 x21).size : Int) then ((strings_Cut.f ((rdOf ByteArray.empty x19 x21).extract 1 (rdOf ByteArray.empty x19 x21).size) (⟨#[58]⟩ : ByteArray)).bind fun bt293 => ((impl_ParseInt.f bt293.1).bind fun bt296 => (if 0 < ((rdOf ByteArray.empty x19 x21).size : Int) then (if (bt (rdOf ByteArray.empty x19 x21) 0) = 114 then ((impl_ParseInt.f bt293.2.1).bind fun bt298 => (if x4.length < 8796093022208 then (impl_parseAccesses.l0 k (x4 ++ [(⟨bt296.1, bt298.1⟩ : S48)]) x5 x19 x20 (wrap64 (x21 + 1))) else (none))) else ((impl_parseValue.f bt293.2.1).bind fun bt303 => (if x5.length < 8796093022208 then (impl_parseAccesses.l0 k x4 (x5 ++ [(⟨bt296.1, bt303.1⟩ : S50)]) x19 x20 (wrap64 (x21 + 1))) else (none)))) else (none)))) else (none))) else (none)) else (none)) else (some (x4, x5))
def impl_parseAccesses.f (k : Nat) (l0 : List ByteArray) : Option ((List (S48)) × (List (S50))) := impl_parseAccesses.l0 k (([] : List (S48))) (([] : List (S50))) l0 (l0.length : Int) 0
theorem impl_parseAccesses.mono_l : ∀ k, (∀ y0 y1 y2 y3 y4, LeO (impl_parseAccesses.l0 k y0 y1 y2 y3 y4) (impl_parseAccesses.l0 (k + 1) y0 y1 y2 y3 y4))
 | 0 => fun _ _ _ _ _ r h => by simp [impl_parseAccesses.l0] at h
 | k + 1 => by
  have ih0 := impl_parseAccesses.mono_l k
  ·intro y0 y1 y2 y3 y4
   unfold impl_parseAccesses.l0
   repeat' first
   | (with_reducible exact ih0 _ _ _ _ _)
   | (with_reducible first | exact LeO.refl _ | exact LeO.none _ | refine LeO.ite ?_ ?_ | refine LeO.bind ?_ (fun _ => ?_))
   | exact ih0 _ _ _ _ _
   | exact LeO.none _ | refine LeO.ite ?_ ?_ | refine LeO.bind ?_ (fun _ => ?_)
theorem impl_parseAccesses.mono : ∀ a0 k, LeO (impl_parseAccesses.f k a0) (impl_parseAccesses.f (k + 1) a0) := by
 intro a0 k
 have ih0 := impl_parseAccesses.mono_l k
 unfold impl_parseAccesses.f
 repeat' first
   | (with_reducible exact ih0 _ _ _ _ _)
   | (with_reducible first | exact LeO.refl _ | exact LeO.none _ | refine LeO.ite ?_ ?_ | refine LeO.bind ?_ (fun _ => ?_))
   | exact ih0 _ _ _ _ _
   | exact LeO.none _ | refine LeO.ite ?_ ?_ | refine LeO.bind ?_ (fun _ => ?_)
theorem impl_parseAccesses.calls (k : Nat) (A0 : Option Addr) (c0 : Nat) (l0 : List ByteArray) (r1 : List (S48)) (r2 : List (S50)) (w : World) (hr0 : Kd.C Kd.string w A0 l0.length l0) (hc0 : l0.length ≤ c0) (hTB : Tryz.TB w) (h : impl_parseAccesses.f k l0 = some (r1, r2)) :
  Calls Tryz.prog 15 #[.slice A0 l0.length c0] w fun e w' => ∃ v0_ v1_ : Value, e = .returned (.tuple #[v0_, v1_]) ∧ Kd.R k48 48 w' w.heap.size (fun _ => True) v0_ r1 ∧ Kd.R k50 50 w' w.heap.size (fun _ => True) v1_ r2 ∧ Below w.heap.size w w' := by
 have hu48 := Tryz.underlying48
 have hu50 := Tryz.underlying50
 have HR0 := AM_ hr0
 have HC0 := AM_ hc0
 clear hr0 hc0
 have HB := AM_ (Below.refl w.heap.size w)
 have H : (impl_parseAccesses.l0 k (([] : List (S48))) (([] : List (S50))) l0 (l0.length : Int) 0) = some (r1, r2) := h
 clear h
 obtain ⟨y286, hy286⟩ : ∃ y_ : List (S48), y_ = (([] : List (S48))) := ⟨_, rfl⟩
 replace H : (impl_parseAccesses.l0 k y286 (([] : List (S50))) l0 (l0.length : Int) 0) = some (r1, r2) := by first | (rw [hy286]; with_reducible exact H) | (have H2_ := (Option.bind_some _ _).symm.trans H; rw [hy286]; with_reducible exact H2_) | (have H2_ := (Option.bind_some _ _).symm.trans H; with_reducible exact H2_) | with_reducible exact H | (rw [hy286]; exact H) | exact H
 have Ny286 := AM_ hy286
 clear hy286
 obtain ⟨y289, hy289⟩ : ∃ y_ : List (S50), y_ = (([] : List (S50))) := ⟨_, rfl⟩
 replace H : (impl_parseAccesses.l0 k y286 y289 l0 (l0.length : Int) 0) = some (r1, r2) := by first | (rw [hy289]; with_reducible exact H) | (have H2_ := (Option.bind_some _ _).symm.trans H; rw [hy289]; with_reducible exact H2_) | (have H2_ := (Option.bind_some _ _).symm.trans H; with_reducible exact H2_) | with_reducible exact H | (rw [hy289]; exact H) | exact H
 have Ny289 := AM_ hy289
 clear hy289
 have H' := AM_ H
 clear H
 go_enter Tryz.func15, Tryz.ntmps15
 go_wp2_with (first | ((with_reducible refine gate_dst (N := 17) rfl ?_); refine Kd.R_lit k48 _ 48 ?hg (N := 17) ?hd (xs := ([] : List (S48))) (inner := []) (ok := fun _ => True) (okp := fun _ => True) ?hr ?hp (fun _ hk => hk) trivial (Below.refl _ _) (Nat.le_refl _) (by simp) ?_; (case hd => rfl); (case hg => rfl); (case hr => first | (go_simp; done) | (go_simp; rfl)); (case hp => exact (Reps.none _ _)); intro v287 w2 ho3 hb hg_ hnew_; clear hg_ hnew_; (first | rw [← Ny286.out] at ho3 | (simp only [Int.reduceToNat] at ho3; rw [← Ny286.out] at ho3)); have HO288 := AM_ (Kd.R_lower ho3 (below_size (BT HB.out))); replace HB := AM_ (below_step (BT HB.out) hb); clear hb ho3) | ((with_reducible refine gate_dst (N := 18) rfl ?_); refine Kd.R_lit k50 _ 50 ?hg (N := 18) ?hd (xs := ([] : List (S50))) (inner := []) (ok := fun _ => True) (okp := fun _ => True) ?hr ?hp (fun _ hk => hk) trivial (Below.refl _ _) (Nat.le_refl _) (by simp) ?_; (case hd => rfl); (case hg => rfl); (case hr => first | (go_simp; done) | (go_simp; rfl)); (case hp => exact (Reps.none _ _)); intro v290 w4 ho5 hb hg_ hnew_; clear hg_ hnew_; (first | rw [← Ny289.out] at ho5 | (simp only [Int.reduceToNat] at ho5; rw [← Ny289.out] at ho5)); replace HO288 := AM_ (Kd.R_below (RT HO288.out) hb); have HO291 := AM_ (Kd.R_lower ho5 (below_size (BT HB.out))); replace HB := AM_ (below_step (BT HB.out) hb); clear hb ho5))
 go_loopg [4, 5, 21] k (fun kq v4 v5 v21 w' => ∃ (x4_1 : List (S48)) (x5_1 : List (S50)) (x21_1 : Int), v21 = .int .i64 x21_1 ∧ Aside0 (impl_parseAccesses.l0 kq x4_1 x5_1 l0 (l0.length : Int) x21_1 = some (r1, r2)) ∧ Aside0 (kq ≤ k) ∧ Aside0 (Kd.R k48 48 w' w.heap.size (fun _ => True) v4 x4_1) ∧ Aside0 (Kd.R k50 50 w' w.heap.size (fun _ => True) v5 x5_1) ∧ Aside0 (Below w.heap.size w w'))
 case atStart => exact ⟨(y286), (y289), (0), (by first | rfl | (simp; done) | (simp [*]; done)), H', ⟨Nat.le_refl _⟩, ⟨RT HO288.out⟩, ⟨RT HO291.out⟩, ⟨BT HB.out⟩⟩
 case round =>
  clear H'
  try clear c1
  try clear p2
  obtain ⟨x4_1, x5_1, x21_1, rfl, HA, HK1, HO_4, HO_5, HB⟩ := hrel
  cases gk with
  | zero => exact absurd HA.out (by simp [impl_parseAccesses.l0])
  | succ k1 =>
   have H := HA.out
   clear HA
   simp only [impl_parseAccesses.l0] at H
   by_cases c6 : x21_1 < (l0.length : Int)
   rotate_left
   ·rw [if_neg c6] at H
    have c6b0 : decide (x21_1 < (l0.length : Int)) = false := decide_eq_false c6
    clear c6
    simp only [Option.some.injEq, Prod.mk.injEq] at H
    obtain ⟨rfl, rfl⟩ := H
    go_wp2
    go_ret2
    exact ⟨_, _, by first | rfl | (simp [errW_none, errW_some] <;> rfl) | (simp [*, errW_none, errW_some] <;> rfl), RT HO_4.out, RT HO_5.out, BT HB.out⟩
   rw [if_pos c6] at H
   have c6b0 : decide (x21_1 < (l0.length : Int)) = true := decide_eq_true c6
   clear c6
   replace H := HI H
   obtain ⟨c7, H⟩ := H
   have c7b0 : decide (0 ≤ x21_1) = true := decide_eq_true c7
   clear c7
   replace H := HI H
   obtain ⟨c8, H⟩ := H
   have c8b0 : decide (x21_1 < (l0.length : Int)) = true := decide_eq_true c8
   clear c8
   by_cases c9 : (rdOf ByteArray.empty l0 x21_1).toList = ([] : List UInt8)
   ·rw [if_pos c9] at H
    have c9b0 : ((rdOf ByteArray.empty l0 x21_1).toList == ([] : List UInt8)) = true := beq_iff_eq.mpr c9
    have c9b1 : ((rdOf ByteArray.empty l0 x21_1).toList != ([] : List UInt8)) = false := bne_eq_false_iff_eq.mpr c9
    clear c9
    have H' := AM_ H
    clear H
    have p292 : 0 ≤ (x21_1 : Int) := DT
    have q292 : x21_1 < (l0.length : Int) := DT
    obtain ⟨ad292, e292, hx292_0⟩ := Kd.at_string HR0.out x21_1 p292 q292
    cases e292
    replace hx292_0 := BC HB.out hx292_0
    replace p292 := eq_true p292
    replace q292 := eq_true q292
    go_wp2
    go_roundg k1
    case measure => have := HK1.out; omega
    case rel => exact ⟨(x4_1), (x5_1), (wrap64 (x21_1 + 1)), (by first | rfl | (simp; done) | (simp [*]; done)), H', ⟨by have := HK1.out; omega⟩, ⟨RT HO_4.out⟩, ⟨RT HO_5.out⟩, ⟨BT HB.out⟩⟩
   rw [if_neg c9] at H
   have c9b0 : ((rdOf ByteArray.empty l0 x21_1).toList == ([] : List UInt8)) = false := beq_eq_false_iff_ne.mpr c9
   have c9b1 : ((rdOf ByteArray.empty l0 x21_1).toList != ([] : List UInt8)) = true := bne_iff_ne.mpr c9
   replace H := HI H
   obtain ⟨c10, H⟩ := H
   have c10b0 := eq_true c10
   have c10b1 : decide (1 ≤ ((rdOf ByteArray.empty l0 x21_1).size : Int)) = true := decide_eq_true c10
   clear c10
   replace H := Option.bind_eq_some_iff.mp H
   obtain ⟨⟨t293, t294, t295⟩, A110, H⟩ := H
   replace H : ((impl_ParseInt.f t293).bind fun bt296 => (if 0 < ((rdOf ByteArray.empty l0 x21_1).size : Int) then (if (bt (rdOf ByteArray.empty l0 x21_1) 0) = 114 then ((impl_ParseInt.f t294).bind fun bt298 => (if x4_1.length < 8796093022208 then (impl_parseAccesses.l0 k1 (x4_1 ++ [(⟨bt296.1, bt298.1⟩ : S48)]) x5_1 l0 (l0.length : Int) (wrap64 (x21_1 + 1))) else (none))) else ((impl_parseValue.f t294).bind fun bt303 => (if x5_1.length < 8796093022208 then (impl_parseAccesses.l0 k1 x4_1 (x5_1 ++ [(⟨bt296.1, bt303.1⟩ : S50)]) l0 (l0.length : Int) (wrap64 (x21_1 + 1))) else (none)))) else (none))) = some (r1, r2) := H
   have A11 := AM_ A110
   clear A110
   replace H := Option.bind_eq_some_iff.mp H
   obtain ⟨⟨t296, t297⟩, A120, H⟩ := H
   replace H : (if 0 < ((rdOf ByteArray.empty l0 x21_1).size : Int) then (if (bt (rdOf ByteArray.empty l0 x21_1) 0) = 114 then ((impl_ParseInt.f t294).bind fun bt298 => (if x4_1.length < 8796093022208 then (impl_parseAccesses.l0 k1 (x4_1 ++ [(⟨t296, bt298.1⟩ : S48)]) x5_1 l0 (l0.length : Int) (wrap64 (x21_1 + 1))) else (none))) else ((impl_parseValue.f t294).bind fun bt303 => (if x5_1.length < 8796093022208 then (impl_parseAccesses.l0 k1 x4_1 (x5_1 ++ [(⟨t296, bt303.1⟩ : S50)]) l0 (l0.length : Int) (wrap64 (x21_1 + 1))) else (none)))) else (none)) = some (r1, r2) := H
   have A12 := AM_ A120
   clear A120
   replace H := HI H
   obtain ⟨c13, H⟩ := H
   have c13b0 : decide (0 < ((rdOf ByteArray.empty l0 x21_1).size : Int)) = true := decide_eq_true c13
   have c13b1 : decide (0 < (rdOf ByteArray.empty l0 x21_1).size) = true := decide_eq_true (by omega)
   clear c13
   by_cases c15 : (bt (rdOf ByteArray.empty l0 x21_1) 0) = 114
   rotate_left
   ·rw [if_neg c15] at H
    have c15b0 : ((bt (rdOf ByteArray.empty l0 x21_1) 0) == 114) = false := beq_eq_false_iff_ne.mpr c15
    have c15b1 : ((bt (rdOf ByteArray.empty l0 x21_1) 0) != 114) = true := bne_iff_ne.mpr c15
    replace H := Option.bind_eq_some_iff.mp H
    obtain ⟨⟨t303, t304⟩, A220, H⟩ := H
    replace H : (if x5_1.length < 8796093022208 then (impl_parseAccesses.l0 k1 x4_1 (x5_1 ++ [(⟨t296, t303⟩ : S50)]) l0 (l0.length : Int) (wrap64 (x21_1 + 1))) else (none)) = some (r1, r2) := H
    have A22 := AM_ A220
    clear A220
    replace H := HI H
    obtain ⟨c23, H⟩ := H
    have LMc23 := AM_ c23
    clear c23
    obtain ⟨y305, hy305⟩ : ∃ y_ : List (S50), y_ = (x5_1 ++ [(⟨t296, t303⟩ : S50)]) := ⟨_, rfl⟩
    replace H : (impl_parseAccesses.l0 k1 x4_1 y305 l0 (l0.length : Int) (wrap64 (x21_1 + 1))) = some (r1, r2) := by first | (rw [hy305]; with_reducible exact H) | (have H2_ := (Option.bind_some _ _).symm.trans H; rw [hy305]; with_reducible exact H2_) | (have H2_ := (Option.bind_some _ _).symm.trans H; with_reducible exact H2_) | with_reducible exact H | (rw [hy305]; exact H) | exact H
    have Ny305 := AM_ hy305
    clear hy305
    have H' := AM_ H
    clear H
    have p292 : 0 ≤ (x21_1 : Int) := DT
    have q292 : x21_1 < (l0.length : Int) := DT
    obtain ⟨ad292, e292, hx292_0⟩ := Kd.at_string HR0.out x21_1 p292 q292
    cases e292
    replace hx292_0 := BC HB.out hx292_0
    replace p292 := eq_true p292
    replace q292 := eq_true q292
    go_wp2_with (first | ((with_reducible refine gate_callee (f := 13) rfl ?_); refine goesL_ (some 30) rfl rfl Tryz.func13 (by kernel_rfl) rfl #[.string ((rdOf ByteArray.empty l0 x21_1).extract 1 (rdOf ByteArray.empty l0 x21_1).size), .string (⟨#[58]⟩ : ByteArray)] rfl (by (try simp only [List.map_toArray, List.map_cons, List.map_nil]); first | done | rfl | (simp only [List.length_drop, List.length_take]; rfl)) ?_; (with_reducible refine (strings_Cut.calls ((rdOf ByteArray.empty l0 x21_1).extract 1 (rdOf ByteArray.empty l0 x21_1).size) (⟨#[58]⟩ : ByteArray) t293 t294 t295 _ ?side1 A11.out).mono ?_); (case side1 => first | (with_reducible exact hTB) | exact Tryz.TB_below hTB (BT HB.out)); rintro e w24 ⟨rfl, hb⟩; refine ⟨_, rfl, ?_⟩; replace HO_4 := AM_ (Kd.R_below (RT HO_4.out) hb); replace HO_5 := AM_ (Kd.R_below (RT HO_5.out) hb); replace HB := AM_ (below_step (BT HB.out) hb); (try clear hb); (try clear hb2); (try clear hk); (try clear hi)) | ((with_reducible refine gate_callee (f := 14) rfl ?_); refine goesL_ (some 36) rfl rfl Tryz.func14 (by kernel_rfl) rfl #[.string t293] rfl (by (try simp only [List.map_toArray, List.map_cons, List.map_nil]); first | done | rfl | (simp only [List.length_drop, List.length_take]; rfl)) ?_; (with_reducible refine (impl_ParseInt.calls t293 t296 t297 _ ?side1 A12.out).mono ?_); (case side1 => first | (with_reducible exact hTB) | exact Tryz.TB_below hTB (BT HB.out)); rintro e w25 ⟨rfl, hb⟩; refine ⟨_, rfl, ?_⟩; replace HO_4 := AM_ (Kd.R_below (RT HO_4.out) hb); replace HO_5 := AM_ (Kd.R_below (RT HO_5.out) hb); replace HB := AM_ (below_step (BT HB.out) hb); (try clear hb); (try clear hb2); (try clear hk); (try clear hi); have p14 : 0 ≤ (0 : Int) := (by omega); have q14 : 0 < (rdOf ByteArray.empty l0 x21_1).size := (by have : (0 : Int) < ((rdOf ByteArray.empty l0 x21_1).size : Int) := DT; omega); have hx14 : ∀ h : 0 < (rdOf ByteArray.empty l0 x21_1).size, (((rdOf ByteArray.empty l0 x21_1)[0]'h).toNat : Int) = bt (rdOf ByteArray.empty l0 x21_1) 0 := bt_at (rdOf ByteArray.empty l0 x21_1) 0; clear p14; have qi14 : (0 < ((rdOf ByteArray.empty l0 x21_1).size : Int)) = True := eq_true (DT); replace q14 := eq_true q14) | ((with_reducible refine gate_callee (f := 32) rfl ?_); refine goesL_ (some 55) rfl rfl Tryz.func32 (by kernel_rfl) rfl #[.string t294] rfl (by (try simp only [List.map_toArray, List.map_cons, List.map_nil]); first | done | rfl | (simp only [List.length_drop, List.length_take]; rfl)) ?_; (with_reducible refine (impl_parseValue.calls t294 t303 t304 _ ?side1 A22.out).mono ?_); (case side1 => first | (with_reducible exact hTB) | exact Tryz.TB_below hTB (BT HB.out)); rintro e w26 ⟨rfl, hb⟩; refine ⟨_, rfl, ?_⟩; replace HO_4 := AM_ (Kd.R_below (RT HO_4.out) hb); replace HO_5 := AM_ (Kd.R_below (RT HO_5.out) hb); replace HB := AM_ (below_step (BT HB.out) hb); (try clear hb); (try clear hb2); (try clear hk); (try clear hi)) | ((with_reducible refine gate_builtin (b := .append) (xs := #[.tmp 58, .tmp 62]) rfl ?_); at_builtin; refine Kd.R_append k50 (w0 := w) w.heap.size rfl (.tmp 58) (.tmp 62) 31 50 (.agg #[(.int .i64 0), (.int .i64 0)]) 16 rfl Tryz.underlying31 info50 rfl (by decide) (by omega) u5 x5_1 (⟨t296, t303⟩ : S50) [.int .i64 t296, .int .i64 t303] (fun _ => True) (fun _ => False) rfl rfl ?aP (fun _ hk => hk.elim) ?aF ?aO ?aB ?aS ?aL ?_; (case aP => exact k50_mkM _ _ _ (⟨t296, t303⟩ : S50)); (case aB => exact (BT HB.out)); (case aF => exact (fun _ _ => trivial)); (case aO => exact (RT HO_5.out)); (case aS => exact (below_size (BT HB.out))); (case aL => have := LMc23.out; omega); intro v306 w27 ho hb hg hat; rw [← Ny305.out] at ho; have n0_ := AM_ (Kd.R_over' (RT HO_4.out) (Kd.R_typed (RT HO_5.out)) (by decide) hg); have n1_ := AM_ (hb); have n2_ := AM_ (ho); clear HO_4; clear HB; clear HO_5; have HO_4 := n0_; have HB := n1_; have HO307 := n2_; clear n0_ n1_ n2_; clear ho hb hg hat))
    go_roundg k1
    case measure => have := HK1.out; omega
    case rel => exact ⟨(x4_1), (y305), (wrap64 (x21_1 + 1)), (by first | rfl | (simp; done) | (simp [*]; done)), H', ⟨by have := HK1.out; omega⟩, ⟨RT HO_4.out⟩, ⟨RT HO307.out⟩, ⟨BT HB.out⟩⟩
   rw [if_pos c15] at H
   have c15b0 : ((bt (rdOf ByteArray.empty l0 x21_1) 0) == 114) = true := beq_iff_eq.mpr c15
   have c15b1 : ((bt (rdOf ByteArray.empty l0 x21_1) 0) != 114) = false := bne_eq_false_iff_eq.mpr c15
   clear c15
   replace H := Option.bind_eq_some_iff.mp H
   obtain ⟨⟨t298, t299⟩, A160, H⟩ := H
   replace H : (if x4_1.length < 8796093022208 then (impl_parseAccesses.l0 k1 (x4_1 ++ [(⟨t296, t298⟩ : S48)]) x5_1 l0 (l0.length : Int) (wrap64 (x21_1 + 1))) else (none)) = some (r1, r2) := H
   have A16 := AM_ A160
   clear A160
   replace H := HI H
   obtain ⟨c17, H⟩ := H
   have LMc17 := AM_ c17
   clear c17
   obtain ⟨y300, hy300⟩ : ∃ y_ : List (S48), y_ = (x4_1 ++ [(⟨t296, t298⟩ : S48)]) := ⟨_, rfl⟩
   replace H : (impl_parseAccesses.l0 k1 y300 x5_1 l0 (l0.length : Int) (wrap64 (x21_1 + 1))) = some (r1, r2) := by first | (rw [hy300]; with_reducible exact H) | (have H2_ := (Option.bind_some _ _).symm.trans H; rw [hy300]; with_reducible exact H2_) | (have H2_ := (Option.bind_some _ _).symm.trans H; with_reducible exact H2_) | with_reducible exact H | (rw [hy300]; exact H) | exact H
   have Ny300 := AM_ hy300
   clear hy300
   have H' := AM_ H
   clear H
   have p292 : 0 ≤ (x21_1 : Int) := DT
   have q292 : x21_1 < (l0.length : Int) := DT
   obtain ⟨ad292, e292, hx292_0⟩ := Kd.at_string HR0.out x21_1 p292 q292
   cases e292
   replace hx292_0 := BC HB.out hx292_0
   replace p292 := eq_true p292
   replace q292 := eq_true q292
   go_wp2_with (first | ((with_reducible refine gate_callee (f := 13) rfl ?_); refine goesL_ (some 30) rfl rfl Tryz.func13 (by kernel_rfl) rfl #[.string ((rdOf ByteArray.empty l0 x21_1).extract 1 (rdOf ByteArray.empty l0 x21_1).size), .string (⟨#[58]⟩ : ByteArray)] rfl (by (try simp only [List.map_toArray, List.map_cons, List.map_nil]); first | done | rfl | (simp only [List.length_drop, List.length_take]; rfl)) ?_; (with_reducible refine (strings_Cut.calls ((rdOf ByteArray.empty l0 x21_1).extract 1 (rdOf ByteArray.empty l0 x21_1).size) (⟨#[58]⟩ : ByteArray) t293 t294 t295 _ ?side1 A11.out).mono ?_); (case side1 => first | (with_reducible exact hTB) | exact Tryz.TB_below hTB (BT HB.out)); rintro e w18 ⟨rfl, hb⟩; refine ⟨_, rfl, ?_⟩; replace HO_4 := AM_ (Kd.R_below (RT HO_4.out) hb); replace HO_5 := AM_ (Kd.R_below (RT HO_5.out) hb); replace HB := AM_ (below_step (BT HB.out) hb); (try clear hb); (try clear hb2); (try clear hk); (try clear hi)) | ((with_reducible refine gate_callee (f := 14) rfl ?_); refine goesL_ (some 36) rfl rfl Tryz.func14 (by kernel_rfl) rfl #[.string t293] rfl (by (try simp only [List.map_toArray, List.map_cons, List.map_nil]); first | done | rfl | (simp only [List.length_drop, List.length_take]; rfl)) ?_; (with_reducible refine (impl_ParseInt.calls t293 t296 t297 _ ?side1 A12.out).mono ?_); (case side1 => first | (with_reducible exact hTB) | exact Tryz.TB_below hTB (BT HB.out)); rintro e w19 ⟨rfl, hb⟩; refine ⟨_, rfl, ?_⟩; replace HO_4 := AM_ (Kd.R_below (RT HO_4.out) hb); replace HO_5 := AM_ (Kd.R_below (RT HO_5.out) hb); replace HB := AM_ (below_step (BT HB.out) hb); (try clear hb); (try clear hb2); (try clear hk); (try clear hi); have p14 : 0 ≤ (0 : Int) := (by omega); have q14 : 0 < (rdOf ByteArray.empty l0 x21_1).size := (by have : (0 : Int) < ((rdOf ByteArray.empty l0 x21_1).size : Int) := DT; omega); have hx14 : ∀ h : 0 < (rdOf ByteArray.empty l0 x21_1).size, (((rdOf ByteArray.empty l0 x21_1)[0]'h).toNat : Int) = bt (rdOf ByteArray.empty l0 x21_1) 0 := bt_at (rdOf ByteArray.empty l0 x21_1) 0; clear p14; have qi14 : (0 < ((rdOf ByteArray.empty l0 x21_1).size : Int)) = True := eq_true (DT); replace q14 := eq_true q14) | ((with_reducible refine gate_callee (f := 14) rfl ?_); refine goesL_ (some 44) rfl rfl Tryz.func14 (by kernel_rfl) rfl #[.string t294] rfl (by (try simp only [List.map_toArray, List.map_cons, List.map_nil]); first | done | rfl | (simp only [List.length_drop, List.length_take]; rfl)) ?_; (with_reducible refine (impl_ParseInt.calls t294 t298 t299 _ ?side1 A16.out).mono ?_); (case side1 => first | (with_reducible exact hTB) | exact Tryz.TB_below hTB (BT HB.out)); rintro e w20 ⟨rfl, hb⟩; refine ⟨_, rfl, ?_⟩; replace HO_4 := AM_ (Kd.R_below (RT HO_4.out) hb); replace HO_5 := AM_ (Kd.R_below (RT HO_5.out) hb); replace HB := AM_ (below_step (BT HB.out) hb); (try clear hb); (try clear hb2); (try clear hk); (try clear hi)) | ((with_reducible refine gate_builtin (b := .append) (xs := #[.tmp 47, .tmp 51]) rfl ?_); at_builtin; refine Kd.R_append k48 (w0 := w) w.heap.size rfl (.tmp 47) (.tmp 51) 30 48 (.agg #[(.int .i64 0), (.int .i64 0)]) 16 rfl Tryz.underlying30 info48 rfl (by decide) (by omega) u4 x4_1 (⟨t296, t298⟩ : S48) [.int .i64 t296, .int .i64 t298] (fun _ => True) (fun _ => False) rfl rfl ?aP (fun _ hk => hk.elim) ?aF ?aO ?aB ?aS ?aL ?_; (case aP => exact k48_mkM _ _ _ (⟨t296, t298⟩ : S48)); (case aB => exact (BT HB.out)); (case aF => exact (fun _ _ => trivial)); (case aO => exact (RT HO_4.out)); (case aS => exact (below_size (BT HB.out))); (case aL => have := LMc17.out; omega); intro v301 w21 ho hb hg hat; rw [← Ny300.out] at ho; have n0_ := AM_ (Kd.R_over' (RT HO_5.out) (Kd.R_typed (RT HO_4.out)) (by decide) hg); have n1_ := AM_ (hb); have n2_ := AM_ (ho); clear HO_5; clear HB; clear HO_4; have HO_5 := n0_; have HB := n1_; have HO302 := n2_; clear n0_ n1_ n2_; clear ho hb hg hat))
   go_roundg k1
   case measure => have := HK1.out; omega
   case rel => exact ⟨(y300), (x5_1), (wrap64 (x21_1 + 1)), (by first | rfl | (simp; done) | (simp [*]; done)), H', ⟨by have := HK1.out; omega⟩, ⟨RT HO302.out⟩, ⟨RT HO_5.out⟩, ⟨BT HB.out⟩⟩

/-! ### impl_isID: function 74 -/
def impl_isID.f (a0 : Int) : Option (Bool) := (impl_in.f a0 1 9).bind fun t308 => (some t308)
theorem impl_isID.calls (a0 : Int) (r : Bool) (w : World) (h : impl_isID.f a0 = some r) :
  Calls Tryz.prog 74 #[.int .i64 a0] w fun e w' => e = .returned (.bool r) ∧ Drawn0 w w' := by
 have H : ((impl_in.f a0 1 9).bind fun t308 => (some t308)) = some r := h
 clear h
 replace H := Option.bind_eq_some_iff.mp H
 obtain ⟨t308, A20, H⟩ := H
 replace H : (some t308) = some r := H
 have A2 := AM_ A20
 clear A20
 obtain rfl := Option.some.inj H
 go_enter Tryz.func74, Tryz.ntmps74
 go_wp2_with (first | ((with_reducible refine gate_callee (f := 30) rfl ?_); refine goesL_ (some 4) rfl rfl Tryz.func30 (by kernel_rfl) rfl #[.int .i64 a0, .int .i64 1, .int .i64 9] rfl (by (try simp only [List.map_toArray, List.map_cons, List.map_nil]); first | done | rfl | (simp only [List.length_drop, List.length_take]; rfl)) ?_; (with_reducible refine (impl_in.calls a0 1 9 t308 _ A2.out).mono ?_); rintro e w' ⟨rfl, ⟨nd, rfl⟩⟩; refine ⟨_, rfl, ?_⟩))
 go_ret
 exact ⟨by first | rfl | (simp; done) | (simp [*]; done), by repeat (first | exact Drawn0.refl _ | apply Drawn0.step)⟩

/-! ### impl_IsStamp: function 75 -/
def impl_IsStamp.f (a0 : Int) : Option (Bool) := (impl_in.f a0 1 999).bind fun t309 => (some t309)
theorem impl_IsStamp.calls (a0 : Int) (r : Bool) (w : World) (h : impl_IsStamp.f a0 = some r) :
  Calls Tryz.prog 75 #[.int .i64 a0] w fun e w' => e = .returned (.bool r) ∧ Drawn0 w w' := by
 have H : ((impl_in.f a0 1 999).bind fun t309 => (some t309)) = some r := h
 clear h
 replace H := Option.bind_eq_some_iff.mp H
 obtain ⟨t309, A20, H⟩ := H
 replace H : (some t309) = some r := H
 have A2 := AM_ A20
 clear A20
 obtain rfl := Option.some.inj H
 go_enter Tryz.func75, Tryz.ntmps75
 go_wp2_with (first | ((with_reducible refine gate_callee (f := 30) rfl ?_); refine goesL_ (some 4) rfl rfl Tryz.func30 (by kernel_rfl) rfl #[.int .i64 a0, .int .i64 1, .int .i64 999] rfl (by (try simp only [List.map_toArray, List.map_cons, List.map_nil]); first | done | rfl | (simp only [List.length_drop, List.length_take]; rfl)) ?_; (with_reducible refine (impl_in.calls a0 1 999 t309 _ A2.out).mono ?_); rintro e w' ⟨rfl, ⟨nd, rfl⟩⟩; refine ⟨_, rfl, ?_⟩))
 go_ret
 exact ⟨by first | rfl | (simp; done) | (simp [*]; done), by repeat (first | exact Drawn0.refl _ | apply Drawn0.step)⟩

/-! ### impl_isKey: function 93 -/
def impl_isKey.f (a0 : Int) : Option (Bool) := (impl_in.f a0 0 5).bind fun t310 => (some t310)
theorem impl_isKey.calls (a0 : Int) (r : Bool) (w : World) (h : impl_isKey.f a0 = some r) :
  Calls Tryz.prog 93 #[.int .i64 a0] w fun e w' => e = .returned (.bool r) ∧ Drawn0 w w' := by
 have H : ((impl_in.f a0 0 5).bind fun t310 => (some t310)) = some r := h
 clear h
 replace H := Option.bind_eq_some_iff.mp H
 obtain ⟨t310, A20, H⟩ := H
 replace H : (some t310) = some r := H
 have A2 := AM_ A20
 clear A20
 obtain rfl := Option.some.inj H
 go_enter Tryz.func93, Tryz.ntmps93
 go_wp2_with (first | ((with_reducible refine gate_callee (f := 30) rfl ?_); refine goesL_ (some 4) rfl rfl Tryz.func30 (by kernel_rfl) rfl #[.int .i64 a0, .int .i64 0, .int .i64 5] rfl (by (try simp only [List.map_toArray, List.map_cons, List.map_nil]); first | done | rfl | (simp only [List.length_drop, List.length_take]; rfl)) ?_; (with_reducible refine (impl_in.calls a0 0 5 t310 _ A2.out).mono ?_); rintro e w' ⟨rfl, ⟨nd, rfl⟩⟩; refine ⟨_, rfl, ?_⟩))
 go_ret
 exact ⟨by first | rfl | (simp; done) | (simp [*]; done), by repeat (first | exact Drawn0.refl _ | apply Drawn0.step)⟩

end Go.Proofs.YtdfbmaiboadodaaGreatDoor.PFnExactParseHistory
