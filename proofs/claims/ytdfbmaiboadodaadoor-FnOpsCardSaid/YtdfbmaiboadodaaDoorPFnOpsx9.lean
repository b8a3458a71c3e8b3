-- Printed by a program of mine (wip/myprint.py), which runs the printer of the kit with contracts of mine beside it.
import Derived.Test.YtdfbmaiboadodaaDoorPFnOpsx0
import Derived.Test.YtdfbmaiboadodaaDoorPFnOpsx7
import Derived.Test.YtdfbmaiboadodaaDoorPFnOpsx8
namespace Go.Proofs.YtdfbmaiboadodaaDoor.PFnOps
open Go.RowKit Go.Proofs.YtdfbmaiboadodaaDoorW.PrintWords Go.Proofs.YtdfbmaiboadodaaDoorW.PrintLast Go.Proofs.YtdfbmaiboadodaaDoorW.PrintMore
attribute [local go_sem] max2_int min2_int max_two min_two max_three min_three max_four min_four   -- for this text's walks alone
set_option linter.unusedVariables false
set_option linter.unusedSimpArgs false

/-! ### spec_FormatInt: function 25 -/
def spec_FormatInt.l0 : Nat → Int → ByteArray → Bool → Option (ByteArray)
 | 0, _, _, _ => none
 | k + 1, x0, x3, x4 => if x0 = 0 then (if x4 = true then (if 1 + x3.size ≤ 9223372036854775807 then (some ((⟨#[45]⟩ : ByteArray) ++ x3)) else (none)) else (some x3)) else (if (Int.tmod x0 10) < 0 then ((some (([(wrap64 (48 + (wrap64 (-(Int.tmod x0 10))))) % 256] : List Int) : List Int)).bind fun y291 => (if (strOfNums y291).size + x3.size ≤ 9223372036854775807 then (spec_FormatInt.l0 k (wrap64 (Int.tdiv x0 10)) ((strOfNums y291) ++ x3) x4) else (none))) else ((some (([(wrap64 (48 + (Int.tmod x0 10))) % 256] : List Int) : List Int)).bind fun y294 => (if (strOfNums y294).size + x3.size ≤ 9223372036854775807 then (spec_FormatInt.l0 k (wrap64 (Int.tdiv x0 10)) ((strOfNums y294) ++ x3) x4) else (none))))
def spec_FormatInt.f (k : Nat) (a0 : Int) : Option (ByteArray) := if a0 = 0 then (some (⟨#[48]⟩ : ByteArray)) else (spec_FormatInt.l0 k a0 (⟨#[]⟩ : ByteArray) (decide (a0 < 0)))
theorem spec_FormatInt.mono_l : ∀ k, (∀ y0 y1 y2, LeO (spec_FormatInt.l0 k y0 y1 y2) (spec_FormatInt.l0 (k + 1) y0 y1 y2))
 | 0 => fun _ _ _ r h => by simp [spec_FormatInt.l0] at h
 | k + 1 => by
  have ih0 := spec_FormatInt.mono_l k
  ·intro y0 y1 y2
   unfold spec_FormatInt.l0
   repeat' first
   | (with_reducible exact ih0 _ _ _)
   | (with_reducible exact LeO.refl _)
   | (with_reducible exact LeO.none _)
   | (with_reducible refine LeO.ite ?_ ?_)
   | (with_reducible refine LeO.bind ?_ (fun _ => ?_))
   | exact ih0 _ _ _
   | exact LeO.none _
   | refine LeO.ite ?_ ?_
   | refine LeO.bind ?_ (fun _ => ?_)
theorem spec_FormatInt.mono : ∀ a0 k, LeO (spec_FormatInt.f k a0) (spec_FormatInt.f (k + 1) a0) := by
 intro a0 k
 have ih0 := spec_FormatInt.mono_l k
 unfold spec_FormatInt.f
 repeat' first
   | (with_reducible exact ih0 _ _ _)
   | (with_reducible exact LeO.refl _)
   | (with_reducible exact LeO.none _)
   | (with_reducible refine LeO.ite ?_ ?_)
   | (with_reducible refine LeO.bind ?_ (fun _ => ?_))
   | exact ih0 _ _ _
   | exact LeO.none _
   | refine LeO.ite ?_ ?_
   | refine LeO.bind ?_ (fun _ => ?_)
set_option maxHeartbeats 8000000 in
set_option maxRecDepth 100000 in
theorem spec_FormatInt.calls (k : Nat) (a0 : Int) (r : ByteArray) (w : World) (h : spec_FormatInt.f k a0 = some r) :
  Calls Tryd.prog 25 #[.int .i64 a0] w fun e w' => e = .returned (.string r) ∧ Below w.heap.size w w' := by
 have HB := AM_ (Below.refl w.heap.size w)
 have H : (if a0 = 0 then (some (⟨#[48]⟩ : ByteArray)) else (spec_FormatInt.l0 k a0 (⟨#[]⟩ : ByteArray) (decide (a0 < 0)))) = some r := h
 clear h
 by_cases c2 : a0 = 0
 ·rw [if_pos c2] at H
  have c2b0 : (a0 == 0) = true := beq_iff_eq.mpr c2
  have c2b1 : (a0 != 0) = false := bne_eq_false_iff_eq.mpr c2
  clear c2
  obtain rfl := Option.some.inj H
  go_enter Tryd.func25, Tryd.ntmps25
  go_wp2
  go_ret
  exact QT (BT HB.out)
 rw [if_neg c2] at H
 have c2b0 : (a0 == 0) = false := beq_eq_false_iff_ne.mpr c2
 have c2b1 : (a0 != 0) = true := bne_iff_ne.mpr c2
 have H' := AM_ H
 clear H
 go_enter Tryd.func25, Tryd.ntmps25
 go_wp2
 go_loopg [0, 3] k (fun kq v0 v3 w' => ∃ (x0_1 : Int) (x3_1 : ByteArray), v0 = .int .i64 x0_1 ∧ v3 = .string x3_1 ∧ Aside0 (spec_FormatInt.l0 kq x0_1 x3_1 (decide (a0 < 0)) = some r) ∧ Aside0 (kq ≤ k) ∧ Aside0 (Below w.heap.size w w'))
 case atStart => exact ⟨(a0), ((⟨#[]⟩ : ByteArray)), (by first | rfl | (simp; done) | (simp [*]; done)), (by first | rfl | (simp; done) | (simp [*]; done)), H', ⟨Nat.le_refl _⟩, ⟨BT HB.out⟩⟩
 case round =>
  clear H'
  try clear c2
  try clear c2b0
  try clear c2b1
  try clear p2
  obtain ⟨x0_1, x3_1, rfl, rfl, HA, HK1, HB⟩ := hrel
  cases gk with
  | zero => exact absurd HA.out (by simp [spec_FormatInt.l0])
  | succ k1 =>
   have H := HA.out
   clear HA
   simp only [spec_FormatInt.l0] at H
   by_cases c3 : x0_1 = 0
   ·rw [if_pos c3] at H
    have c3b0 : (x0_1 == 0) = true := beq_iff_eq.mpr c3
    have c3b1 : (x0_1 != 0) = false := bne_eq_false_iff_eq.mpr c3
    clear c3
    by_cases c4 : (decide (a0 < 0)) = true
    rotate_left
    ·rw [if_neg c4] at H
     have c4b0 : (decide (a0 < 0)) = false := by simpa using c4
     have c4p : ¬ (a0 < 0) := of_decide_eq_false c4b0
     clear c4
     obtain rfl := Option.some.inj H
     go_wp2
     go_ret
     exact QT (BT HB.out)
    rw [if_pos c4] at H
    have c4b0 : (decide (a0 < 0)) = true := c4
    have c4p : (a0 < 0) := of_decide_eq_true c4b0
    clear c4
    by_cases c5 : 1 + x3_1.size ≤ 9223372036854775807
    rotate_left
    ·rw [if_neg c5] at H
     exact absurd H (by simp)
    rw [if_pos c5] at H
    have c5b0 := eq_true c5
    have c5b1 : decide (1 + x3_1.size ≤ 9223372036854775807) = true := decide_eq_true c5
    try have c5b2 : (9223372036854775807 < 1 + x3_1.size) = False := eq_false (Nat.not_lt.2 c5)
    obtain rfl := Option.some.inj H
    go_wp2
    go_ret
    exact QT (BT HB.out)
   rw [if_neg c3] at H
   have c3b0 : (x0_1 == 0) = false := beq_eq_false_iff_ne.mpr c3
   have c3b1 : (x0_1 != 0) = true := bne_iff_ne.mpr c3
   by_cases c6 : (Int.tmod x0_1 10) < 0
   rotate_left
   ·rw [if_neg c6] at H
    have c6b0 : decide ((Int.tmod x0_1 10) < 0) = false := decide_eq_false c6
    clear c6
    obtain ⟨y294, hy294⟩ : ∃ y_ : List Int, y_ = (([(wrap64 (48 + (Int.tmod x0_1 10))) % 256] : List Int)) := ⟨_, rfl⟩
    replace H : (if (strOfNums y294).size + x3_1.size ≤ 9223372036854775807 then (spec_FormatInt.l0 k1 (wrap64 (Int.tdiv x0_1 10)) ((strOfNums y294) ++ x3_1) (decide (a0 < 0))) else (none)) = some r := by first | (rw [hy294]; with_reducible exact H) | (have H2_ := (Option.bind_some _ _).symm.trans H; rw [hy294]; with_reducible exact H2_) | (have H2_ := (Option.bind_some _ _).symm.trans H; with_reducible exact H2_) | with_reducible exact H | (rw [hy294]; exact H) | exact H
    have Ny294 := AM_ hy294
    clear hy294
    by_cases c11 : (strOfNums y294).size + x3_1.size ≤ 9223372036854775807
    rotate_left
    ·rw [if_neg c11] at H
     exact absurd H (by simp)
    rw [if_pos c11] at H
    have c11b0 := eq_true c11
    have c11b1 : decide ((strOfNums y294).size + x3_1.size ≤ 9223372036854775807) = true := decide_eq_true c11
    try have c11b2 : (9223372036854775807 < (strOfNums y294).size + x3_1.size) = False := eq_false (Nat.not_lt.2 c11)
    have H' := AM_ H
    clear H
    go_wp2_with (first | ((with_reducible refine gate_dst (N := 21) rfl ?_); refine Kd.R_lit (Kd.int .u8) _ 5 ?hg (N := 21) ?hd (xs := ([(wrap64 (48 + (Int.tmod x0_1 10))) % 256] : List Int)) (inner := [.int .u8 ((wrap64 (48 + (Int.tmod x0_1 10))) % 256)]) (ok := fun _ => True) (okp := fun _ => True) ?hr ?hp (fun _ hk => hk) trivial (Below.refl _ _) (Nat.le_refl _) (by simp) ?_; (case hd => rfl); (case hg => rfl); (case hr => first | (go_simp; done) | (go_simp; rfl)); (case hp => exact (Reps.one (show Kd.M (Kd.int .u8) _ _ _ ((wrap64 (48 + (Int.tmod x0_1 10))) % 256) [.int .u8 ((wrap64 (48 + (Int.tmod x0_1 10))) % 256)] from rfl) (Reps.none _ _))); intro v295 w12 ho13 hb hg_ hnew_; clear hg_ hnew_; (first | rw [← Ny294.out] at ho13 | (simp only [Int.reduceToNat] at ho13; rw [← Ny294.out] at ho13)); have HO296 := AM_ (Kd.R_lower ho13 (below_size (BT HB.out))); replace HB := AM_ (below_step (BT HB.out) hb); clear hb ho13; have hcv14 := own_string (P := Tryd.prog) Tryd.underlying22 Tryd.underlying5 Tryd.underlying9 (Kd.own_of_R HO296.out)))
    go_roundg k1
    case measure => have := HK1.out; omega
    case rel => exact ⟨(wrap64 (Int.tdiv x0_1 10)), ((strOfNums y294) ++ x3_1), (by first | rfl | (simp; done) | (simp [*]; done)), (by first | rfl | (simp; done) | (simp [*]; done)), H', ⟨by have := HK1.out; omega⟩, ⟨BT HB.out⟩⟩
   rw [if_pos c6] at H
   have c6b0 : decide ((Int.tmod x0_1 10) < 0) = true := decide_eq_true c6
   clear c6
   obtain ⟨y291, hy291⟩ : ∃ y_ : List Int, y_ = (([(wrap64 (48 + (wrap64 (-(Int.tmod x0_1 10))))) % 256] : List Int)) := ⟨_, rfl⟩
   replace H : (if (strOfNums y291).size + x3_1.size ≤ 9223372036854775807 then (spec_FormatInt.l0 k1 (wrap64 (Int.tdiv x0_1 10)) ((strOfNums y291) ++ x3_1) (decide (a0 < 0))) else (none)) = some r := by first | (rw [hy291]; with_reducible exact H) | (have H2_ := (Option.bind_some _ _).symm.trans H; rw [hy291]; with_reducible exact H2_) | (have H2_ := (Option.bind_some _ _).symm.trans H; with_reducible exact H2_) | with_reducible exact H | (rw [hy291]; exact H) | exact H
   have Ny291 := AM_ hy291
   clear hy291
   by_cases c7 : (strOfNums y291).size + x3_1.size ≤ 9223372036854775807
   rotate_left
   ·rw [if_neg c7] at H
    exact absurd H (by simp)
   rw [if_pos c7] at H
   have c7b0 := eq_true c7
   have c7b1 : decide ((strOfNums y291).size + x3_1.size ≤ 9223372036854775807) = true := decide_eq_true c7
   try have c7b2 : (9223372036854775807 < (strOfNums y291).size + x3_1.size) = False := eq_false (Nat.not_lt.2 c7)
   have H' := AM_ H
   clear H
   go_wp2_with (first | ((with_reducible refine gate_dst (N := 21) rfl ?_); refine Kd.R_lit (Kd.int .u8) _ 5 ?hg (N := 21) ?hd (xs := ([(wrap64 (48 + (wrap64 (-(Int.tmod x0_1 10))))) % 256] : List Int)) (inner := [.int .u8 ((wrap64 (48 + (wrap64 (-(Int.tmod x0_1 10))))) % 256)]) (ok := fun _ => True) (okp := fun _ => True) ?hr ?hp (fun _ hk => hk) trivial (Below.refl _ _) (Nat.le_refl _) (by simp) ?_; (case hd => rfl); (case hg => rfl); (case hr => first | (go_simp; done) | (go_simp; rfl)); (case hp => exact (Reps.one (show Kd.M (Kd.int .u8) _ _ _ ((wrap64 (48 + (wrap64 (-(Int.tmod x0_1 10))))) % 256) [.int .u8 ((wrap64 (48 + (wrap64 (-(Int.tmod x0_1 10))))) % 256)] from rfl) (Reps.none _ _))); intro v292 w8 ho9 hb hg_ hnew_; clear hg_ hnew_; (first | rw [← Ny291.out] at ho9 | (simp only [Int.reduceToNat] at ho9; rw [← Ny291.out] at ho9)); have HO293 := AM_ (Kd.R_lower ho9 (below_size (BT HB.out))); replace HB := AM_ (below_step (BT HB.out) hb); clear hb ho9; have hcv10 := own_string (P := Tryd.prog) Tryd.underlying22 Tryd.underlying5 Tryd.underlying9 (Kd.own_of_R HO293.out)))
   go_roundg k1
   case measure => have := HK1.out; omega
   case rel => exact ⟨(wrap64 (Int.tdiv x0_1 10)), ((strOfNums y291) ++ x3_1), (by first | rfl | (simp; done) | (simp [*]; done)), (by first | rfl | (simp; done) | (simp [*]; done)), H', ⟨by have := HK1.out; omega⟩, ⟨BT HB.out⟩⟩

/-! ### spec_SchemeName: function 26 -/
def spec_SchemeName.f (a0 : Int) : Option (ByteArray) := (spec_l1In.f a0 1 4).bind fun t297 => (if t297 = true then ((some (([(⟨#[99, 111, 109, 109, 105, 116, 116, 101, 100]⟩ : ByteArray), (⟨#[115, 110, 97, 112, 115, 104, 111, 116]⟩ : ByteArray), (⟨#[111, 112, 116, 105, 109, 105, 115, 116, 105, 99]⟩ : ByteArray), (⟨#[111, 114, 100, 101, 114, 101, 100]⟩ : ByteArray)] : List ByteArray) : List ByteArray)).bind fun y298 => (if 0 ≤ (wrap64 (a0 - 1)) then (if (wrap64 (a0 - 1)) < (y298.length : Int) then (some (rdOf ByteArray.empty y298 (wrap64 (a0 - 1)))) else (none)) else (none))) else (some (⟨#[]⟩ : ByteArray)))
set_option maxHeartbeats 8000000 in
set_option maxRecDepth 100000 in
theorem spec_SchemeName.calls (a0 : Int) (r : ByteArray) (w : World) (h : spec_SchemeName.f a0 = some r) :
  Calls Tryd.prog 26 #[.int .i64 a0] w fun e w' => e = .returned (.string r) ∧ Below w.heap.size w w' := by
 have HB := AM_ (Below.refl w.heap.size w)
 have H : ((spec_l1In.f a0 1 4).bind fun t297 => (if t297 = true then ((some (([(⟨#[99, 111, 109, 109, 105, 116, 116, 101, 100]⟩ : ByteArray), (⟨#[115, 110, 97, 112, 115, 104, 111, 116]⟩ : ByteArray), (⟨#[111, 112, 116, 105, 109, 105, 115, 116, 105, 99]⟩ : ByteArray), (⟨#[111, 114, 100, 101, 114, 101, 100]⟩ : ByteArray)] : List ByteArray) : List ByteArray)).bind fun y298 => (if 0 ≤ (wrap64 (a0 - 1)) then (if (wrap64 (a0 - 1)) < (y298.length : Int) then (some (rdOf ByteArray.empty y298 (wrap64 (a0 - 1)))) else (none)) else (none))) else (some (⟨#[]⟩ : ByteArray)))) = some r := h
 clear h
 replace H := Option.bind_eq_some_iff.mp H
 obtain ⟨t297, A20, H⟩ := H
 replace H : (if t297 = true then ((some (([(⟨#[99, 111, 109, 109, 105, 116, 116, 101, 100]⟩ : ByteArray), (⟨#[115, 110, 97, 112, 115, 104, 111, 116]⟩ : ByteArray), (⟨#[111, 112, 116, 105, 109, 105, 115, 116, 105, 99]⟩ : ByteArray), (⟨#[111, 114, 100, 101, 114, 101, 100]⟩ : ByteArray)] : List ByteArray) : List ByteArray)).bind fun y298 => (if 0 ≤ (wrap64 (a0 - 1)) then (if (wrap64 (a0 - 1)) < (y298.length : Int) then (some (rdOf ByteArray.empty y298 (wrap64 (a0 - 1)))) else (none)) else (none))) else (some (⟨#[]⟩ : ByteArray))) = some r := H
 have A2 := AM_ A20
 clear A20
 by_cases c3 : t297 = true
 rotate_left
 ·replace c3 := Bool.eq_false_iff.mpr c3
  subst c3
  have H1 : (some (⟨#[]⟩ : ByteArray)) = some r := by rw [if_neg (show ¬ (false = true) by decide)] at H; exact H
  clear H
  have H := H1
  clear H1
  obtain rfl := Option.some.inj H
  go_enter Tryd.func26, Tryd.ntmps26
  go_wp2_with (first | ((with_reducible refine gate_callee (f := 28) rfl ?_); refine goesL_ (some 4) rfl rfl Tryd.func28 (by kernel_rfl) rfl #[.int .i64 a0, .int .i64 1, .int .i64 4] rfl (by (try simp only [List.map_toArray, List.map_cons, List.map_nil]); first | done | rfl | (simp only [List.length_drop, List.length_take]; rfl)) ?_; (with_reducible refine (spec_l1In.calls a0 1 4 false _ A2.out).mono ?_); rintro e w' ⟨rfl, ⟨nd, rfl⟩⟩; refine ⟨_, rfl, ?_⟩))
  go_ret
  exact QT (BT HB.out)
 subst c3
 have H1 : ((some (([(⟨#[99, 111, 109, 109, 105, 116, 116, 101, 100]⟩ : ByteArray), (⟨#[115, 110, 97, 112, 115, 104, 111, 116]⟩ : ByteArray), (⟨#[111, 112, 116, 105, 109, 105, 115, 116, 105, 99]⟩ : ByteArray), (⟨#[111, 114, 100, 101, 114, 101, 100]⟩ : ByteArray)] : List ByteArray) : List ByteArray)).bind fun y298 => (if 0 ≤ (wrap64 (a0 - 1)) then (if (wrap64 (a0 - 1)) < (y298.length : Int) then (some (rdOf ByteArray.empty y298 (wrap64 (a0 - 1)))) else (none)) else (none))) = some r := by rw [if_pos rfl] at H; exact H
 clear H
 have H := H1
 clear H1
 obtain ⟨y298, hy298⟩ : ∃ y_ : List ByteArray, y_ = (([(⟨#[99, 111, 109, 109, 105, 116, 116, 101, 100]⟩ : ByteArray), (⟨#[115, 110, 97, 112, 115, 104, 111, 116]⟩ : ByteArray), (⟨#[111, 112, 116, 105, 109, 105, 115, 116, 105, 99]⟩ : ByteArray), (⟨#[111, 114, 100, 101, 114, 101, 100]⟩ : ByteArray)] : List ByteArray)) := ⟨_, rfl⟩
 replace H : (if 0 ≤ (wrap64 (a0 - 1)) then (if (wrap64 (a0 - 1)) < (y298.length : Int) then (some (rdOf ByteArray.empty y298 (wrap64 (a0 - 1)))) else (none)) else (none)) = some r := by first | (rw [hy298]; with_reducible exact H) | (have H2_ := (Option.bind_some _ _).symm.trans H; rw [hy298]; with_reducible exact H2_) | (have H2_ := (Option.bind_some _ _).symm.trans H; with_reducible exact H2_) | with_reducible exact H | (rw [hy298]; exact H) | exact H
 have Ny298 := AM_ hy298
 clear hy298
 obtain ⟨ji4, hji4⟩ : ∃ j_ : Int, (wrap64 (a0 - 1)) = j_ := ⟨_, rfl⟩
 replace H : (if 0 ≤ (ji4) then (if (ji4) < (y298.length : Int) then (some (rdOf ByteArray.empty y298 (ji4))) else (none)) else (none)) = some r := by first | (rw [hji4] at H; exact H) | (simp only [hji4] at H ⊢; exact H)
 (try rw [hji4] at A2)
 have hji4w : (IntKind.i64.wrap (a0 - 1)) = ji4 := (i64_w _).trans hji4
 by_cases c5 : 0 ≤ (ji4)
 rotate_left
 ·rw [if_neg c5] at H
  exact absurd H (by simp)
 rw [if_pos c5] at H
 have c5b0 : decide (0 ≤ (ji4)) = true := decide_eq_true c5
 clear c5
 by_cases c6 : (ji4) < (y298.length : Int)
 rotate_left
 ·rw [if_neg c6] at H
  exact absurd H (by simp)
 rw [if_pos c6] at H
 have c6b0 : decide ((ji4) < (y298.length : Int)) = true := decide_eq_true c6
 clear c6
 obtain rfl := Option.some.inj H
 go_enter Tryd.func26, Tryd.ntmps26
 go_wp2_with (first | ((with_reducible refine gate_callee (f := 28) rfl ?_); refine goesL_ (some 4) rfl rfl Tryd.func28 (by kernel_rfl) rfl #[.int .i64 a0, .int .i64 1, .int .i64 4] rfl (by (try simp only [List.map_toArray, List.map_cons, List.map_nil]); first | done | rfl | (simp only [List.length_drop, List.length_take]; rfl)) ?_; (with_reducible refine (spec_l1In.calls a0 1 4 true _ A2.out).mono ?_); rintro e w' ⟨rfl, ⟨nd, rfl⟩⟩; refine ⟨_, rfl, ?_⟩) | ((with_reducible refine gate_dst (N := 6) rfl ?_); refine Kd.R_lit Kd.string _ 9 ?hg (N := 6) ?hd (xs := ([(⟨#[99, 111, 109, 109, 105, 116, 116, 101, 100]⟩ : ByteArray), (⟨#[115, 110, 97, 112, 115, 104, 111, 116]⟩ : ByteArray), (⟨#[111, 112, 116, 105, 109, 105, 115, 116, 105, 99]⟩ : ByteArray), (⟨#[111, 114, 100, 101, 114, 101, 100]⟩ : ByteArray)] : List ByteArray)) (inner := [.string (⟨#[99, 111, 109, 109, 105, 116, 116, 101, 100]⟩ : ByteArray), .string (⟨#[115, 110, 97, 112, 115, 104, 111, 116]⟩ : ByteArray), .string (⟨#[111, 112, 116, 105, 109, 105, 115, 116, 105, 99]⟩ : ByteArray), .string (⟨#[111, 114, 100, 101, 114, 101, 100]⟩ : ByteArray)]) (ok := fun _ => True) (okp := fun _ => True) ?hr ?hp (fun _ hk => hk) trivial (Below.refl _ _) (Nat.le_refl _) (by simp) ?_; (case hd => rfl); (case hg => rfl); (case hr => first | (go_simp; done) | (go_simp; rfl)); (case hp => exact (Reps.one (show Kd.M Kd.string _ _ _ (⟨#[99, 111, 109, 109, 105, 116, 116, 101, 100]⟩ : ByteArray) [.string (⟨#[99, 111, 109, 109, 105, 116, 116, 101, 100]⟩ : ByteArray)] from rfl) (Reps.one (show Kd.M Kd.string _ _ _ (⟨#[115, 110, 97, 112, 115, 104, 111, 116]⟩ : ByteArray) [.string (⟨#[115, 110, 97, 112, 115, 104, 111, 116]⟩ : ByteArray)] from rfl) (Reps.one (show Kd.M Kd.string _ _ _ (⟨#[111, 112, 116, 105, 109, 105, 115, 116, 105, 99]⟩ : ByteArray) [.string (⟨#[111, 112, 116, 105, 109, 105, 115, 116, 105, 99]⟩ : ByteArray)] from rfl) (Reps.one (show Kd.M Kd.string _ _ _ (⟨#[111, 114, 100, 101, 114, 101, 100]⟩ : ByteArray) [.string (⟨#[111, 114, 100, 101, 114, 101, 100]⟩ : ByteArray)] from rfl) (Reps.none _ _)))))); intro v299 w7 ho8 hb hg_ hnew_; clear hg_ hnew_; (first | rw [← Ny298.out] at ho8 | (simp only [Int.reduceToNat] at ho8; rw [← Ny298.out] at ho8)); have HO300 := AM_ (Kd.R_lower ho8 (below_size (BT HB.out))); replace HB := AM_ (below_step (BT HB.out) hb); clear hb ho8; obtain ⟨Ao9, co9, eo9⟩ := Kd.R_slice HO300.out; subst eo9; have p301 : 0 ≤ ((ji4) : Int) := DT; have q301 : (ji4) < (y298.length : Int) := DT; obtain ⟨ad301, e301, hx301_0⟩ := Kd.at_string (Kd.R_reads' HO300.out).2.2 (ji4) p301 q301; cases e301; replace p301 := eq_true p301; replace q301 := eq_true q301))
 go_ret
 exact ⟨by first | rfl | (simp [errW_none, errW_some] <;> rfl) | (simp only [← hji4]; first | rfl | (simp [errW_none, errW_some] <;> rfl)) | (simp [*, errW_none, errW_some] <;> rfl), BT HB.out⟩

/-! ### spec_l3Value: function 27 -/
def spec_l3Value.f (k : Nat) (a0 : Int) : Option (ByteArray) := if a0 = (-1) then (some (⟨#[45]⟩ : ByteArray)) else ((spec_FormatInt.f k a0).bind fun t302 => (some t302))
theorem spec_l3Value.mono : ∀ a0 k, LeO (spec_l3Value.f k a0) (spec_l3Value.f (k + 1) a0) := by
 intro a0 k
 unfold spec_l3Value.f
 repeat' first
   | (with_reducible exact spec_FormatInt.mono _ _)
   | (with_reducible exact LeO.refl _)
   | (with_reducible exact LeO.none _)
   | (with_reducible refine LeO.ite ?_ ?_)
   | (with_reducible refine LeO.bind ?_ (fun _ => ?_))
   | exact spec_FormatInt.mono _ _
   | exact LeO.none _
   | refine LeO.ite ?_ ?_
   | refine LeO.bind ?_ (fun _ => ?_)
set_option maxHeartbeats 8000000 in
set_option maxRecDepth 100000 in
theorem spec_l3Value.calls (k : Nat) (a0 : Int) (r : ByteArray) (w : World) (h : spec_l3Value.f k a0 = some r) :
  Calls Tryd.prog 27 #[.int .i64 a0] w fun e w' => e = .returned (.string r) ∧ Below w.heap.size w w' := by
 have HB := AM_ (Below.refl w.heap.size w)
 have H : (if a0 = (-1) then (some (⟨#[45]⟩ : ByteArray)) else ((spec_FormatInt.f k a0).bind fun t302 => (some t302))) = some r := h
 clear h
 by_cases c2 : a0 = (-1)
 ·rw [if_pos c2] at H
  have c2b0 : (a0 == (-1)) = true := beq_iff_eq.mpr c2
  have c2b1 : (a0 != (-1)) = false := bne_eq_false_iff_eq.mpr c2
  clear c2
  obtain rfl := Option.some.inj H
  go_enter Tryd.func27, Tryd.ntmps27
  go_wp2
  go_ret
  exact QT (BT HB.out)
 rw [if_neg c2] at H
 have c2b0 : (a0 == (-1)) = false := beq_eq_false_iff_ne.mpr c2
 have c2b1 : (a0 != (-1)) = true := bne_iff_ne.mpr c2
 replace H := Option.bind_eq_some_iff.mp H
 obtain ⟨t302, A30, H⟩ := H
 replace H : (some t302) = some r := H
 have A3 := AM_ A30
 clear A30
 obtain rfl := Option.some.inj H
 go_enter Tryd.func27, Tryd.ntmps27
 go_wp2_with (first | ((with_reducible refine gate_callee (f := 25) rfl ?_); refine goesL_ (some 6) rfl rfl Tryd.func25 (by kernel_rfl) rfl #[.int .i64 a0] rfl (by (try simp only [List.map_toArray, List.map_cons, List.map_nil]); first | done | rfl | (simp only [List.length_drop, List.length_take]; rfl)) ?_; (with_reducible refine (spec_FormatInt.calls k a0 t302 _ A3.out).mono ?_); rintro e w4 ⟨rfl, hb⟩; refine ⟨_, rfl, ?_⟩; replace HB := AM_ (below_step (BT HB.out) hb); (try clear hb); (try clear hb2); (try clear hk); (try clear hi)))
 go_ret
 exact QT (BT HB.out)

/-! ### spec_FormatOp: function 8 -/
def spec_FormatOp.f (k : Nat) (a0_0 : Int) (a0_1 : Int) (a0_2 : Int) (a0_3 : Int) (a0_4 : Int) (a0_5 : Int) : Option (ByteArray) := (spec_IsValidOp.f k a0_0 a0_1 a0_2 a0_3 a0_4 a0_5).bind fun t304 => (if t304 = true then ((spec_FormatInt.f k a0_1).bind fun t305 => (if a0_0 = 1 then (if 1 + t305.size ≤ 9223372036854775807 then (if ((⟨#[98]⟩ : ByteArray) ++ t305).size + 1 ≤ 9223372036854775807 then ((spec_SchemeName.f a0_2).bind fun t306 => (if (((⟨#[98]⟩ : ByteArray) ++ t305) ++ (⟨#[32]⟩ : ByteArray)).size + t306.size ≤ 9223372036854775807 then (some ((((⟨#[98]⟩ : ByteArray) ++ t305) ++ (⟨#[32]⟩ : ByteArray)) ++ t306)) else (none))) else (none)) else (none)) else (if a0_0 = 2 then (if 1 + t305.size ≤ 9223372036854775807 then (if ((⟨#[114]⟩ : ByteArray) ++ t305).size + 1 ≤ 9223372036854775807 then ((spec_FormatInt.f k a0_3).bind fun t307 => (if (((⟨#[114]⟩ : ByteArray) ++ t305) ++ (⟨#[32]⟩ : ByteArray)).size + t307.size ≤ 9223372036854775807 then (some ((((⟨#[114]⟩ : ByteArray) ++ t305) ++ (⟨#[32]⟩ : ByteArray)) ++ t307)) else (none))) else (none)) else (none)) else (if a0_0 = 3 then (if 1 + t305.size ≤ 9223372036854775807 then (if ((⟨#[119]⟩ : ByteArray) ++ t305).size + 1 ≤ 9223372036854775807 then ((spec_FormatInt.f k a0_3).bind fun t308 => (if (((⟨#[119]⟩ : ByteArray) ++ t305) ++ (⟨#[32]⟩ : ByteArray)).size + t308.size ≤ 9223372036854775807 then (if ((((⟨#[119]⟩ : ByteArray) ++ t305) ++ (⟨#[32]⟩ : ByteArray)) ++ t308).size + 1 ≤ 9223372036854775807 then ((spec_l3Value.f k a0_5).bind fun t309 => (if (((((⟨#[119]⟩ : ByteArray) ++ t305) ++ (⟨#[32]⟩ : ByteArray)) ++ t308) ++ (⟨#[32]⟩ : ByteArray)).size + t309.size ≤ 9223372036854775807 then (some ((((((⟨#[119]⟩ : ByteArray) ++ t305) ++ (⟨#[32]⟩ : ByteArray)) ++ t308) ++ (⟨#[32]⟩ : ByteArray)) ++ t309)) else (none))) else (none)) else (none))) else (none)) else (none)) else (if a0_0 = 4 then (if 1 + t305.size ≤ 9223372036854775807 then (if ((⟨#[115]⟩ : ByteArray) ++ t305).size + 1 ≤ 9223372036854775807 then ((spec_FormatInt.f k a0_3).bind fun t310 => (if (((⟨#[115]⟩ : ByteArray) ++ t305) ++ (⟨#[32]⟩ : ByteArray)).size + t310.size ≤ 9223372036854775807 then (if ((((⟨#[115]⟩ : ByteArray) ++ t305) ++ (⟨#[32]⟩ : ByteArray)) ++ t310).size + 1 ≤ 9223372036854775807 then ((spec_FormatInt.f k a0_4).bind fun t311 => (if (((((⟨#[115]⟩ : ByteArray) ++ t305) ++ (⟨#[32]⟩ : ByteArray)) ++ t310) ++ (⟨#[32]⟩ : ByteArray)).size + t311.size ≤ 9223372036854775807 then (some ((((((⟨#[115]⟩ : ByteArray) ++ t305) ++ (⟨#[32]⟩ : ByteArray)) ++ t310) ++ (⟨#[32]⟩ : ByteArray)) ++ t311)) else (none))) else (none)) else (none))) else (none)) else (none)) else (if a0_0 = 5 then (if 1 + t305.size ≤ 9223372036854775807 then (some ((⟨#[99]⟩ : ByteArray) ++ t305)) else (none)) else (if 1 + t305.size ≤ 9223372036854775807 then (some ((⟨#[97]⟩ : ByteArray) ++ t305)) else (none)))))))) else (some (⟨#[]⟩ : ByteArray)))
theorem spec_FormatOp.mono : ∀ a0 a1 a2 a3 a4 a5 k, LeO (spec_FormatOp.f k a0 a1 a2 a3 a4 a5) (spec_FormatOp.f (k + 1) a0 a1 a2 a3 a4 a5) := by
 intro a0 a1 a2 a3 a4 a5 k
 unfold spec_FormatOp.f
 repeat' first
   | (with_reducible exact spec_FormatInt.mono _ _)
   | (with_reducible exact spec_IsValidOp.mono _ _ _ _ _ _ _)
   | (with_reducible exact spec_l3Value.mono _ _)
   | (with_reducible exact LeO.refl _)
   | (with_reducible exact LeO.none _)
   | (with_reducible refine LeO.ite ?_ ?_)
   | (with_reducible refine LeO.bind ?_ (fun _ => ?_))
   | exact spec_FormatInt.mono _ _
   | exact spec_IsValidOp.mono _ _ _ _ _ _ _
   | exact spec_l3Value.mono _ _
   | exact LeO.none _
   | refine LeO.ite ?_ ?_
   | refine LeO.bind ?_ (fun _ => ?_)
def spec_FormatOp.T10 : Bool × List (List Nat × List Nat) := (true, [([], []), ([0], [0]), ([1], [1]), ([], []), ([3], [3]), ([4], [4]), ([2, 5], [2, 5]), ([6], [6]), ([], []), ([8], [8]), ([9, 5], [9]), ([7, 10], [7, 10]), ([11, 10, 0, 1, 2, 3, 4, 5, 6, 7, 8, 9, 10, 11], [11])])
def spec_FormatOp.B10 : List Nat := [0, 1, 3, 0, 8, 24, 63, 127, 0, 256, 824, 2047, 4095]
theorem spec_FormatOp.tab10 : rtab .any (opsOf Tryd.f8 10) = spec_FormatOp.T10 := by kernel_rfl
theorem spec_FormatOp.bits10 : waitsOk spec_FormatOp.T10.2 spec_FormatOp.B10 = true := by kernel_rfl
def spec_FormatOp.T12 : Bool × List (List Nat × List Nat) := (true, [([], []), ([0], [0]), ([1], [1]), ([], []), ([3], [3]), ([4], [4]), ([2, 5], [2, 5]), ([6], [6]), ([], []), ([8], [8]), ([9, 5], [9]), ([7, 10], [7, 10]), ([11, 10, 0, 1, 2, 3, 4, 5, 6, 7, 8, 9, 10, 11], [11])])
def spec_FormatOp.B12 : List Nat := [0, 1, 3, 0, 8, 24, 63, 127, 0, 256, 824, 2047, 4095]
theorem spec_FormatOp.tab12 : rtab .any (opsOf Tryd.f8 12) = spec_FormatOp.T12 := by kernel_rfl
theorem spec_FormatOp.bits12 : waitsOk spec_FormatOp.T12.2 spec_FormatOp.B12 = true := by kernel_rfl
set_option maxHeartbeats 8000000 in
set_option maxRecDepth 100000 in
theorem spec_FormatOp.calls (k : Nat) (a0_0 : Int) (a0_1 : Int) (a0_2 : Int) (a0_3 : Int) (a0_4 : Int) (a0_5 : Int) (r : ByteArray) (w : World) (h : spec_FormatOp.f k a0_0 a0_1 a0_2 a0_3 a0_4 a0_5 = some r) :
  Calls Tryd.prog 8 #[.agg #[.int .i64 a0_0, .int .i64 a0_1, .int .i64 a0_2, .int .i64 a0_3, .int .i64 a0_4, .int .i64 a0_5]] w fun e w' => e = .returned (.string r) ∧ Below w.heap.size w w' := by
 have hu25 := Tryd.underlying25
 have HB := AM_ (Below.refl w.heap.size w)
 have H : ((spec_IsValidOp.f k a0_0 a0_1 a0_2 a0_3 a0_4 a0_5).bind fun t304 => (if t304 = true then ((spec_FormatInt.f k a0_1).bind fun t305 => (if a0_0 = 1 then (if 1 + t305.size ≤ 9223372036854775807 then (if ((⟨#[98]⟩ : ByteArray) ++ t305).size + 1 ≤ 9223372036854775807 then ((spec_SchemeName.f a0_2).bind fun t306 => (if (((⟨#[98]⟩ : ByteArray) ++ t305) ++ (⟨#[32]⟩ : ByteArray)).size + t306.size ≤ 9223372036854775807 then (some ((((⟨#[98]⟩ : ByteArray) ++ t305) ++ (⟨#[32]⟩ : ByteArray)) ++ t306)) else (none))) else (none)) else (none)) else (if a0_0 = 2 then (if 1 + t305.size ≤ 9223372036854775807 then (if ((⟨#[114]⟩ : ByteArray) ++ t305).size + 1 ≤ 9223372036854775807 then ((spec_FormatInt.f k a0_3).bind fun t307 => (if (((⟨#[114]⟩ : ByteArray) ++ t305) ++ (⟨#[32]⟩ : ByteArray)).size + t307.size ≤ 9223372036854775807 then (some ((((⟨#[114]⟩ : ByteArray) ++ t305) ++ (⟨#[32]⟩ : ByteArray)) ++ t307)) else (none))) else (none)) else (none)) else (if a0_0 = 3 then (if 1 + t305.size ≤ 9223372036854775807 then (if ((⟨#[119]⟩ : ByteArray) ++ t305).size + 1 ≤ 9223372036854775807 then ((spec_FormatInt.f k a0_3).bind fun t308 => (if (((⟨#[119]⟩ : ByteArray) ++ t305) ++ (⟨#[32]⟩ : ByteArray)).size + t308.size ≤ 9223372036854775807 then (if ((((⟨#[119]⟩ : ByteArray) ++ t305) ++ (⟨#[32]⟩ : ByteArray)) ++ t308).size + 1 ≤ 9223372036854775807 then ((spec_l3Value.f k a0_5).bind fun t309 => (if (((((⟨#[119]⟩ : ByteArray) ++ t305) ++ (⟨#[32]⟩ : ByteArray)) ++ t308) ++ (⟨#[32]⟩ : ByteArray)).size + t309.size ≤ 9223372036854775807 then (some ((((((⟨#[119]⟩ : ByteArray) ++ t305) ++ (⟨#[32]⟩ : ByteArray)) ++ t308) ++ (⟨#[32]⟩ : ByteArray)) ++ t309)) else (none))) else (none)) else (none))) else (none)) else (none)) else (if a0_0 = 4 then (if 1 + t305.size ≤ 9223372036854775807 then (if ((⟨#[115]⟩ : ByteArray) ++ t305).size + 1 ≤ 9223372036854775807 then ((spec_FormatInt.f k a0_3).bind fun t310 => (if (((⟨#[115]⟩ : ByteArray) ++ t305) ++ (⟨#[32]⟩ : ByteArray)).size + t310.size ≤ 9223372036854775807 then (if ((((⟨#[115]⟩ : ByteArray) ++ t305) ++ (⟨#[32]⟩ : ByteArray)) ++ t310).size + 1 ≤ 9223372036854775807 then ((spec_FormatInt.f k a0_4).bind fun t311 => (if (((((⟨#[115]⟩ : ByteArray) ++ t305) ++ (⟨#[32]⟩ : ByteArray)) ++ t310) ++ (⟨#[32]⟩ : ByteArray)).size + t311.size ≤ 9223372036854775807 then (some ((((((⟨#[115]⟩ : ByteArray) ++ t305) ++ (⟨#[32]⟩ : ByteArray)) ++ t310) ++ (⟨#[32]⟩ : ByteArray)) ++ t311)) else (none))) else (none)) else (none))) else (none)) else (none)) else (if a0_0 = 5 then (if 1 + t305.size ≤ 9223372036854775807 then (some ((⟨#[99]⟩ : ByteArray) ++ t305)) else (none)) else (if 1 + t305.size ≤ 9223372036854775807 then (some ((⟨#[97]⟩ : ByteArray) ++ t305)) else (none)))))))) else (some (⟨#[]⟩ : ByteArray)))) = some r := h
 clear h
 replace H := Option.bind_eq_some_iff.mp H
 obtain ⟨t304, A20, H⟩ := H
 replace H : (if t304 = true then ((spec_FormatInt.f k a0_1).bind fun t305 => (if a0_0 = 1 then (if 1 + t305.size ≤ 9223372036854775807 then (if ((⟨#[98]⟩ : ByteArray) ++ t305).size + 1 ≤ 9223372036854775807 then ((spec_SchemeName.f a0_2).bind fun t306 => (if (((⟨#[98]⟩ : ByteArray) ++ t305) ++ (⟨#[32]⟩ : ByteArray)).size + t306.size ≤ 9223372036854775807 then (some ((((⟨#[98]⟩ : ByteArray) ++ t305) ++ (⟨#[32]⟩ : ByteArray)) ++ t306)) else (none))) else (none)) else (none)) else (if a0_0 = 2 then (if 1 + t305.size ≤ 9223372036854775807 then (if ((⟨#[114]⟩ : ByteArray) ++ t305).size + 1 ≤ 9223372036854775807 then ((spec_FormatInt.f k a0_3).bind fun t307 => (if (((⟨#[114]⟩ : ByteArray) ++ t305) ++ (⟨#[32]⟩ : ByteArray)).size + t307.size ≤ 9223372036854775807 then (some ((((⟨#[114]⟩ : ByteArray) ++ t305) ++ (⟨#[32]⟩ : ByteArray)) ++ t307)) else (none))) else (none)) else (none)) else (if a0_0 = 3 then (if 1 + t305.size ≤ 9223372036854775807 then (if ((⟨#[119]⟩ : ByteArray) ++ t305).size + 1 ≤ 9223372036854775807 then ((spec_FormatInt.f k a0_3).bind fun t308 => (if (((⟨#[119]⟩ : ByteArray) ++ t305) ++ (⟨#[32]⟩ : ByteArray)).size + t308.size ≤ 9223372036854775807 then (if ((((⟨#[119]⟩ : ByteArray) ++ t305) ++ (⟨#[32]⟩ : ByteArray)) ++ t308).size + 1 ≤ 9223372036854775807 then ((spec_l3Value.f k a0_5).bind fun t309 => (if (((((⟨#[119]⟩ : ByteArray) ++ t305) ++ (⟨#[32]⟩ : ByteArray)) ++ t308) ++ (⟨#[32]⟩ : ByteArray)).size + t309.size ≤ 9223372036854775807 then (some ((((((⟨#[119]⟩ : ByteArray) ++ t305) ++ (⟨#[32]⟩ : ByteArray)) ++ t308) ++ (⟨#[32]⟩ : ByteArray)) ++ t309)) else (none))) else (none)) else (none))) else (none)) else (none)) else (if a0_0 = 4 then (if 1 + t305.size ≤ 9223372036854775807 then (if ((⟨#[115]⟩ : ByteArray) ++ t305).size + 1 ≤ 9223372036854775807 then ((spec_FormatInt.f k a0_3).bind fun t310 => (if (((⟨#[115]⟩ : ByteArray) ++ t305) ++ (⟨#[32]⟩ : ByteArray)).size + t310.size ≤ 9223372036854775807 then (if ((((⟨#[115]⟩ : ByteArray) ++ t305) ++ (⟨#[32]⟩ : ByteArray)) ++ t310).size + 1 ≤ 9223372036854775807 then ((spec_FormatInt.f k a0_4).bind fun t311 => (if (((((⟨#[115]⟩ : ByteArray) ++ t305) ++ (⟨#[32]⟩ : ByteArray)) ++ t310) ++ (⟨#[32]⟩ : ByteArray)).size + t311.size ≤ 9223372036854775807 then (some ((((((⟨#[115]⟩ : ByteArray) ++ t305) ++ (⟨#[32]⟩ : ByteArray)) ++ t310) ++ (⟨#[32]⟩ : ByteArray)) ++ t311)) else (none))) else (none)) else (none))) else (none)) else (none)) else (if a0_0 = 5 then (if 1 + t305.size ≤ 9223372036854775807 then (some ((⟨#[99]⟩ : ByteArray) ++ t305)) else (none)) else (if 1 + t305.size ≤ 9223372036854775807 then (some ((⟨#[97]⟩ : ByteArray) ++ t305)) else (none)))))))) else (some (⟨#[]⟩ : ByteArray))) = some r := H
 have A2 := AM_ A20
 clear A20
 by_cases c3 : t304 = true
 rotate_left
 ·replace c3 := Bool.eq_false_iff.mpr c3
  subst c3
  have H1 : (some (⟨#[]⟩ : ByteArray)) = some r := by rw [if_neg (show ¬ (false = true) by decide)] at H; exact H
  clear H
  have H := H1
  clear H1
  obtain rfl := Option.some.inj H
  go_enter Tryd.func8, Tryd.ntmps8
  go_wp2_with (first | ((with_reducible refine gate_dst (N := 1) rfl ?_); refine box_event ?hg (N := 1) ?hd (cs := #[.int .i64 a0_0, .int .i64 a0_1, .int .i64 a0_2, .int .i64 a0_3, .int .i64 a0_4, .int .i64 a0_5]) (t := 25) ?hr ?_; (case hd => rfl); (case hg => rfl); (case hr => first | (go_simp; done) | (go_simp; rfl)); intro gb303 hg w78 hbox hb; have BK303 := AM_ (hbox); have GW303 := AM_ ((GS HB.out hg)); have GE303 := AM_ ((GS HB.out hg)); replace HB := AM_ (below_step (BT HB.out) hb); clear hb hbox hg; obtain ⟨hcz79_0, hcz79_1, hcz79_2, hcz79_3, hcz79_4, hcz79_5, hfz79_0, hfz79_1, hfz79_2, hfz79_3, hfz79_4, hfz79_5⟩ := bk6 BK303.out) | ((with_reducible refine gate_callee (f := 9) rfl ?_); refine goesL_ (some 5) rfl rfl Tryd.func9 (by kernel_rfl) rfl #[.agg #[.int .i64 a0_0, .int .i64 a0_1, .int .i64 a0_2, .int .i64 a0_3, .int .i64 a0_4, .int .i64 a0_5]] rfl (by (try simp only [List.map_toArray, List.map_cons, List.map_nil]); first | done | rfl | (simp only [List.length_drop, List.length_take]; rfl)) ?_; (with_reducible refine (spec_IsValidOp.calls k a0_0 a0_1 a0_2 a0_3 a0_4 a0_5 false _ A2.out).mono ?_); rintro e w80 ⟨rfl, hb⟩; refine ⟨_, rfl, ?_⟩; replace BK303 := AM_ (BB BK303.out hb); replace HB := AM_ (below_step (BT HB.out) hb); (try clear hb); (try clear hb2); (try clear hk); (try clear hi)))
  go_ret
  exact QT (BT HB.out)
 subst c3
 have H1 : ((spec_FormatInt.f k a0_1).bind fun t305 => (if a0_0 = 1 then (if 1 + t305.size ≤ 9223372036854775807 then (if ((⟨#[98]⟩ : ByteArray) ++ t305).size + 1 ≤ 9223372036854775807 then ((spec_SchemeName.f a0_2).bind fun t306 => (if (((⟨#[98]⟩ : ByteArray) ++ t305) ++ (⟨#[32]⟩ : ByteArray)).size + t306.size ≤ 9223372036854775807 then (some ((((⟨#[98]⟩ : ByteArray) ++ t305) ++ (⟨#[32]⟩ : ByteArray)) ++ t306)) else (none))) else (none)) else (none)) else (if a0_0 = 2 then (if 1 + t305.size ≤ 9223372036854775807 then (if ((⟨#[114]⟩ : ByteArray) ++ t305).size + 1 ≤ 9223372036854775807 then ((spec_FormatInt.f k a0_3).bind fun t307 => (if (((⟨#[114]⟩ : ByteArray) ++ t305) ++ (⟨#[32]⟩ : ByteArray)).size + t307.size ≤ 9223372036854775807 then (some ((((⟨#[114]⟩ : ByteArray) ++ t305) ++ (⟨#[32]⟩ : ByteArray)) ++ t307)) else (none))) else (none)) else (none)) else (if a0_0 = 3 then (if 1 + t305.size ≤ 9223372036854775807 then (if ((⟨#[119]⟩ : ByteArray) ++ t305).size + 1 ≤ 9223372036854775807 then ((spec_FormatInt.f k a0_3).bind fun t308 => (if (((⟨#[119]⟩ : ByteArray) ++ t305) ++ (⟨#[32]⟩ : ByteArray)).size + t308.size ≤ 9223372036854775807 then (if ((((⟨#[119]⟩ : ByteArray) ++ t305) ++ (⟨#[32]⟩ : ByteArray)) ++ t308).size + 1 ≤ 9223372036854775807 then ((spec_l3Value.f k a0_5).bind fun t309 => (if (((((⟨#[119]⟩ : ByteArray) ++ t305) ++ (⟨#[32]⟩ : ByteArray)) ++ t308) ++ (⟨#[32]⟩ : ByteArray)).size + t309.size ≤ 9223372036854775807 then (some ((((((⟨#[119]⟩ : ByteArray) ++ t305) ++ (⟨#[32]⟩ : ByteArray)) ++ t308) ++ (⟨#[32]⟩ : ByteArray)) ++ t309)) else (none))) else (none)) else (none))) else (none)) else (none)) else (if a0_0 = 4 then (if 1 + t305.size ≤ 9223372036854775807 then (if ((⟨#[115]⟩ : ByteArray) ++ t305).size + 1 ≤ 9223372036854775807 then ((spec_FormatInt.f k a0_3).bind fun t310 => (if (((⟨#[115]⟩ : ByteArray) ++ t305) ++ (⟨#[32]⟩ : ByteArray)).size + t310.size ≤ 9223372036854775807 then (if ((((⟨#[115]⟩ : ByteArray) ++ t305) ++ (⟨#[32]⟩ : ByteArray)) ++ t310).size + 1 ≤ 9223372036854775807 then ((spec_FormatInt.f k a0_4).bind fun t311 => (if (((((⟨#[115]⟩ : ByteArray) ++ t305) ++ (⟨#[32]⟩ : ByteArray)) ++ t310) ++ (⟨#[32]⟩ : ByteArray)).size + t311.size ≤ 9223372036854775807 then (some ((((((⟨#[115]⟩ : ByteArray) ++ t305) ++ (⟨#[32]⟩ : ByteArray)) ++ t310) ++ (⟨#[32]⟩ : ByteArray)) ++ t311)) else (none))) else (none)) else (none))) else (none)) else (none)) else (if a0_0 = 5 then (if 1 + t305.size ≤ 9223372036854775807 then (some ((⟨#[99]⟩ : ByteArray) ++ t305)) else (none)) else (if 1 + t305.size ≤ 9223372036854775807 then (some ((⟨#[97]⟩ : ByteArray) ++ t305)) else (none)))))))) = some r := by rw [if_pos rfl] at H; exact H
 clear H
 have H := H1
 clear H1
 replace H := Option.bind_eq_some_iff.mp H
 obtain ⟨t305, A40, H⟩ := H
 replace H : (if a0_0 = 1 then (if 1 + t305.size ≤ 9223372036854775807 then (if ((⟨#[98]⟩ : ByteArray) ++ t305).size + 1 ≤ 9223372036854775807 then ((spec_SchemeName.f a0_2).bind fun t306 => (if (((⟨#[98]⟩ : ByteArray) ++ t305) ++ (⟨#[32]⟩ : ByteArray)).size + t306.size ≤ 9223372036854775807 then (some ((((⟨#[98]⟩ : ByteArray) ++ t305) ++ (⟨#[32]⟩ : ByteArray)) ++ t306)) else (none))) else (none)) else (none)) else (if a0_0 = 2 then (if 1 + t305.size ≤ 9223372036854775807 then (if ((⟨#[114]⟩ : ByteArray) ++ t305).size + 1 ≤ 9223372036854775807 then ((spec_FormatInt.f k a0_3).bind fun t307 => (if (((⟨#[114]⟩ : ByteArray) ++ t305) ++ (⟨#[32]⟩ : ByteArray)).size + t307.size ≤ 9223372036854775807 then (some ((((⟨#[114]⟩ : ByteArray) ++ t305) ++ (⟨#[32]⟩ : ByteArray)) ++ t307)) else (none))) else (none)) else (none)) else (if a0_0 = 3 then (if 1 + t305.size ≤ 9223372036854775807 then (if ((⟨#[119]⟩ : ByteArray) ++ t305).size + 1 ≤ 9223372036854775807 then ((spec_FormatInt.f k a0_3).bind fun t308 => (if (((⟨#[119]⟩ : ByteArray) ++ t305) ++ (⟨#[32]⟩ : ByteArray)).size + t308.size ≤ 9223372036854775807 then (if ((((⟨#[119]⟩ : ByteArray) ++ t305) ++ (⟨#[32]⟩ : ByteArray)) ++ t308).size + 1 ≤ 9223372036854775807 then ((spec_l3Value.f k a0_5).bind fun t309 => (if (((((⟨#[119]⟩ : ByteArray) ++ t305) ++ (⟨#[32]⟩ : ByteArray)) ++ t308) ++ (⟨#[32]⟩ : ByteArray)).size + t309.size ≤ 9223372036854775807 then (some ((((((⟨#[119]⟩ : ByteArray) ++ t305) ++ (⟨#[32]⟩ : ByteArray)) ++ t308) ++ (⟨#[32]⟩ : ByteArray)) ++ t309)) else (none))) else (none)) else (none))) else (none)) else (none)) else (if a0_0 = 4 then (if 1 + t305.size ≤ 9223372036854775807 then (if ((⟨#[115]⟩ : ByteArray) ++ t305).size + 1 ≤ 9223372036854775807 then ((spec_FormatInt.f k a0_3).bind fun t310 => (if (((⟨#[115]⟩ : ByteArray) ++ t305) ++ (⟨#[32]⟩ : ByteArray)).size + t310.size ≤ 9223372036854775807 then (if ((((⟨#[115]⟩ : ByteArray) ++ t305) ++ (⟨#[32]⟩ : ByteArray)) ++ t310).size + 1 ≤ 9223372036854775807 then ((spec_FormatInt.f k a0_4).bind fun t311 => (if (((((⟨#[115]⟩ : ByteArray) ++ t305) ++ (⟨#[32]⟩ : ByteArray)) ++ t310) ++ (⟨#[32]⟩ : ByteArray)).size + t311.size ≤ 9223372036854775807 then (some ((((((⟨#[115]⟩ : ByteArray) ++ t305) ++ (⟨#[32]⟩ : ByteArray)) ++ t310) ++ (⟨#[32]⟩ : ByteArray)) ++ t311)) else (none))) else (none)) else (none))) else (none)) else (none)) else (if a0_0 = 5 then (if 1 + t305.size ≤ 9223372036854775807 then (some ((⟨#[99]⟩ : ByteArray) ++ t305)) else (none)) else (if 1 + t305.size ≤ 9223372036854775807 then (some ((⟨#[97]⟩ : ByteArray) ++ t305)) else (none))))))) = some r := H
 have A4 := AM_ A40
 clear A40
 by_cases c5 : a0_0 = 1
 ·rw [if_pos c5] at H
  have c5b0 : (a0_0 == 1) = true := beq_iff_eq.mpr c5
  have c5b1 : (a0_0 != 1) = false := bne_eq_false_iff_eq.mpr c5
  clear c5
  by_cases c6 : 1 + t305.size ≤ 9223372036854775807
  rotate_left
  ·rw [if_neg c6] at H
   exact absurd H (by simp)
  rw [if_pos c6] at H
  have c6b0 := eq_true c6
  have c6b1 : decide (1 + t305.size ≤ 9223372036854775807) = true := decide_eq_true c6
  try have c6b2 : (9223372036854775807 < 1 + t305.size) = False := eq_false (Nat.not_lt.2 c6)
  by_cases c7 : ((⟨#[98]⟩ : ByteArray) ++ t305).size + 1 ≤ 9223372036854775807
  rotate_left
  ·rw [if_neg c7] at H
   exact absurd H (by simp)
  rw [if_pos c7] at H
  have c7b0 := eq_true c7
  have c7b1 : decide (((⟨#[98]⟩ : ByteArray) ++ t305).size + 1 ≤ 9223372036854775807) = true := decide_eq_true c7
  try have c7b2 : (9223372036854775807 < ((⟨#[98]⟩ : ByteArray) ++ t305).size + 1) = False := eq_false (Nat.not_lt.2 c7)
  try have c7b3 : (9223372036854775807 < 1 + t305.size + 1) = False := by have h_ := c7; simp only [ByteArray.size_append] at h_; exact eq_false (Nat.not_lt.2 h_)
  replace H := Option.bind_eq_some_iff.mp H
  obtain ⟨t306, A80, H⟩ := H
  replace H : (if (((⟨#[98]⟩ : ByteArray) ++ t305) ++ (⟨#[32]⟩ : ByteArray)).size + t306.size ≤ 9223372036854775807 then (some ((((⟨#[98]⟩ : ByteArray) ++ t305) ++ (⟨#[32]⟩ : ByteArray)) ++ t306)) else (none)) = some r := H
  have A8 := AM_ A80
  clear A80
  by_cases c9 : (((⟨#[98]⟩ : ByteArray) ++ t305) ++ (⟨#[32]⟩ : ByteArray)).size + t306.size ≤ 9223372036854775807
  rotate_left
  ·rw [if_neg c9] at H
   exact absurd H (by simp)
  rw [if_pos c9] at H
  have c9b0 := eq_true c9
  have c9b1 : decide ((((⟨#[98]⟩ : ByteArray) ++ t305) ++ (⟨#[32]⟩ : ByteArray)).size + t306.size ≤ 9223372036854775807) = true := decide_eq_true c9
  try have c9b2 : (9223372036854775807 < (((⟨#[98]⟩ : ByteArray) ++ t305) ++ (⟨#[32]⟩ : ByteArray)).size + t306.size) = False := eq_false (Nat.not_lt.2 c9)
  try have c9b3 : (9223372036854775807 < 1 + t305.size + 1 + t306.size) = False := by have h_ := c9; simp only [ByteArray.size_append] at h_; exact eq_false (Nat.not_lt.2 h_)
  obtain rfl := Option.some.inj H
  go_enter Tryd.func8, Tryd.ntmps8
  go_wp2_with (first | ((with_reducible refine gate_dst (N := 1) rfl ?_); refine box_event ?hg (N := 1) ?hd (cs := #[.int .i64 a0_0, .int .i64 a0_1, .int .i64 a0_2, .int .i64 a0_3, .int .i64 a0_4, .int .i64 a0_5]) (t := 25) ?hr ?_; (case hd => rfl); (case hg => rfl); (case hr => first | (go_simp; done) | (go_simp; rfl)); intro gb303 hg w10 hbox hb; have BK303 := AM_ (hbox); have GW303 := AM_ ((GS HB.out hg)); have GE303 := AM_ ((GS HB.out hg)); replace HB := AM_ (below_step (BT HB.out) hb); clear hb hbox hg; obtain ⟨hcz11_0, hcz11_1, hcz11_2, hcz11_3, hcz11_4, hcz11_5, hfz11_0, hfz11_1, hfz11_2, hfz11_3, hfz11_4, hfz11_5⟩ := bk6 BK303.out) | ((with_reducible refine gate_callee (f := 9) rfl ?_); refine goesL_ (some 5) rfl rfl Tryd.func9 (by kernel_rfl) rfl #[.agg #[.int .i64 a0_0, .int .i64 a0_1, .int .i64 a0_2, .int .i64 a0_3, .int .i64 a0_4, .int .i64 a0_5]] rfl (by (try simp only [List.map_toArray, List.map_cons, List.map_nil]); first | done | rfl | (simp only [List.length_drop, List.length_take]; rfl)) ?_; (with_reducible refine (spec_IsValidOp.calls k a0_0 a0_1 a0_2 a0_3 a0_4 a0_5 true _ A2.out).mono ?_); rintro e w12 ⟨rfl, hb⟩; refine ⟨_, rfl, ?_⟩; replace BK303 := AM_ (BB BK303.out hb); replace HB := AM_ (below_step (BT HB.out) hb); (try clear hb); (try clear hb2); (try clear hk); (try clear hi); obtain ⟨hcz13_0, hcz13_1, hcz13_2, hcz13_3, hcz13_4, hcz13_5, hfz13_0, hfz13_1, hfz13_2, hfz13_3, hfz13_4, hfz13_5⟩ := bk6 BK303.out) | ((with_reducible refine gate_callee (f := 25) rfl ?_); refine goesL_ (some 9) rfl rfl Tryd.func25 (by kernel_rfl) rfl #[.int .i64 a0_1] rfl (by (try simp only [List.map_toArray, List.map_cons, List.map_nil]); first | done | rfl | (simp only [List.length_drop, List.length_take]; rfl)) ?_; (with_reducible refine (spec_FormatInt.calls k a0_1 t305 _ A4.out).mono ?_); rintro e w14 ⟨rfl, hb⟩; refine ⟨_, rfl, ?_⟩; replace BK303 := AM_ (BB BK303.out hb); replace HB := AM_ (below_step (BT HB.out) hb); (try clear hb); (try clear hb2); (try clear hk); (try clear hi); obtain ⟨hcz15_0, hcz15_1, hcz15_2, hcz15_3, hcz15_4, hcz15_5, hfz15_0, hfz15_1, hfz15_2, hfz15_3, hfz15_4, hfz15_5⟩ := bk6 BK303.out) | ((with_reducible refine gate_callee (f := 26) rfl ?_); refine goesL_ (some 19) rfl rfl Tryd.func26 (by kernel_rfl) rfl #[.int .i64 a0_2] rfl (by (try simp only [List.map_toArray, List.map_cons, List.map_nil]); first | done | rfl | (simp only [List.length_drop, List.length_take]; rfl)) ?_; (with_reducible refine (spec_SchemeName.calls a0_2 t306 _ A8.out).mono ?_); rintro e w16 ⟨rfl, hb⟩; refine ⟨_, rfl, ?_⟩; replace BK303 := AM_ (BB BK303.out hb); replace HB := AM_ (below_step (BT HB.out) hb); (try clear hb); (try clear hb2); (try clear hk); (try clear hi)))
  go_ret
  exact QT (BT HB.out)
 rw [if_neg c5] at H
 have c5b0 : (a0_0 == 1) = false := beq_eq_false_iff_ne.mpr c5
 have c5b1 : (a0_0 != 1) = true := bne_iff_ne.mpr c5
 by_cases c17 : a0_0 = 2
 ·rw [if_pos c17] at H
  have c17b0 : (a0_0 == 2) = true := beq_iff_eq.mpr c17
  have c17b1 : (a0_0 != 2) = false := bne_eq_false_iff_eq.mpr c17
  clear c17
  by_cases c18 : 1 + t305.size ≤ 9223372036854775807
  rotate_left
  ·rw [if_neg c18] at H
   exact absurd H (by simp)
  rw [if_pos c18] at H
  have c18b0 := eq_true c18
  have c18b1 : decide (1 + t305.size ≤ 9223372036854775807) = true := decide_eq_true c18
  try have c18b2 : (9223372036854775807 < 1 + t305.size) = False := eq_false (Nat.not_lt.2 c18)
  by_cases c19 : ((⟨#[114]⟩ : ByteArray) ++ t305).size + 1 ≤ 9223372036854775807
  rotate_left
  ·rw [if_neg c19] at H
   exact absurd H (by simp)
  rw [if_pos c19] at H
  have c19b0 := eq_true c19
  have c19b1 : decide (((⟨#[114]⟩ : ByteArray) ++ t305).size + 1 ≤ 9223372036854775807) = true := decide_eq_true c19
  try have c19b2 : (9223372036854775807 < ((⟨#[114]⟩ : ByteArray) ++ t305).size + 1) = False := eq_false (Nat.not_lt.2 c19)
  try have c19b3 : (9223372036854775807 < 1 + t305.size + 1) = False := by have h_ := c19; simp only [ByteArray.size_append] at h_; exact eq_false (Nat.not_lt.2 h_)
  replace H := Option.bind_eq_some_iff.mp H
  obtain ⟨t307, A200, H⟩ := H
  replace H : (if (((⟨#[114]⟩ : ByteArray) ++ t305) ++ (⟨#[32]⟩ : ByteArray)).size + t307.size ≤ 9223372036854775807 then (some ((((⟨#[114]⟩ : ByteArray) ++ t305) ++ (⟨#[32]⟩ : ByteArray)) ++ t307)) else (none)) = some r := H
  have A20 := AM_ A200
  clear A200
  by_cases c21 : (((⟨#[114]⟩ : ByteArray) ++ t305) ++ (⟨#[32]⟩ : ByteArray)).size + t307.size ≤ 9223372036854775807
  rotate_left
  ·rw [if_neg c21] at H
   exact absurd H (by simp)
  rw [if_pos c21] at H
  have c21b0 := eq_true c21
  have c21b1 : decide ((((⟨#[114]⟩ : ByteArray) ++ t305) ++ (⟨#[32]⟩ : ByteArray)).size + t307.size ≤ 9223372036854775807) = true := decide_eq_true c21
  try have c21b2 : (9223372036854775807 < (((⟨#[114]⟩ : ByteArray) ++ t305) ++ (⟨#[32]⟩ : ByteArray)).size + t307.size) = False := eq_false (Nat.not_lt.2 c21)
  try have c21b3 : (9223372036854775807 < 1 + t305.size + 1 + t307.size) = False := by have h_ := c21; simp only [ByteArray.size_append] at h_; exact eq_false (Nat.not_lt.2 h_)
  obtain rfl := Option.some.inj H
  go_enter Tryd.func8, Tryd.ntmps8
  go_wp2_with (first | ((with_reducible refine gate_dst (N := 1) rfl ?_); refine box_event ?hg (N := 1) ?hd (cs := #[.int .i64 a0_0, .int .i64 a0_1, .int .i64 a0_2, .int .i64 a0_3, .int .i64 a0_4, .int .i64 a0_5]) (t := 25) ?hr ?_; (case hd => rfl); (case hg => rfl); (case hr => first | (go_simp; done) | (go_simp; rfl)); intro gb303 hg w22 hbox hb; have BK303 := AM_ (hbox); have GW303 := AM_ ((GS HB.out hg)); have GE303 := AM_ ((GS HB.out hg)); replace HB := AM_ (below_step (BT HB.out) hb); clear hb hbox hg; obtain ⟨hcz23_0, hcz23_1, hcz23_2, hcz23_3, hcz23_4, hcz23_5, hfz23_0, hfz23_1, hfz23_2, hfz23_3, hfz23_4, hfz23_5⟩ := bk6 BK303.out) | ((with_reducible refine gate_callee (f := 9) rfl ?_); refine goesL_ (some 5) rfl rfl Tryd.func9 (by kernel_rfl) rfl #[.agg #[.int .i64 a0_0, .int .i64 a0_1, .int .i64 a0_2, .int .i64 a0_3, .int .i64 a0_4, .int .i64 a0_5]] rfl (by (try simp only [List.map_toArray, List.map_cons, List.map_nil]); first | done | rfl | (simp only [List.length_drop, List.length_take]; rfl)) ?_; (with_reducible refine (spec_IsValidOp.calls k a0_0 a0_1 a0_2 a0_3 a0_4 a0_5 true _ A2.out).mono ?_); rintro e w24 ⟨rfl, hb⟩; refine ⟨_, rfl, ?_⟩; replace BK303 := AM_ (BB BK303.out hb); replace HB := AM_ (below_step (BT HB.out) hb); (try clear hb); (try clear hb2); (try clear hk); (try clear hi); obtain ⟨hcz25_0, hcz25_1, hcz25_2, hcz25_3, hcz25_4, hcz25_5, hfz25_0, hfz25_1, hfz25_2, hfz25_3, hfz25_4, hfz25_5⟩ := bk6 BK303.out) | ((with_reducible refine gate_callee (f := 25) rfl ?_); refine goesL_ (some 9) rfl rfl Tryd.func25 (by kernel_rfl) rfl #[.int .i64 a0_1] rfl (by (try simp only [List.map_toArray, List.map_cons, List.map_nil]); first | done | rfl | (simp only [List.length_drop, List.length_take]; rfl)) ?_; (with_reducible refine (spec_FormatInt.calls k a0_1 t305 _ A4.out).mono ?_); rintro e w26 ⟨rfl, hb⟩; refine ⟨_, rfl, ?_⟩; replace BK303 := AM_ (BB BK303.out hb); replace HB := AM_ (below_step (BT HB.out) hb); (try clear hb); (try clear hb2); (try clear hk); (try clear hi); obtain ⟨hcz27_0, hcz27_1, hcz27_2, hcz27_3, hcz27_4, hcz27_5, hfz27_0, hfz27_1, hfz27_2, hfz27_3, hfz27_4, hfz27_5⟩ := bk6 BK303.out) | ((with_reducible refine gate_callee (f := 25) rfl ?_); refine goesL_ (some 28) rfl rfl Tryd.func25 (by kernel_rfl) rfl #[.int .i64 a0_3] rfl (by (try simp only [List.map_toArray, List.map_cons, List.map_nil]); first | done | rfl | (simp only [List.length_drop, List.length_take]; rfl)) ?_; (with_reducible refine (spec_FormatInt.calls k a0_3 t307 _ A20.out).mono ?_); rintro e w28 ⟨rfl, hb⟩; refine ⟨_, rfl, ?_⟩; replace BK303 := AM_ (BB BK303.out hb); replace HB := AM_ (below_step (BT HB.out) hb); (try clear hb); (try clear hb2); (try clear hk); (try clear hi)))
  go_ret
  exact QT (BT HB.out)
 rw [if_neg c17] at H
 have c17b0 : (a0_0 == 2) = false := beq_eq_false_iff_ne.mpr c17
 have c17b1 : (a0_0 != 2) = true := bne_iff_ne.mpr c17
 by_cases c29 : a0_0 = 3
 ·rw [if_pos c29] at H
  have c29b0 : (a0_0 == 3) = true := beq_iff_eq.mpr c29
  have c29b1 : (a0_0 != 3) = false := bne_eq_false_iff_eq.mpr c29
  clear c29
  by_cases c30 : 1 + t305.size ≤ 9223372036854775807
  rotate_left
  ·rw [if_neg c30] at H
   exact absurd H (by simp)
  rw [if_pos c30] at H
  have c30b0 := eq_true c30
  have c30b1 : decide (1 + t305.size ≤ 9223372036854775807) = true := decide_eq_true c30
  try have c30b2 : (9223372036854775807 < 1 + t305.size) = False := eq_false (Nat.not_lt.2 c30)
  by_cases c31 : ((⟨#[119]⟩ : ByteArray) ++ t305).size + 1 ≤ 9223372036854775807
  rotate_left
  ·rw [if_neg c31] at H
   exact absurd H (by simp)
  rw [if_pos c31] at H
  have c31b0 := eq_true c31
  have c31b1 : decide (((⟨#[119]⟩ : ByteArray) ++ t305).size + 1 ≤ 9223372036854775807) = true := decide_eq_true c31
  try have c31b2 : (9223372036854775807 < ((⟨#[119]⟩ : ByteArray) ++ t305).size + 1) = False := eq_false (Nat.not_lt.2 c31)
  try have c31b3 : (9223372036854775807 < 1 + t305.size + 1) = False := by have h_ := c31; simp only [ByteArray.size_append] at h_; exact eq_false (Nat.not_lt.2 h_)
  replace H := Option.bind_eq_some_iff.mp H
  obtain ⟨t308, A320, H⟩ := H
  replace H : (if (((⟨#[119]⟩ : ByteArray) ++ t305) ++ (⟨#[32]⟩ : ByteArray)).size + t308.size ≤ 9223372036854775807 then (if ((((⟨#[119]⟩ : ByteArray) ++ t305) ++ (⟨#[32]⟩ : ByteArray)) ++ t308).size + 1 ≤ 9223372036854775807 then ((spec_l3Value.f k a0_5).bind fun t309 => (if (((((⟨#[119]⟩ : ByteArray) ++ t305) ++ (⟨#[32]⟩ : ByteArray)) ++ t308) ++ (⟨#[32]⟩ : ByteArray)).size + t309.size ≤ 9223372036854775807 then (some ((((((⟨#[119]⟩ : ByteArray) ++ t305) ++ (⟨#[32]⟩ : ByteArray)) ++ t308) ++ (⟨#[32]⟩ : ByteArray)) ++ t309)) else (none))) else (none)) else (none)) = some r := H
  have A32 := AM_ A320
  clear A320
  by_cases c33 : (((⟨#[119]⟩ : ByteArray) ++ t305) ++ (⟨#[32]⟩ : ByteArray)).size + t308.size ≤ 9223372036854775807
  rotate_left
  ·rw [if_neg c33] at H
   exact absurd H (by simp)
  rw [if_pos c33] at H
  have c33b0 := eq_true c33
  have c33b1 : decide ((((⟨#[119]⟩ : ByteArray) ++ t305) ++ (⟨#[32]⟩ : ByteArray)).size + t308.size ≤ 9223372036854775807) = true := decide_eq_true c33
  try have c33b2 : (9223372036854775807 < (((⟨#[119]⟩ : ByteArray) ++ t305) ++ (⟨#[32]⟩ : ByteArray)).size + t308.size) = False := eq_false (Nat.not_lt.2 c33)
  try have c33b3 : (9223372036854775807 < 1 + t305.size + 1 + t308.size) = False := by have h_ := c33; simp only [ByteArray.size_append] at h_; exact eq_false (Nat.not_lt.2 h_)
  by_cases c34 : ((((⟨#[119]⟩ : ByteArray) ++ t305) ++ (⟨#[32]⟩ : ByteArray)) ++ t308).size + 1 ≤ 9223372036854775807
  rotate_left
  ·rw [if_neg c34] at H
   exact absurd H (by simp)
  rw [if_pos c34] at H
  have c34b0 := eq_true c34
  have c34b1 : decide (((((⟨#[119]⟩ : ByteArray) ++ t305) ++ (⟨#[32]⟩ : ByteArray)) ++ t308).size + 1 ≤ 9223372036854775807) = true := decide_eq_true c34
  try have c34b2 : (9223372036854775807 < ((((⟨#[119]⟩ : ByteArray) ++ t305) ++ (⟨#[32]⟩ : ByteArray)) ++ t308).size + 1) = False := eq_false (Nat.not_lt.2 c34)
  try have c34b3 : (9223372036854775807 < 1 + t305.size + 1 + t308.size + 1) = False := by have h_ := c34; simp only [ByteArray.size_append] at h_; exact eq_false (Nat.not_lt.2 h_)
  replace H := Option.bind_eq_some_iff.mp H
  obtain ⟨t309, A350, H⟩ := H
  replace H : (if (((((⟨#[119]⟩ : ByteArray) ++ t305) ++ (⟨#[32]⟩ : ByteArray)) ++ t308) ++ (⟨#[32]⟩ : ByteArray)).size + t309.size ≤ 9223372036854775807 then (some ((((((⟨#[119]⟩ : ByteArray) ++ t305) ++ (⟨#[32]⟩ : ByteArray)) ++ t308) ++ (⟨#[32]⟩ : ByteArray)) ++ t309)) else (none)) = some r := H
  have A35 := AM_ A350
  clear A350
  by_cases c36 : (((((⟨#[119]⟩ : ByteArray) ++ t305) ++ (⟨#[32]⟩ : ByteArray)) ++ t308) ++ (⟨#[32]⟩ : ByteArray)).size + t309.size ≤ 9223372036854775807
  rotate_left
  ·rw [if_neg c36] at H
   exact absurd H (by simp)
  rw [if_pos c36] at H
  have c36b0 := eq_true c36
  have c36b1 : decide ((((((⟨#[119]⟩ : ByteArray) ++ t305) ++ (⟨#[32]⟩ : ByteArray)) ++ t308) ++ (⟨#[32]⟩ : ByteArray)).size + t309.size ≤ 9223372036854775807) = true := decide_eq_true c36
  try have c36b2 : (9223372036854775807 < (((((⟨#[119]⟩ : ByteArray) ++ t305) ++ (⟨#[32]⟩ : ByteArray)) ++ t308) ++ (⟨#[32]⟩ : ByteArray)).size + t309.size) = False := eq_false (Nat.not_lt.2 c36)
  try have c36b3 : (9223372036854775807 < 1 + t305.size + 1 + t308.size + 1 + t309.size) = False := by have h_ := c36; simp only [ByteArray.size_append] at h_; exact eq_false (Nat.not_lt.2 h_)
  obtain rfl := Option.some.inj H
  go_enter Tryd.func8, Tryd.ntmps8
  try go_wp2_with (first | ((with_reducible refine gate_dst (N := 1) rfl ?_); refine box_event ?hg (N := 1) ?hd (cs := #[.int .i64 a0_0, .int .i64 a0_1, .int .i64 a0_2, .int .i64 a0_3, .int .i64 a0_4, .int .i64 a0_5]) (t := 25) ?hr ?_; (case hd => rfl); (case hg => rfl); (case hr => first | (go_simp; done) | (go_simp; rfl)); intro gb303 hg w37 hbox hb; have BK303 := AM_ (hbox); have GW303 := AM_ ((GS HB.out hg)); have GE303 := AM_ ((GS HB.out hg)); replace HB := AM_ (below_step (BT HB.out) hb); clear hb hbox hg; obtain ⟨hcz38_0, hcz38_1, hcz38_2, hcz38_3, hcz38_4, hcz38_5, hfz38_0, hfz38_1, hfz38_2, hfz38_3, hfz38_4, hfz38_5⟩ := bk6 BK303.out) | ((with_reducible refine gate_callee (f := 9) rfl ?_); refine goesL_ (some 5) rfl rfl Tryd.func9 (by kernel_rfl) rfl #[.agg #[.int .i64 a0_0, .int .i64 a0_1, .int .i64 a0_2, .int .i64 a0_3, .int .i64 a0_4, .int .i64 a0_5]] rfl (by (try simp only [List.map_toArray, List.map_cons, List.map_nil]); first | done | rfl | (simp only [List.length_drop, List.length_take]; rfl)) ?_; (with_reducible refine (spec_IsValidOp.calls k a0_0 a0_1 a0_2 a0_3 a0_4 a0_5 true _ A2.out).mono ?_); rintro e w39 ⟨rfl, hb⟩; refine ⟨_, rfl, ?_⟩; replace BK303 := AM_ (BB BK303.out hb); replace HB := AM_ (below_step (BT HB.out) hb); (try clear hb); (try clear hb2); (try clear hk); (try clear hi); obtain ⟨hcz40_0, hcz40_1, hcz40_2, hcz40_3, hcz40_4, hcz40_5, hfz40_0, hfz40_1, hfz40_2, hfz40_3, hfz40_4, hfz40_5⟩ := bk6 BK303.out) | ((with_reducible refine gate_callee (f := 25) rfl ?_); refine goesL_ (some 9) rfl rfl Tryd.func25 (by kernel_rfl) rfl #[.int .i64 a0_1] rfl (by (try simp only [List.map_toArray, List.map_cons, List.map_nil]); first | done | rfl | (simp only [List.length_drop, List.length_take]; rfl)) ?_; (with_reducible refine (spec_FormatInt.calls k a0_1 t305 _ A4.out).mono ?_); rintro e w41 ⟨rfl, hb⟩; refine ⟨_, rfl, ?_⟩; replace BK303 := AM_ (BB BK303.out hb); replace HB := AM_ (below_step (BT HB.out) hb); (try clear hb); (try clear hb2); (try clear hk); (try clear hi); obtain ⟨hcz42_0, hcz42_1, hcz42_2, hcz42_3, hcz42_4, hcz42_5, hfz42_0, hfz42_1, hfz42_2, hfz42_3, hfz42_4, hfz42_5⟩ := bk6 BK303.out))
  replace BK303 := AM_ (blk_drew BK303.out)
  replace HB := AM_ (below_drew1 HB.out)
  refine start_ (n := 13) (S := fun w' => w'.cell? ⟨gb303, 0, none⟩ = some (.int .i64 a0_0) ∧ w'.cell? ⟨gb303, 1, none⟩ = some (.int .i64 a0_1) ∧ w'.cell? ⟨gb303, 2, none⟩ = some (.int .i64 a0_2) ∧ w'.cell? ⟨gb303, 3, none⟩ = some (.int .i64 a0_3) ∧ w'.cell? ⟨gb303, 4, none⟩ = some (.int .i64 a0_4) ∧ w'.cell? ⟨gb303, 5, none⟩ = some (.int .i64 a0_5)) (ds := []) (bs 0 13) (by kernel_rfl) rfl rfl ⟨bc BK303.out 0, bc BK303.out 1, bc BK303.out 2, bc BK303.out 3, bc BK303.out 4, bc BK303.out 5⟩ (fun hHeld => ?_); refine with_tabW spec_FormatOp.tab10 spec_FormatOp.bits10 (fun HT_ HW_ => ?_)
  generalize w41.drew = w43 at BK303 HB hHeld ⊢
  refine pu (i := 0) (N := some 32) (v := ?_) (a' := ?_) (bs 1 13) rfl rfl HT_ ?_ ?_ ?_
  rotate_left
  ·intro w'
   go_simp
   with_reducible rfl
  rotate_left
  ·simp only [pA, pS, pZ, pK, i64_w, i32_w]
   rfl
  refine pu (i := 1) (N := some 33) (v := ?_) (a' := ?_) (bs 3 13) rfl rfl HT_ ?_ ?_ ?_
  rotate_left
  ·intro w'
   go_simp
   with_reducible rfl
  rotate_left
  ·simp only [pA, pS, pZ, pK, i64_w, i32_w]
   rfl
  refine pu (i := 2) (N := some 34) (v := ?_) (a' := ?_) (bs 7 13) rfl rfl HT_ ?_ ?_ ?_
  rotate_left
  ·intro w'
   go_simp
   with_reducible rfl
  rotate_left
  ·simp only [pA, pS, pZ, pK, i64_w, i32_w]
   rfl
  refine pu (i := 3) (N := some 35) (v := ?_) (a' := ?_) (bs 15 13) rfl rfl HT_ ?_ ?_ ?_
  rotate_left
  ·intro w'
   go_simp
   with_reducible rfl
  rotate_left
  ·simp only [pA, pS, pZ, pK, i64_w, i32_w]
   rfl
  refine pu (i := 8) (N := some 40) (v := ?_) (a' := ?_) (bs 271 13) rfl rfl HT_ ?_ ?_ ?_
  rotate_left
  ·intro w'
   go_simp
   with_reducible rfl
  rotate_left
  ·simp only [pA, pS, pZ, pK, i64_w, i32_w]
   rfl
  refine tk (i := 4) (N := some 36) (v := ?_) (a' := ?_) (bs 287 13) rfl rfl HT_ HW_ ?_ hHeld ?_ ?_
  rotate_left
  ·rintro w' ⟨s0, s1, s2, s3, s4, s5⟩
   go_simp
   with_reducible rfl
  rotate_left
  ·simp only [pA, pS, pZ, pK, i64_w, i32_w]
   rfl
  refine tk (i := 9) (N := some 41) (v := ?_) (a' := ?_) (bs 799 13) rfl rfl HT_ HW_ ?_ hHeld ?_ ?_
  rotate_left
  ·rintro w' ⟨s0, s1, s2, s3, s4, s5⟩
   go_simp
   with_reducible rfl
  rotate_left
  ·simp only [pA, pS, pZ, pK, i64_w, i32_w]
   rfl
  refine one_ (i := 5) (N := some 37) (bs 831 13) rfl rfl (one_of HT_.out (by kernel_rfl)) (by decide) (fun K hK => ?_)
  refine goes_ Tryd.func25 (by kernel_rfl) rfl #[.int .i64 a0_3] (by rfl) rfl rfl (by (try simp only [List.map_toArray, List.map_cons, List.map_nil]); first | done | rfl | (simp only [List.length_drop, List.length_take]; rfl)) ?_
  with_reducible refine (spec_FormatInt.calls k a0_3 t308 _ A32.out).mono ?_
  rintro e w44 ⟨rfl, hb⟩
  refine ⟨_, rfl, ?_⟩
  replace BK303 := AM_ (BB BK303.out hb)
  replace HB := AM_ (below_step (BT HB.out) hb)
  (try clear hb)
  (try clear hb2)
  (try clear hk)
  (try clear hi)
  refine hK.out _ _ ⟨bc BK303.out 0, bc BK303.out 1, bc BK303.out 2, bc BK303.out 3, bc BK303.out 4, bc BK303.out 5⟩ (fun hHeld => ?_)
  clear hK K
  refine norm_ (a' := ?_) ?_ ?_
  rotate_left
  ·show Act.put _ (some 37) _ = _
   simp only [pA, pS, pZ, pK, i64_w, i32_w]
   rfl
  refine pu (i := 6) (N := some 38) (v := ?_) (a' := ?_) (bs 895 13) rfl rfl HT_ ?_ ?_ ?_
  rotate_left
  ·intro w'
   go_simp
   with_reducible rfl
  rotate_left
  ·simp only [pA, pS, pZ, pK, i64_w, i32_w]
   rfl
  refine pu (i := 7) (N := some 39) (v := ?_) (a' := ?_) (bs 1023 13) rfl rfl HT_ ?_ ?_ ?_
  rotate_left
  ·intro w'
   go_simp
   with_reducible rfl
  rotate_left
  ·simp only [pA, pS, pZ, pK, i64_w, i32_w]
   rfl
  refine one_ (i := 10) (N := some 42) (bs 2047 13) rfl rfl (one_of HT_.out (by kernel_rfl)) (by decide) (fun K hK => ?_)
  refine goes_ Tryd.func27 (by kernel_rfl) rfl #[.int .i64 a0_5] (by rfl) rfl rfl (by (try simp only [List.map_toArray, List.map_cons, List.map_nil]); first | done | rfl | (simp only [List.length_drop, List.length_take]; rfl)) ?_
  with_reducible refine (spec_l3Value.calls k a0_5 t309 _ A35.out).mono ?_
  rintro e w45 ⟨rfl, hb⟩
  refine ⟨_, rfl, ?_⟩
  replace BK303 := AM_ (BB BK303.out hb)
  replace HB := AM_ (below_step (BT HB.out) hb)
  (try clear hb)
  (try clear hb2)
  (try clear hk)
  (try clear hi)
  refine hK.out _ _ ⟨bc BK303.out 0, bc BK303.out 1, bc BK303.out 2, bc BK303.out 3, bc BK303.out 4, bc BK303.out 5⟩ (fun hHeld => ?_)
  clear hK K
  refine norm_ (a' := ?_) ?_ ?_
  rotate_left
  ·show Act.put _ (some 42) _ = _
   simp only [pA, pS, pZ, pK, i64_w, i32_w]
   rfl
  refine pu (i := 11) (N := some 43) (v := ?_) (a' := ?_) (bs 4095 13) rfl rfl HT_ ?_ ?_ ?_
  rotate_left
  ·intro w'
   go_simp
   with_reducible rfl
  rotate_left
  ·simp only [pA, pS, pZ, pK, i64_w, i32_w]
   rfl
  refine pu (i := 12) (N := some 2) (v := ?_) (a' := ?_) (bs 8191 13) rfl rfl HT_ ?_ ?_ ?_
  rotate_left
  ·intro w'
   go_simp
   with_reducible rfl
  rotate_left
  ·simp only [pA, pS, pZ, pK, i64_w, i32_w]
   rfl
  refine done_ (done_of HT_.out (by kernel_rfl)) ?_
  try go_wp2
  go_ret
  exact QT (BT HB.out)
 rw [if_neg c29] at H
 have c29b0 : (a0_0 == 3) = false := beq_eq_false_iff_ne.mpr c29
 have c29b1 : (a0_0 != 3) = true := bne_iff_ne.mpr c29
 by_cases c46 : a0_0 = 4
 rotate_left
 ·rw [if_neg c46] at H
  have c46b0 : (a0_0 == 4) = false := beq_eq_false_iff_ne.mpr c46
  have c46b1 : (a0_0 != 4) = true := bne_iff_ne.mpr c46
  by_cases c63 : a0_0 = 5
  rotate_left
  ·rw [if_neg c63] at H
   have c63b0 : (a0_0 == 5) = false := beq_eq_false_iff_ne.mpr c63
   have c63b1 : (a0_0 != 5) = true := bne_iff_ne.mpr c63
   by_cases c71 : 1 + t305.size ≤ 9223372036854775807
   rotate_left
   ·rw [if_neg c71] at H
    exact absurd H (by simp)
   rw [if_pos c71] at H
   have c71b0 := eq_true c71
   have c71b1 : decide (1 + t305.size ≤ 9223372036854775807) = true := decide_eq_true c71
   try have c71b2 : (9223372036854775807 < 1 + t305.size) = False := eq_false (Nat.not_lt.2 c71)
   obtain rfl := Option.some.inj H
   go_enter Tryd.func8, Tryd.ntmps8
   go_wp2_with (first | ((with_reducible refine gate_dst (N := 1) rfl ?_); refine box_event ?hg (N := 1) ?hd (cs := #[.int .i64 a0_0, .int .i64 a0_1, .int .i64 a0_2, .int .i64 a0_3, .int .i64 a0_4, .int .i64 a0_5]) (t := 25) ?hr ?_; (case hd => rfl); (case hg => rfl); (case hr => first | (go_simp; done) | (go_simp; rfl)); intro gb303 hg w72 hbox hb; have BK303 := AM_ (hbox); have GW303 := AM_ ((GS HB.out hg)); have GE303 := AM_ ((GS HB.out hg)); replace HB := AM_ (below_step (BT HB.out) hb); clear hb hbox hg; obtain ⟨hcz73_0, hcz73_1, hcz73_2, hcz73_3, hcz73_4, hcz73_5, hfz73_0, hfz73_1, hfz73_2, hfz73_3, hfz73_4, hfz73_5⟩ := bk6 BK303.out) | ((with_reducible refine gate_callee (f := 9) rfl ?_); refine goesL_ (some 5) rfl rfl Tryd.func9 (by kernel_rfl) rfl #[.agg #[.int .i64 a0_0, .int .i64 a0_1, .int .i64 a0_2, .int .i64 a0_3, .int .i64 a0_4, .int .i64 a0_5]] rfl (by (try simp only [List.map_toArray, List.map_cons, List.map_nil]); first | done | rfl | (simp only [List.length_drop, List.length_take]; rfl)) ?_; (with_reducible refine (spec_IsValidOp.calls k a0_0 a0_1 a0_2 a0_3 a0_4 a0_5 true _ A2.out).mono ?_); rintro e w74 ⟨rfl, hb⟩; refine ⟨_, rfl, ?_⟩; replace BK303 := AM_ (BB BK303.out hb); replace HB := AM_ (below_step (BT HB.out) hb); (try clear hb); (try clear hb2); (try clear hk); (try clear hi); obtain ⟨hcz75_0, hcz75_1, hcz75_2, hcz75_3, hcz75_4, hcz75_5, hfz75_0, hfz75_1, hfz75_2, hfz75_3, hfz75_4, hfz75_5⟩ := bk6 BK303.out) | ((with_reducible refine gate_callee (f := 25) rfl ?_); refine goesL_ (some 9) rfl rfl Tryd.func25 (by kernel_rfl) rfl #[.int .i64 a0_1] rfl (by (try simp only [List.map_toArray, List.map_cons, List.map_nil]); first | done | rfl | (simp only [List.length_drop, List.length_take]; rfl)) ?_; (with_reducible refine (spec_FormatInt.calls k a0_1 t305 _ A4.out).mono ?_); rintro e w76 ⟨rfl, hb⟩; refine ⟨_, rfl, ?_⟩; replace BK303 := AM_ (BB BK303.out hb); replace HB := AM_ (below_step (BT HB.out) hb); (try clear hb); (try clear hb2); (try clear hk); (try clear hi); obtain ⟨hcz77_0, hcz77_1, hcz77_2, hcz77_3, hcz77_4, hcz77_5, hfz77_0, hfz77_1, hfz77_2, hfz77_3, hfz77_4, hfz77_5⟩ := bk6 BK303.out))
   go_ret
   exact QT (BT HB.out)
  rw [if_pos c63] at H
  have c63b0 : (a0_0 == 5) = true := beq_iff_eq.mpr c63
  have c63b1 : (a0_0 != 5) = false := bne_eq_false_iff_eq.mpr c63
  clear c63
  by_cases c64 : 1 + t305.size ≤ 9223372036854775807
  rotate_left
  ·rw [if_neg c64] at H
   exact absurd H (by simp)
  rw [if_pos c64] at H
  have c64b0 := eq_true c64
  have c64b1 : decide (1 + t305.size ≤ 9223372036854775807) = true := decide_eq_true c64
  try have c64b2 : (9223372036854775807 < 1 + t305.size) = False := eq_false (Nat.not_lt.2 c64)
  obtain rfl := Option.some.inj H
  go_enter Tryd.func8, Tryd.ntmps8
  go_wp2_with (first | ((with_reducible refine gate_dst (N := 1) rfl ?_); refine box_event ?hg (N := 1) ?hd (cs := #[.int .i64 a0_0, .int .i64 a0_1, .int .i64 a0_2, .int .i64 a0_3, .int .i64 a0_4, .int .i64 a0_5]) (t := 25) ?hr ?_; (case hd => rfl); (case hg => rfl); (case hr => first | (go_simp; done) | (go_simp; rfl)); intro gb303 hg w65 hbox hb; have BK303 := AM_ (hbox); have GW303 := AM_ ((GS HB.out hg)); have GE303 := AM_ ((GS HB.out hg)); replace HB := AM_ (below_step (BT HB.out) hb); clear hb hbox hg; obtain ⟨hcz66_0, hcz66_1, hcz66_2, hcz66_3, hcz66_4, hcz66_5, hfz66_0, hfz66_1, hfz66_2, hfz66_3, hfz66_4, hfz66_5⟩ := bk6 BK303.out) | ((with_reducible refine gate_callee (f := 9) rfl ?_); refine goesL_ (some 5) rfl rfl Tryd.func9 (by kernel_rfl) rfl #[.agg #[.int .i64 a0_0, .int .i64 a0_1, .int .i64 a0_2, .int .i64 a0_3, .int .i64 a0_4, .int .i64 a0_5]] rfl (by (try simp only [List.map_toArray, List.map_cons, List.map_nil]); first | done | rfl | (simp only [List.length_drop, List.length_take]; rfl)) ?_; (with_reducible refine (spec_IsValidOp.calls k a0_0 a0_1 a0_2 a0_3 a0_4 a0_5 true _ A2.out).mono ?_); rintro e w67 ⟨rfl, hb⟩; refine ⟨_, rfl, ?_⟩; replace BK303 := AM_ (BB BK303.out hb); replace HB := AM_ (below_step (BT HB.out) hb); (try clear hb); (try clear hb2); (try clear hk); (try clear hi); obtain ⟨hcz68_0, hcz68_1, hcz68_2, hcz68_3, hcz68_4, hcz68_5, hfz68_0, hfz68_1, hfz68_2, hfz68_3, hfz68_4, hfz68_5⟩ := bk6 BK303.out) | ((with_reducible refine gate_callee (f := 25) rfl ?_); refine goesL_ (some 9) rfl rfl Tryd.func25 (by kernel_rfl) rfl #[.int .i64 a0_1] rfl (by (try simp only [List.map_toArray, List.map_cons, List.map_nil]); first | done | rfl | (simp only [List.length_drop, List.length_take]; rfl)) ?_; (with_reducible refine (spec_FormatInt.calls k a0_1 t305 _ A4.out).mono ?_); rintro e w69 ⟨rfl, hb⟩; refine ⟨_, rfl, ?_⟩; replace BK303 := AM_ (BB BK303.out hb); replace HB := AM_ (below_step (BT HB.out) hb); (try clear hb); (try clear hb2); (try clear hk); (try clear hi); obtain ⟨hcz70_0, hcz70_1, hcz70_2, hcz70_3, hcz70_4, hcz70_5, hfz70_0, hfz70_1, hfz70_2, hfz70_3, hfz70_4, hfz70_5⟩ := bk6 BK303.out))
  go_ret
  exact QT (BT HB.out)
 rw [if_pos c46] at H
 have c46b0 : (a0_0 == 4) = true := beq_iff_eq.mpr c46
 have c46b1 : (a0_0 != 4) = false := bne_eq_false_iff_eq.mpr c46
 clear c46
 by_cases c47 : 1 + t305.size ≤ 9223372036854775807
 rotate_left
 ·rw [if_neg c47] at H
  exact absurd H (by simp)
 rw [if_pos c47] at H
 have c47b0 := eq_true c47
 have c47b1 : decide (1 + t305.size ≤ 9223372036854775807) = true := decide_eq_true c47
 try have c47b2 : (9223372036854775807 < 1 + t305.size) = False := eq_false (Nat.not_lt.2 c47)
 by_cases c48 : ((⟨#[115]⟩ : ByteArray) ++ t305).size + 1 ≤ 9223372036854775807
 rotate_left
 ·rw [if_neg c48] at H
  exact absurd H (by simp)
 rw [if_pos c48] at H
 have c48b0 := eq_true c48
 have c48b1 : decide (((⟨#[115]⟩ : ByteArray) ++ t305).size + 1 ≤ 9223372036854775807) = true := decide_eq_true c48
 try have c48b2 : (9223372036854775807 < ((⟨#[115]⟩ : ByteArray) ++ t305).size + 1) = False := eq_false (Nat.not_lt.2 c48)
 try have c48b3 : (9223372036854775807 < 1 + t305.size + 1) = False := by have h_ := c48; simp only [ByteArray.size_append] at h_; exact eq_false (Nat.not_lt.2 h_)
 replace H := Option.bind_eq_some_iff.mp H
 obtain ⟨t310, A490, H⟩ := H
 replace H : (if (((⟨#[115]⟩ : ByteArray) ++ t305) ++ (⟨#[32]⟩ : ByteArray)).size + t310.size ≤ 9223372036854775807 then (if ((((⟨#[115]⟩ : ByteArray) ++ t305) ++ (⟨#[32]⟩ : ByteArray)) ++ t310).size + 1 ≤ 9223372036854775807 then ((spec_FormatInt.f k a0_4).bind fun t311 => (if (((((⟨#[115]⟩ : ByteArray) ++ t305) ++ (⟨#[32]⟩ : ByteArray)) ++ t310) ++ (⟨#[32]⟩ : ByteArray)).size + t311.size ≤ 9223372036854775807 then (some ((((((⟨#[115]⟩ : ByteArray) ++ t305) ++ (⟨#[32]⟩ : ByteArray)) ++ t310) ++ (⟨#[32]⟩ : ByteArray)) ++ t311)) else (none))) else (none)) else (none)) = some r := H
 have A49 := AM_ A490
 clear A490
 by_cases c50 : (((⟨#[115]⟩ : ByteArray) ++ t305) ++ (⟨#[32]⟩ : ByteArray)).size + t310.size ≤ 9223372036854775807
 rotate_left
 ·rw [if_neg c50] at H
  exact absurd H (by simp)
 rw [if_pos c50] at H
 have c50b0 := eq_true c50
 have c50b1 : decide ((((⟨#[115]⟩ : ByteArray) ++ t305) ++ (⟨#[32]⟩ : ByteArray)).size + t310.size ≤ 9223372036854775807) = true := decide_eq_true c50
 try have c50b2 : (9223372036854775807 < (((⟨#[115]⟩ : ByteArray) ++ t305) ++ (⟨#[32]⟩ : ByteArray)).size + t310.size) = False := eq_false (Nat.not_lt.2 c50)
 try have c50b3 : (9223372036854775807 < 1 + t305.size + 1 + t310.size) = False := by have h_ := c50; simp only [ByteArray.size_append] at h_; exact eq_false (Nat.not_lt.2 h_)
 by_cases c51 : ((((⟨#[115]⟩ : ByteArray) ++ t305) ++ (⟨#[32]⟩ : ByteArray)) ++ t310).size + 1 ≤ 9223372036854775807
 rotate_left
 ·rw [if_neg c51] at H
  exact absurd H (by simp)
 rw [if_pos c51] at H
 have c51b0 := eq_true c51
 have c51b1 : decide (((((⟨#[115]⟩ : ByteArray) ++ t305) ++ (⟨#[32]⟩ : ByteArray)) ++ t310).size + 1 ≤ 9223372036854775807) = true := decide_eq_true c51
 try have c51b2 : (9223372036854775807 < ((((⟨#[115]⟩ : ByteArray) ++ t305) ++ (⟨#[32]⟩ : ByteArray)) ++ t310).size + 1) = False := eq_false (Nat.not_lt.2 c51)
 try have c51b3 : (9223372036854775807 < 1 + t305.size + 1 + t310.size + 1) = False := by have h_ := c51; simp only [ByteArray.size_append] at h_; exact eq_false (Nat.not_lt.2 h_)
 replace H := Option.bind_eq_some_iff.mp H
 obtain ⟨t311, A520, H⟩ := H
 replace H : (if (((((⟨#[115]⟩ : ByteArray) ++ t305) ++ (⟨#[32]⟩ : ByteArray)) ++ t310) ++ (⟨#[32]⟩ : ByteArray)).size + t311.size ≤ 9223372036854775807 then (some ((((((⟨#[115]⟩ : ByteArray) ++ t305) ++ (⟨#[32]⟩ : ByteArray)) ++ t310) ++ (⟨#[32]⟩ : ByteArray)) ++ t311)) else (none)) = some r := H
 have A52 := AM_ A520
 clear A520
 by_cases c53 : (((((⟨#[115]⟩ : ByteArray) ++ t305) ++ (⟨#[32]⟩ : ByteArray)) ++ t310) ++ (⟨#[32]⟩ : ByteArray)).size + t311.size ≤ 9223372036854775807
 rotate_left
 ·rw [if_neg c53] at H
  exact absurd H (by simp)
 rw [if_pos c53] at H
 have c53b0 := eq_true c53
 have c53b1 : decide ((((((⟨#[115]⟩ : ByteArray) ++ t305) ++ (⟨#[32]⟩ : ByteArray)) ++ t310) ++ (⟨#[32]⟩ : ByteArray)).size + t311.size ≤ 9223372036854775807) = true := decide_eq_true c53
 try have c53b2 : (9223372036854775807 < (((((⟨#[115]⟩ : ByteArray) ++ t305) ++ (⟨#[32]⟩ : ByteArray)) ++ t310) ++ (⟨#[32]⟩ : ByteArray)).size + t311.size) = False := eq_false (Nat.not_lt.2 c53)
 try have c53b3 : (9223372036854775807 < 1 + t305.size + 1 + t310.size + 1 + t311.size) = False := by have h_ := c53; simp only [ByteArray.size_append] at h_; exact eq_false (Nat.not_lt.2 h_)
 obtain rfl := Option.some.inj H
 go_enter Tryd.func8, Tryd.ntmps8
 try go_wp2_with (first | ((with_reducible refine gate_dst (N := 1) rfl ?_); refine box_event ?hg (N := 1) ?hd (cs := #[.int .i64 a0_0, .int .i64 a0_1, .int .i64 a0_2, .int .i64 a0_3, .int .i64 a0_4, .int .i64 a0_5]) (t := 25) ?hr ?_; (case hd => rfl); (case hg => rfl); (case hr => first | (go_simp; done) | (go_simp; rfl)); intro gb303 hg w54 hbox hb; have BK303 := AM_ (hbox); have GW303 := AM_ ((GS HB.out hg)); have GE303 := AM_ ((GS HB.out hg)); replace HB := AM_ (below_step (BT HB.out) hb); clear hb hbox hg; obtain ⟨hcz55_0, hcz55_1, hcz55_2, hcz55_3, hcz55_4, hcz55_5, hfz55_0, hfz55_1, hfz55_2, hfz55_3, hfz55_4, hfz55_5⟩ := bk6 BK303.out) | ((with_reducible refine gate_callee (f := 9) rfl ?_); refine goesL_ (some 5) rfl rfl Tryd.func9 (by kernel_rfl) rfl #[.agg #[.int .i64 a0_0, .int .i64 a0_1, .int .i64 a0_2, .int .i64 a0_3, .int .i64 a0_4, .int .i64 a0_5]] rfl (by (try simp only [List.map_toArray, List.map_cons, List.map_nil]); first | done | rfl | (simp only [List.length_drop, List.length_take]; rfl)) ?_; (with_reducible refine (spec_IsValidOp.calls k a0_0 a0_1 a0_2 a0_3 a0_4 a0_5 true _ A2.out).mono ?_); rintro e w56 ⟨rfl, hb⟩; refine ⟨_, rfl, ?_⟩; replace BK303 := AM_ (BB BK303.out hb); replace HB := AM_ (below_step (BT HB.out) hb); (try clear hb); (try clear hb2); (try clear hk); (try clear hi); obtain ⟨hcz57_0, hcz57_1, hcz57_2, hcz57_3, hcz57_4, hcz57_5, hfz57_0, hfz57_1, hfz57_2, hfz57_3, hfz57_4, hfz57_5⟩ := bk6 BK303.out) | ((with_reducible refine gate_callee (f := 25) rfl ?_); refine goesL_ (some 9) rfl rfl Tryd.func25 (by kernel_rfl) rfl #[.int .i64 a0_1] rfl (by (try simp only [List.map_toArray, List.map_cons, List.map_nil]); first | done | rfl | (simp only [List.length_drop, List.length_take]; rfl)) ?_; (with_reducible refine (spec_FormatInt.calls k a0_1 t305 _ A4.out).mono ?_); rintro e w58 ⟨rfl, hb⟩; refine ⟨_, rfl, ?_⟩; replace BK303 := AM_ (BB BK303.out hb); replace HB := AM_ (below_step (BT HB.out) hb); (try clear hb); (try clear hb2); (try clear hk); (try clear hi); obtain ⟨hcz59_0, hcz59_1, hcz59_2, hcz59_3, hcz59_4, hcz59_5, hfz59_0, hfz59_1, hfz59_2, hfz59_3, hfz59_4, hfz59_5⟩ := bk6 BK303.out))
 replace BK303 := AM_ (blk_drew BK303.out)
 replace HB := AM_ (below_drew1 HB.out)
 refine start_ (n := 13) (S := fun w' => w'.cell? ⟨gb303, 0, none⟩ = some (.int .i64 a0_0) ∧ w'.cell? ⟨gb303, 1, none⟩ = some (.int .i64 a0_1) ∧ w'.cell? ⟨gb303, 2, none⟩ = some (.int .i64 a0_2) ∧ w'.cell? ⟨gb303, 3, none⟩ = some (.int .i64 a0_3) ∧ w'.cell? ⟨gb303, 4, none⟩ = some (.int .i64 a0_4) ∧ w'.cell? ⟨gb303, 5, none⟩ = some (.int .i64 a0_5)) (ds := []) (bs 0 13) (by kernel_rfl) rfl rfl ⟨bc BK303.out 0, bc BK303.out 1, bc BK303.out 2, bc BK303.out 3, bc BK303.out 4, bc BK303.out 5⟩ (fun hHeld => ?_); refine with_tabW spec_FormatOp.tab12 spec_FormatOp.bits12 (fun HT_ HW_ => ?_)
 generalize w58.drew = w60 at BK303 HB hHeld ⊢
 refine pu (i := 0) (N := some 46) (v := ?_) (a' := ?_) (bs 1 13) rfl rfl HT_ ?_ ?_ ?_
 rotate_left
 ·intro w'
  go_simp
  with_reducible rfl
 rotate_left
 ·simp only [pA, pS, pZ, pK, i64_w, i32_w]
  rfl
 refine pu (i := 1) (N := some 47) (v := ?_) (a' := ?_) (bs 3 13) rfl rfl HT_ ?_ ?_ ?_
 rotate_left
 ·intro w'
  go_simp
  with_reducible rfl
 rotate_left
 ·simp only [pA, pS, pZ, pK, i64_w, i32_w]
  rfl
 refine pu (i := 2) (N := some 48) (v := ?_) (a' := ?_) (bs 7 13) rfl rfl HT_ ?_ ?_ ?_
 rotate_left
 ·intro w'
  go_simp
  with_reducible rfl
 rotate_left
 ·simp only [pA, pS, pZ, pK, i64_w, i32_w]
  rfl
 refine pu (i := 3) (N := some 49) (v := ?_) (a' := ?_) (bs 15 13) rfl rfl HT_ ?_ ?_ ?_
 rotate_left
 ·intro w'
  go_simp
  with_reducible rfl
 rotate_left
 ·simp only [pA, pS, pZ, pK, i64_w, i32_w]
  rfl
 refine pu (i := 8) (N := some 54) (v := ?_) (a' := ?_) (bs 271 13) rfl rfl HT_ ?_ ?_ ?_
 rotate_left
 ·intro w'
  go_simp
  with_reducible rfl
 rotate_left
 ·simp only [pA, pS, pZ, pK, i64_w, i32_w]
  rfl
 refine tk (i := 4) (N := some 50) (v := ?_) (a' := ?_) (bs 287 13) rfl rfl HT_ HW_ ?_ hHeld ?_ ?_
 rotate_left
 ·rintro w' ⟨s0, s1, s2, s3, s4, s5⟩
  go_simp
  with_reducible rfl
 rotate_left
 ·simp only [pA, pS, pZ, pK, i64_w, i32_w]
  rfl
 refine tk (i := 9) (N := some 55) (v := ?_) (a' := ?_) (bs 799 13) rfl rfl HT_ HW_ ?_ hHeld ?_ ?_
 rotate_left
 ·rintro w' ⟨s0, s1, s2, s3, s4, s5⟩
  go_simp
  with_reducible rfl
 rotate_left
 ·simp only [pA, pS, pZ, pK, i64_w, i32_w]
  rfl
 refine one_ (i := 5) (N := some 51) (bs 831 13) rfl rfl (one_of HT_.out (by kernel_rfl)) (by decide) (fun K hK => ?_)
 refine goes_ Tryd.func25 (by kernel_rfl) rfl #[.int .i64 a0_3] (by rfl) rfl rfl (by (try simp only [List.map_toArray, List.map_cons, List.map_nil]); first | done | rfl | (simp only [List.length_drop, List.length_take]; rfl)) ?_
 with_reducible refine (spec_FormatInt.calls k a0_3 t310 _ A49.out).mono ?_
 rintro e w61 ⟨rfl, hb⟩
 refine ⟨_, rfl, ?_⟩
 replace BK303 := AM_ (BB BK303.out hb)
 replace HB := AM_ (below_step (BT HB.out) hb)
 (try clear hb)
 (try clear hb2)
 (try clear hk)
 (try clear hi)
 refine hK.out _ _ ⟨bc BK303.out 0, bc BK303.out 1, bc BK303.out 2, bc BK303.out 3, bc BK303.out 4, bc BK303.out 5⟩ (fun hHeld => ?_)
 clear hK K
 refine norm_ (a' := ?_) ?_ ?_
 rotate_left
 ·show Act.put _ (some 51) _ = _
  simp only [pA, pS, pZ, pK, i64_w, i32_w]
  rfl
 refine pu (i := 6) (N := some 52) (v := ?_) (a' := ?_) (bs 895 13) rfl rfl HT_ ?_ ?_ ?_
 rotate_left
 ·intro w'
  go_simp
  with_reducible rfl
 rotate_left
 ·simp only [pA, pS, pZ, pK, i64_w, i32_w]
  rfl
 refine pu (i := 7) (N := some 53) (v := ?_) (a' := ?_) (bs 1023 13) rfl rfl HT_ ?_ ?_ ?_
 rotate_left
 ·intro w'
  go_simp
  with_reducible rfl
 rotate_left
 ·simp only [pA, pS, pZ, pK, i64_w, i32_w]
  rfl
 refine one_ (i := 10) (N := some 56) (bs 2047 13) rfl rfl (one_of HT_.out (by kernel_rfl)) (by decide) (fun K hK => ?_)
 refine goes_ Tryd.func25 (by kernel_rfl) rfl #[.int .i64 a0_4] (by rfl) rfl rfl (by (try simp only [List.map_toArray, List.map_cons, List.map_nil]); first | done | rfl | (simp only [List.length_drop, List.length_take]; rfl)) ?_
 with_reducible refine (spec_FormatInt.calls k a0_4 t311 _ A52.out).mono ?_
 rintro e w62 ⟨rfl, hb⟩
 refine ⟨_, rfl, ?_⟩
 replace BK303 := AM_ (BB BK303.out hb)
 replace HB := AM_ (below_step (BT HB.out) hb)
 (try clear hb)
 (try clear hb2)
 (try clear hk)
 (try clear hi)
 refine hK.out _ _ ⟨bc BK303.out 0, bc BK303.out 1, bc BK303.out 2, bc BK303.out 3, bc BK303.out 4, bc BK303.out 5⟩ (fun hHeld => ?_)
 clear hK K
 refine norm_ (a' := ?_) ?_ ?_
 rotate_left
 ·show Act.put _ (some 56) _ = _
  simp only [pA, pS, pZ, pK, i64_w, i32_w]
  rfl
 refine pu (i := 11) (N := some 57) (v := ?_) (a' := ?_) (bs 4095 13) rfl rfl HT_ ?_ ?_ ?_
 rotate_left
 ·intro w'
  go_simp
  with_reducible rfl
 rotate_left
 ·simp only [pA, pS, pZ, pK, i64_w, i32_w]
  rfl
 refine pu (i := 12) (N := some 2) (v := ?_) (a' := ?_) (bs 8191 13) rfl rfl HT_ ?_ ?_ ?_
 rotate_left
 ·intro w'
  go_simp
  with_reducible rfl
 rotate_left
 ·simp only [pA, pS, pZ, pK, i64_w, i32_w]
  rfl
 refine done_ (done_of HT_.out (by kernel_rfl)) ?_
 try go_wp2
 go_ret
 exact QT (BT HB.out)

end Go.Proofs.YtdfbmaiboadodaaDoor.PFnOps
