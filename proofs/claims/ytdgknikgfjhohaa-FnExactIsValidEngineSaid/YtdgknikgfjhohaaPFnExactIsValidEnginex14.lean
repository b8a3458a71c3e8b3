-- Printed by wip/myprint.py.
import Derived.Test.YtdgknikgfjhohaaPFnExactIsValidEnginex10
namespace Go.Proofs.Ytdgknikgfjhohaa.PFnExactIsValidEngine
open Go.RowKit Go.Proofs.YtdgknikgfjhohaaW.PrintWords Go.Proofs.YtdgknikgfjhohaaW.PrintLast Go.Proofs.YtdgknikgfjhohaaW.PrintMore
attribute [local go_sem] max2_int min2_int max_two min_two max_three min_three max_four min_four
set_option maxHeartbeats 8000000
set_option maxRecDepth 100000
set_option linter.unusedVariables false
set_option linter.unusedSimpArgs false

/-! ### impl_Store_lastStamp: function 42 -/
mutual
def impl_Store_lastStamp.l0 : Nat → Int → List (List (S52)) → Int → Int → Option (Int)
 | 0, _, _, _, _ => none
 | k + 1, x3, x9, x10, x11 => if x11 < x10 then (if 0 ≤ x11 then (if x11 < (x9.length : Int) then (impl_Store_lastStamp.l1 k x3 x9 x10 x11 (rd_L11 x9 x11) ((rd_L11 x9 x11).length : Int) 0) else (none)) else (none)) else (some x3)
def impl_Store_lastStamp.l1 : Nat → Int → List (List (S52)) → Int → Int → List (S52) → Int → Int → Option (Int)
 | 0, _, _, _, _, _, _, _ => none
 | k + 1, x3, x9, x10, x11, x15, x16, x17 => if x17 < x16 then (if 0 ≤ x17 then (if x17 < (x15.length : Int) then (impl_Store_lastStamp.l1 k (mx x3 ((rd_T52 x15 x17).f3)) x9 x10 x11 x15 x16 (wrap64 (x17 + 1))) else (none)) else (none)) else (impl_Store_lastStamp.l0 k x3 x9 x10 (wrap64 (x11 + 1)))
end
def impl_Store_lastStamp.f (k : Nat) (l0_0 : List (List (S52))) : Option (Int) := impl_Store_lastStamp.l0 k 0 l0_0 (l0_0.length : Int) 0
theorem impl_Store_lastStamp.mono_l : ∀ k, (∀ y0 y1 y2 y3, LeO (impl_Store_lastStamp.l0 k y0 y1 y2 y3) (impl_Store_lastStamp.l0 (k + 1) y0 y1 y2 y3)) ∧ (∀ y0 y1 y2 y3 y4 y5 y6, LeO (impl_Store_lastStamp.l1 k y0 y1 y2 y3 y4 y5 y6) (impl_Store_lastStamp.l1 (k + 1) y0 y1 y2 y3 y4 y5 y6))
 | 0 => ⟨fun _ _ _ _ r h => by simp [impl_Store_lastStamp.l0] at h, fun _ _ _ _ _ _ _ r h => by simp [impl_Store_lastStamp.l1] at h⟩
 | k + 1 => by
  obtain ⟨ih0, ih1⟩ := impl_Store_lastStamp.mono_l k
  refine ⟨?_, ?_⟩
  all_goals intros; first | unfold impl_Store_lastStamp.l0 | unfold impl_Store_lastStamp.l1
  all_goals repeat' (with_reducible first | exact ih0 .. | exact ih1 .. | exact LeO.refl _ | exact LeO.none _ | refine LeO.ite ?_ ?_ | refine LeO.bind ?_ (fun _ => ?_))
theorem impl_Store_lastStamp.mono : ∀ a0 k, LeO (impl_Store_lastStamp.f k a0) (impl_Store_lastStamp.f (k + 1) a0) := by
 intro a0 k
 obtain ⟨ih0, ih1⟩ := impl_Store_lastStamp.mono_l k
 unfold impl_Store_lastStamp.f
 repeat' (with_reducible first | exact ih0 .. | exact ih1 .. | exact LeO.refl _ | exact LeO.none _ | refine LeO.ite ?_ ?_ | refine LeO.bind ?_ (fun _ => ?_))
theorem impl_Store_lastStamp.calls (k : Nat) (A0_0 : Option Addr) (c0_0 : Nat) (l0_0 : List (List (S52))) (r : Int) (w : World) (hr0_0 : Kd.C (Kd.slice 52 k52) w A0_0 l0_0.length l0_0) (hc0_0 : l0_0.length ≤ c0_0) (h : impl_Store_lastStamp.f k l0_0 = some r) :
  Calls Try.prog 42 #[.agg #[.slice A0_0 l0_0.length c0_0]] w fun e w' => e = .returned (.int .i64 r) ∧ Below w.heap.size w w' := by
 have hu34 := Try.underlying34
 have hu52 := Try.underlying52
 have HR0_0 := AM_ hr0_0
 have HC0_0 := AM_ hc0_0
 clear hr0_0 hc0_0
 have HB := AM_ (Below.refl w.heap.size w)
 unfold impl_Store_lastStamp.f at h
 have H := h
 clear h
 have H' := AM_ H
 clear H
 go_enter Try.func42, Try.ntmps42
 go_wp2_with (first | ((with_reducible refine G2 1 rfl ?_); refine BY 1 #[.slice A0_0 l0_0.length c0_0] 34 HB ?_; clear HB; intro gb350 w2 BK350 GW350 HB; obtain ⟨hcz3_0, hfz3_0⟩ := bk1 BK350.out))
 go_loopg [3, 11] k (fun kq v3 v11 w' => ∃ (x3_1 : Int) (x11_1 : Int), v3 = .int .i64 x3_1 ∧ v11 = .int .i64 x11_1 ∧ Aside0 (impl_Store_lastStamp.l0 kq x3_1 l0_0 (l0_0.length : Int) x11_1 = some r) ∧ Aside0 (kq ≤ k) ∧ Aside0 (w'.heap[gb350]? = some (.cells #[(.slice A0_0 l0_0.length c0_0)] 34 (0, 0))) ∧ Aside0 (Below w.heap.size w w'))
 case atStart => exact ⟨(0), (0), (by first | rfl | (simp; done) | (simp [*]; done)), (by first | rfl | (simp; done) | (simp [*]; done)), H', ⟨Nat.le_refl _⟩, ⟨BH BK350.out⟩, ⟨BT HB.out⟩⟩
 case round =>
  clear H'
  try clear hcz3_0
  try clear hfz3_0
  obtain ⟨x3_1, x11_1, rfl, rfl, HA, HK1, BK350, HB⟩ := hrel
  cases gk with
  | zero => exact absurd HA.out (by simp [impl_Store_lastStamp.l0])
  | succ k1 =>
   have H := HA.out
   clear HA
   simp only [impl_Store_lastStamp.l0] at H
   by_cases c4 : x11_1 < (l0_0.length : Int)
   rotate_left
   ·rw [if_neg c4] at H
    have c4b0 := decide_eq_false c4
    clear c4
    obtain rfl := Option.some.inj H
    go_wp2
    go_ret
    exact QT (BT HB.out)
   rw [if_pos c4] at H
   have c4b0 := decide_eq_true c4
   clear c4
   replace H := HI H
   obtain ⟨c5, H⟩ := H
   have c5b0 := decide_eq_true c5
   clear c5
   replace H := HI H
   obtain ⟨c6, H⟩ := H
   have c6b0 := decide_eq_true c6
   clear c6
   have H' := AM_ H
   clear H
   have p351 : 0 ≤ (x11_1 : Int) := DT
   have q351 : x11_1 < (l0_0.length : Int) := DT
   obtain ⟨ad351, A351_0, c351_0, e351, hx351_0, hl351_0, hi351_0⟩ := at_L11 HR0_0.out x11_1 p351 q351
   cases e351
   replace hx351_0 := BC HB.out hx351_0
   have HR351_0 := AM_ hi351_0
   have HC351_0 := AM_ hl351_0
   clear hi351_0 hl351_0
   replace p351 := eq_true p351
   replace q351 := eq_true q351
   go_wp2
   go_loopg [3, 17] k1 (fun kq v3 v17 w' => ∃ (x3_2 : Int) (x17_2 : Int), v3 = .int .i64 x3_2 ∧ v17 = .int .i64 x17_2 ∧ Aside0 (impl_Store_lastStamp.l1 kq x3_2 l0_0 (l0_0.length : Int) x11_1 (rd_L11 l0_0 x11_1) ((rd_L11 l0_0 x11_1).length : Int) x17_2 = some r) ∧ Aside0 (kq ≤ k1) ∧ Aside0 (w'.heap[gb350]? = some (.cells #[(.slice (some ad351) l0_0.length c0_0)] 34 (0, 0))) ∧ Aside0 (Below w.heap.size w w'))
   case atStart => exact ⟨(x3_1), (0), (by first | rfl | (simp; done) | (simp [*]; done)), (by first | rfl | (simp; done) | (simp [*]; done)), H', ⟨Nat.le_refl _⟩, ⟨BH BK350.out⟩, ⟨BT HB.out⟩⟩
   case round =>
    clear H'
    try clear c4
    try clear c4b0
    try clear c5
    try clear c5b0
    try clear c6
    try clear c6b0
    try clear hcz3_0
    try clear hfz3_0
    try clear hx351_0
    try clear p351
    try clear q351
    obtain ⟨x3_2, x17_2, rfl, rfl, HA, HK2, BK350, HB⟩ := hrel
    cases gk with
    | zero => exact absurd HA.out (by simp [impl_Store_lastStamp.l1])
    | succ k2 =>
     have H := HA.out
     clear HA
     simp only [impl_Store_lastStamp.l1] at H
     by_cases c7 : x17_2 < ((rd_L11 l0_0 x11_1).length : Int)
     rotate_left
     ·rw [if_neg c7] at H
      have c7b0 := decide_eq_false c7
      clear c7
      have H' := AM_ H
      clear H
      go_wp2
      go_roundg k2
      case measure => have := HK1.out; have := HK2.out; omega
      case rel => exact ⟨(x3_2), (wrap64 (x11_1 + 1)), (by first | rfl | (simp; done) | (simp [*]; done)), (by first | rfl | (simp; done) | (simp [*]; done)), H', ⟨by have := HK1.out; have := HK2.out; omega⟩, ⟨BH BK350.out⟩, ⟨BT HB.out⟩⟩
     rw [if_pos c7] at H
     have c7b0 := decide_eq_true c7
     clear c7
     replace H := HI H
     obtain ⟨c8, H⟩ := H
     have c8b0 := decide_eq_true c8
     clear c8
     replace H := HI H
     obtain ⟨c9, H⟩ := H
     have c9b0 := decide_eq_true c9
     clear c9
     obtain ⟨ji10, hji10⟩ : ∃ j_ : Int, (mx x3_2 ((rd_T52 (rd_L11 l0_0 x11_1) x17_2).f3)) = j_ := ⟨_, rfl⟩
     replace H : (impl_Store_lastStamp.l1 k2 ji10 l0_0 (l0_0.length : Int) x11_1 (rd_L11 l0_0 x11_1) ((rd_L11 l0_0 x11_1).length : Int) (wrap64 (x17_2 + 1))) = some r := by first | (rw [hji10] at H; exact H) | (simp only [hji10] at H ⊢; exact H)
     have hji10_ : (if x3_2 < ((rd_T52 (rd_L11 l0_0 x11_1) x17_2).f3) then ((rd_T52 (rd_L11 l0_0 x11_1) x17_2).f3) else x3_2) = ji10 := hji10
     have H' := AM_ H
     clear H
     have p352 : 0 ≤ (x17_2 : Int) := DT
     have q352 : x17_2 < ((rd_L11 l0_0 x11_1).length : Int) := DT
     obtain ⟨ad352, e352, hx352_0, hx352_1, hx352_2, hx352_3, hx352_4⟩ := at_T52 HR351_0.out x17_2 p352 q352
     cases e352
     replace hx352_0 := BC HB.out hx352_0
     replace hx352_1 := BC HB.out hx352_1
     replace hx352_2 := BC HB.out hx352_2
     replace hx352_3 := BC HB.out hx352_3
     replace hx352_4 := BC HB.out hx352_4
     replace p352 := eq_true p352
     replace q352 := eq_true q352
     go_wp2_with (first | ((with_reducible refine G2 7 rfl ?_); refine BZ 7 #[.int .i64 0, .int .i64 0, .int .i64 0, .int .i64 0, .int .i64 0] 52 HB ?_; clear HB; intro gb353 w11 hg hb BK353 GW353 HB; have NB350_353 := NP BK350 hg; have NB353_350 := NQ BK350 hg; replace BK350 := BV BK350 hb; clear hb hg; have hnb12 := NB353_350.out; have hnc12 := NB350_353.out; obtain ⟨hcz13_0, hcz13_1, hcz13_2, hcz13_3, hcz13_4, hfz13_0, hfz13_1, hfz13_2, hfz13_3, hfz13_4⟩ := bk5 BK353.out))
     go_roundg k2
     case measure => have := HK1.out; have := HK2.out; omega
     case rel => exact ⟨(ji10), (wrap64 (x17_2 + 1)), (by first | rfl | (simp; done) | (simp only [← hji10] <;> (first | rfl | simp)) | (simp [*]; done)), (by first | rfl | (simp; done) | (simp [*]; done)), H', ⟨by have := HK1.out; have := HK2.out; omega⟩, ⟨BG BK350.out NB350_353.out⟩, ⟨BT HB.out⟩⟩

/-! ### impl_isScheme: function 109 -/
def impl_isScheme.f (a0 : Int) : Option (Bool) := (impl_in.f a0 1 4).bind fun t354 => (some t354)
theorem impl_isScheme.calls (a0 : Int) (r : Bool) (w : World) (h : impl_isScheme.f a0 = some r) :
  Calls Try.prog 109 #[.int .i64 a0] w fun e w' => e = .returned (.bool r) ∧ Drawn0 w w' := by
 unfold impl_isScheme.f at h
 have H := h
 clear h
 obtain ⟨t354, A2, H⟩ := OB H
 obtain rfl := Option.some.inj H
 go_enter Try.func109, Try.ntmps109
 go_wp2_with (first | ((with_reducible refine G1 41 rfl ?_); refine GC (some 4) Try.func41 #[.int .i64 a0, .int .i64 1, .int .i64 4] ?_; (with_reducible refine MQ (impl_in.calls a0 1 4 t354 _ A2.out) ?_); intro nd))
 go_ret
 exact ⟨by first | rfl | (simp; done) | (simp [*]; done), by repeat (first | exact Drawn0.refl _ | apply Drawn0.step)⟩

/-! ### impl_IsStamp: function 110 -/
def impl_IsStamp.f (a0 : Int) : Option (Bool) := (impl_in.f a0 1 999).bind fun t355 => (some t355)
theorem impl_IsStamp.calls (a0 : Int) (r : Bool) (w : World) (h : impl_IsStamp.f a0 = some r) :
  Calls Try.prog 110 #[.int .i64 a0] w fun e w' => e = .returned (.bool r) ∧ Drawn0 w w' := by
 unfold impl_IsStamp.f at h
 have H := h
 clear h
 obtain ⟨t355, A2, H⟩ := OB H
 obtain rfl := Option.some.inj H
 go_enter Try.func110, Try.ntmps110
 go_wp2_with (first | ((with_reducible refine G1 41 rfl ?_); refine GC (some 4) Try.func41 #[.int .i64 a0, .int .i64 1, .int .i64 999] ?_; (with_reducible refine MQ (impl_in.calls a0 1 999 t355 _ A2.out) ?_); intro nd))
 go_ret
 exact ⟨by first | rfl | (simp; done) | (simp [*]; done), by repeat (first | exact Drawn0.refl _ | apply Drawn0.step)⟩

/-! ### cmp_Or_int: function 138 -/
def cmp_Or_int.l0 : Nat → Int → List Int → Int → Int → Option (Int)
 | 0, _, _, _, _ => none
 | k + 1, x3, x6, x7, x8 => if x8 < x7 then (if 0 ≤ x8 then (if x8 < (x6.length : Int) then (if (rd x6 x8) = x3 then (cmp_Or_int.l0 k x3 x6 x7 (wrap64 (x8 + 1))) else (some (rd x6 x8))) else (none)) else (none)) else (some x3)
def cmp_Or_int.f (k : Nat) (l0 : List Int) : Option (Int) := cmp_Or_int.l0 k 0 l0 (l0.length : Int) 0
theorem cmp_Or_int.mono_l : ∀ k, (∀ y0 y1 y2 y3, LeO (cmp_Or_int.l0 k y0 y1 y2 y3) (cmp_Or_int.l0 (k + 1) y0 y1 y2 y3))
 | 0 => fun _ _ _ _ r h => by simp [cmp_Or_int.l0] at h
 | k + 1 => by
  have ih0 := cmp_Or_int.mono_l k
  all_goals intros; unfold cmp_Or_int.l0
  all_goals repeat' (with_reducible first | exact ih0 .. | exact LeO.refl _ | exact LeO.none _ | refine LeO.ite ?_ ?_ | refine LeO.bind ?_ (fun _ => ?_))
theorem cmp_Or_int.mono : ∀ a0 k, LeO (cmp_Or_int.f k a0) (cmp_Or_int.f (k + 1) a0) := by
 intro a0 k
 have ih0 := cmp_Or_int.mono_l k
 unfold cmp_Or_int.f
 repeat' (with_reducible first | exact ih0 .. | exact LeO.refl _ | exact LeO.none _ | refine LeO.ite ?_ ?_ | refine LeO.bind ?_ (fun _ => ?_))
theorem cmp_Or_int.calls (k : Nat) (A0 : Option Addr) (c0 : Nat) (l0 : List Int) (r : Int) (w : World) (hr0 : Kd.C (Kd.int .i64) w A0 l0.length l0) (hc0 : l0.length ≤ c0) (h : cmp_Or_int.f k l0 = some r) :
  Calls Try.prog 138 #[.slice A0 l0.length c0] w fun e w' => e = .returned (.int .i64 r) ∧ Drawn0 w w' := by
 have HR0 := AM_ hr0
 have HC0 := AM_ hc0
 clear hr0 hc0
 unfold cmp_Or_int.f at h
 have H := h
 clear h
 have H' := AM_ H
 clear H
 go_enter Try.func138, Try.ntmps138
 go_wp2
 go_loopg [8] k (fun kq v8 w' => ∃ (x8_1 : Int), v8 = .int .i64 x8_1 ∧ Aside0 (cmp_Or_int.l0 kq 0 l0 (l0.length : Int) x8_1 = some r) ∧ Aside0 (kq ≤ k) ∧ Drawn0 w w')
 case atStart => exact ⟨(0), (by first | rfl | (simp; done) | (simp [*]; done)), H', ⟨Nat.le_refl _⟩, by repeat (first | exact Drawn0.refl _ | apply Drawn0.step)⟩
 case round =>
  clear H'
  obtain ⟨x8_1, rfl, HA, HK1, ⟨m1, rfl⟩⟩ := hrel
  cases gk with
  | zero => exact absurd HA.out (by simp [cmp_Or_int.l0])
  | succ k1 =>
   have H := HA.out
   clear HA
   simp only [cmp_Or_int.l0] at H
   by_cases c2 : x8_1 < (l0.length : Int)
   rotate_left
   ·rw [if_neg c2] at H
    have c2b0 := decide_eq_false c2
    clear c2
    obtain rfl := Option.some.inj H
    go_wp2
    go_ret
    exact ⟨by first | rfl | (simp; done) | (simp [*]; done), by repeat (first | exact Drawn0.refl _ | apply Drawn0.step)⟩
   rw [if_pos c2] at H
   have c2b0 := decide_eq_true c2
   clear c2
   replace H := HI H
   obtain ⟨c3, H⟩ := H
   have c3b0 := decide_eq_true c3
   clear c3
   replace H := HI H
   obtain ⟨c4, H⟩ := H
   have c4b0 := decide_eq_true c4
   clear c4
   by_cases c5 : (rd l0 x8_1) = 0
   rotate_left
   ·rw [if_neg c5] at H
    have c5b0 : ((rd l0 x8_1) == 0) = false := beq_eq_false_iff_ne.mpr c5
    have c5b1 : ((rd l0 x8_1) != 0) = true := bne_iff_ne.mpr c5
    obtain rfl := Option.some.inj H
    have p356 : 0 ≤ (x8_1 : Int) := DT
    have q356 : x8_1 < (l0.length : Int) := DT
    obtain ⟨ad356, e356, hx356_0⟩ := Kd.at_int HR0.out x8_1 p356 q356
    cases e356
    replace p356 := eq_true p356
    replace q356 := eq_true q356
    go_wp2
    go_ret
    exact ⟨by first | rfl | (simp; done) | (simp [*]; done), by repeat (first | exact Drawn0.refl _ | apply Drawn0.step)⟩
   rw [if_pos c5] at H
   have c5b0 : ((rd l0 x8_1) == 0) = true := beq_iff_eq.mpr c5
   have c5b1 : ((rd l0 x8_1) != 0) = false := bne_eq_false_iff_eq.mpr c5
   clear c5
   have H' := AM_ H
   clear H
   have p356 : 0 ≤ (x8_1 : Int) := DT
   have q356 : x8_1 < (l0.length : Int) := DT
   obtain ⟨ad356, e356, hx356_0⟩ := Kd.at_int HR0.out x8_1 p356 q356
   cases e356
   replace p356 := eq_true p356
   replace q356 := eq_true q356
   go_wp2
   go_roundg k1
   case measure => have := HK1.out; omega
   case rel => exact ⟨(wrap64 (x8_1 + 1)), (by first | rfl | (simp; done) | (simp [*]; done)), H', ⟨by have := HK1.out; omega⟩, by repeat (first | exact Drawn0.refl _ | apply Drawn0.step)⟩

/-! ### cmp_isNaN_int: function 142 -/
def cmp_isNaN_int.f (a0 : Int) : Option (Bool) := some (a0 != a0)
theorem cmp_isNaN_int.calls (a0 : Int) (r : Bool) (w : World) (h : cmp_isNaN_int.f a0 = some r) :
  Calls Try.prog 142 #[.int .i64 a0] w fun e w' => e = .returned (.bool r) ∧ Drawn0 w w' := by
 unfold cmp_isNaN_int.f at h
 have H := h
 clear h
 obtain rfl := Option.some.inj H
 go_enter Try.func142, Try.ntmps142
 go_wp2
 go_ret
 exact ⟨by first | rfl | (simp; done) | (simp [*]; done), by repeat (first | exact Drawn0.refl _ | apply Drawn0.step)⟩

/-! ### cmp_Compare_int: function 139 -/
def cmp_Compare_int.f (a0 : Int) (a1 : Int) : Option (Int) := (cmp_isNaN_int.f a0).bind fun t357 => ((cmp_isNaN_int.f a1).bind fun t358 => (if t357 = true then (if t358 = true then (some 0) else (some (-1))) else (if t358 = true then (some 1) else (if a0 < a1 then (some (-1)) else (if a0 > a1 then (some 1) else (some 0))))))
theorem cmp_Compare_int.calls (a0 : Int) (a1 : Int) (r : Int) (w : World) (h : cmp_Compare_int.f a0 a1 = some r) :
  Calls Try.prog 139 #[.int .i64 a0, .int .i64 a1] w fun e w' => e = .returned (.int .i64 r) ∧ Drawn0 w w' := by
 unfold cmp_Compare_int.f at h
 have H := h
 clear h
 obtain ⟨t357, A3, H⟩ := OB H
 obtain ⟨t358, A4, H⟩ := OB H
 by_cases c5 : t357 = true
 ·subst c5
  replace H := HT H
  by_cases c6 : t358 = true
  ·subst c6
   replace H := HT H
   obtain rfl := Option.some.inj H
   go_enter Try.func139, Try.ntmps139
   go_wp2_with (first | ((with_reducible refine G1 142 rfl ?_); refine GC (some 8) Try.func142 #[.int .i64 a0] ?_; (with_reducible refine MQ (cmp_isNaN_int.calls a0 true _ A3.out) ?_); intro nd) | ((with_reducible refine G1 142 rfl ?_); refine GC (some 10) Try.func142 #[.int .i64 a1] ?_; (with_reducible refine MQ (cmp_isNaN_int.calls a1 true _ A4.out) ?_); intro nd))
   go_ret
   exact ⟨by first | rfl | (simp; done) | (simp [*]; done), by repeat (first | exact Drawn0.refl _ | apply Drawn0.step)⟩
  replace c6 := Bool.eq_false_iff.mpr c6
  subst c6
  replace H := HF H
  obtain rfl := Option.some.inj H
  go_enter Try.func139, Try.ntmps139
  go_wp2_with (first | ((with_reducible refine G1 142 rfl ?_); refine GC (some 8) Try.func142 #[.int .i64 a0] ?_; (with_reducible refine MQ (cmp_isNaN_int.calls a0 true _ A3.out) ?_); intro nd) | ((with_reducible refine G1 142 rfl ?_); refine GC (some 10) Try.func142 #[.int .i64 a1] ?_; (with_reducible refine MQ (cmp_isNaN_int.calls a1 false _ A4.out) ?_); intro nd))
  go_ret
  exact ⟨by first | rfl | (simp; done) | (simp [*]; done), by repeat (first | exact Drawn0.refl _ | apply Drawn0.step)⟩
 replace c5 := Bool.eq_false_iff.mpr c5
 subst c5
 replace H := HF H
 by_cases c7 : t358 = true
 ·subst c7
  replace H := HT H
  obtain rfl := Option.some.inj H
  go_enter Try.func139, Try.ntmps139
  go_wp2_with (first | ((with_reducible refine G1 142 rfl ?_); refine GC (some 8) Try.func142 #[.int .i64 a0] ?_; (with_reducible refine MQ (cmp_isNaN_int.calls a0 false _ A3.out) ?_); intro nd) | ((with_reducible refine G1 142 rfl ?_); refine GC (some 10) Try.func142 #[.int .i64 a1] ?_; (with_reducible refine MQ (cmp_isNaN_int.calls a1 true _ A4.out) ?_); intro nd))
  go_ret
  exact ⟨by first | rfl | (simp; done) | (simp [*]; done), by repeat (first | exact Drawn0.refl _ | apply Drawn0.step)⟩
 replace c7 := Bool.eq_false_iff.mpr c7
 subst c7
 replace H := HF H
 by_cases c8 : a0 < a1
 ·rw [if_pos c8] at H
  have c8b0 := decide_eq_true c8
  clear c8
  obtain rfl := Option.some.inj H
  go_enter Try.func139, Try.ntmps139
  go_wp2_with (first | ((with_reducible refine G1 142 rfl ?_); refine GC (some 8) Try.func142 #[.int .i64 a0] ?_; (with_reducible refine MQ (cmp_isNaN_int.calls a0 false _ A3.out) ?_); intro nd) | ((with_reducible refine G1 142 rfl ?_); refine GC (some 10) Try.func142 #[.int .i64 a1] ?_; (with_reducible refine MQ (cmp_isNaN_int.calls a1 false _ A4.out) ?_); intro nd))
  go_ret
  exact ⟨by first | rfl | (simp; done) | (simp [*]; done), by repeat (first | exact Drawn0.refl _ | apply Drawn0.step)⟩
 rw [if_neg c8] at H
 have c8b0 := decide_eq_false c8
 clear c8
 by_cases c9 : a0 > a1
 ·rw [if_pos c9] at H
  have c9b0 : decide (a1 < a0) = true := decide_eq_true c9
  clear c9
  obtain rfl := Option.some.inj H
  go_enter Try.func139, Try.ntmps139
  go_wp2_with (first | ((with_reducible refine G1 142 rfl ?_); refine GC (some 8) Try.func142 #[.int .i64 a0] ?_; (with_reducible refine MQ (cmp_isNaN_int.calls a0 false _ A3.out) ?_); intro nd) | ((with_reducible refine G1 142 rfl ?_); refine GC (some 10) Try.func142 #[.int .i64 a1] ?_; (with_reducible refine MQ (cmp_isNaN_int.calls a1 false _ A4.out) ?_); intro nd))
  go_ret
  exact ⟨by first | rfl | (simp; done) | (simp [*]; done), by repeat (first | exact Drawn0.refl _ | apply Drawn0.step)⟩
 rw [if_neg c9] at H
 have c9b0 : decide (a1 < a0) = false := decide_eq_false c9
 clear c9
 obtain rfl := Option.some.inj H
 go_enter Try.func139, Try.ntmps139
 go_wp2_with (first | ((with_reducible refine G1 142 rfl ?_); refine GC (some 8) Try.func142 #[.int .i64 a0] ?_; (with_reducible refine MQ (cmp_isNaN_int.calls a0 false _ A3.out) ?_); intro nd) | ((with_reducible refine G1 142 rfl ?_); refine GC (some 10) Try.func142 #[.int .i64 a1] ?_; (with_reducible refine MQ (cmp_isNaN_int.calls a1 false _ A4.out) ?_); intro nd))
 go_ret
 exact ⟨by first | rfl | (simp; done) | (simp [*]; done), by repeat (first | exact Drawn0.refl _ | apply Drawn0.step)⟩

/-! ### impl_compareMarks: function 131 -/
def impl_compareMarks.f (k : Nat) (a0_0 : Int) (a0_1 : Int) (a1_0 : Int) (a1_1 : Int) : Option (Int) := (cmp_Compare_int.f a0_0 a1_0).bind fun t361 => ((cmp_Compare_int.f a0_1 a1_1).bind fun t362 => ((cmp_Or_int.f k (([t361, t362] : List Int))).bind fun t366 => (some t366)))
theorem impl_compareMarks.mono : ∀ a0 a1 a2 a3 k, LeO (impl_compareMarks.f k a0 a1 a2 a3) (impl_compareMarks.f (k + 1) a0 a1 a2 a3) := by
 intro a0 a1 a2 a3 k
 unfold impl_compareMarks.f
 repeat' (with_reducible first | exact cmp_Or_int.mono .. | exact LeO.refl _ | exact LeO.none _ | refine LeO.ite ?_ ?_ | refine LeO.bind ?_ (fun _ => ?_))
def impl_compareMarks.T1 : Bool × List (List Nat × List Nat) := (true, [([], []), ([0], [0]), ([], []), ([2], [2]), ([1, 3], [1, 3]), ([], []), ([5], [5]), ([], []), ([7], [7]), ([6, 8, 4], [6, 8]), ([4, 9], [4, 9]), ([10, 9], [10]), ([11, 11, 0, 1, 2, 3, 4, 5, 6, 7, 8, 9, 10, 11], [11])])
def impl_compareMarks.B1 : List Nat := [0, 1, 0, 4, 15, 0, 32, 0, 128, 511, 1023, 2047, 4095]
theorem impl_compareMarks.tab1 : rtab .any (opsOf Try.f131 1) = impl_compareMarks.T1 := by kernel_rfl
theorem impl_compareMarks.bits1 : waitsOk impl_compareMarks.T1.2 impl_compareMarks.B1 = true := by kernel_rfl
theorem impl_compareMarks.calls (k : Nat) (a0_0 : Int) (a0_1 : Int) (a1_0 : Int) (a1_1 : Int) (r : Int) (w : World) (h : impl_compareMarks.f k a0_0 a0_1 a1_0 a1_1 = some r) :
  Calls Try.prog 131 #[.agg #[.int .i64 a0_0, .int .i64 a0_1], .agg #[.int .i64 a1_0, .int .i64 a1_1]] w fun e w' => e = .returned (.int .i64 r) ∧ Below w.heap.size w w' := by
 have hu116 := Try.underlying116
 have HB := AM_ (Below.refl w.heap.size w)
 unfold impl_compareMarks.f at h
 have H := h
 clear h
 obtain ⟨t361, A3, H⟩ := OB H
 obtain ⟨t362, A4, H⟩ := OB H
 obtain ⟨y363, hy363⟩ : ∃ y_ : List Int, y_ = (([t361, t362] : List Int)) := ⟨_, rfl⟩
 replace H : ((cmp_Or_int.f k y363).bind fun t366 => (some t366)) = some r := by first | (rw [hy363]; with_reducible exact H) | (have H2_ := (Option.bind_some _ _).symm.trans H; rw [hy363]; with_reducible exact H2_) | (have H2_ := (Option.bind_some _ _).symm.trans H; with_reducible exact H2_) | with_reducible exact H | (rw [hy363]; exact H) | exact H
 have Ny363 := AM_ hy363
 clear hy363
 obtain ⟨t366, A5, H⟩ := OB H
 obtain rfl := Option.some.inj H
 go_enter Try.func131, Try.ntmps131
 try go_wp2_with (first | ((with_reducible refine G2 2 rfl ?_); refine BY 2 #[.int .i64 a0_0, .int .i64 a0_1] 116 HB ?_; clear HB; intro gb359 w6 BK359 GW359 HB) | ((with_reducible refine G2 3 rfl ?_); refine BZ 3 #[.int .i64 a1_0, .int .i64 a1_1] 116 HB ?_; clear HB; intro gb360 w7 hg hb BK360 GW360 HB; have NB359_360 := NP BK359 hg; have NB360_359 := NQ BK359 hg; replace BK359 := BV BK359 hb; clear hb hg))
 replace BK359 := BD1 BK359
 replace BK360 := BD1 BK360
 replace HB := BD2 HB
 refine start_ (n := 13) (S := fun w' => w'.cell? ⟨gb359, 0, none⟩ = some (.int .i64 a0_0) ∧ w'.cell? ⟨gb359, 1, none⟩ = some (.int .i64 a0_1) ∧ w'.cell? ⟨gb360, 0, none⟩ = some (.int .i64 a1_0) ∧ w'.cell? ⟨gb360, 1, none⟩ = some (.int .i64 a1_1)) (ds := []) (lo 0 13) (by kernel_rfl) rfl rfl ⟨bc BK359.out 0, bc BK359.out 1, bc BK360.out 0, bc BK360.out 1⟩ (fun hHeld => ?_); refine with_tabW impl_compareMarks.tab1 impl_compareMarks.bits1 (fun HT_ HW_ => ?_)
 generalize w7.drew = w8 at BK359 BK360 HB hHeld ⊢
 refine PS HT_ ?_
 refine PV 2 (some 7) (bs 5 13) HT_ ?_
 refine PV 5 (some 10) (bs 37 13) HT_ ?_
 refine PV 7 (some 12) (bs 165 13) HT_ ?_
 refine TX 1 (some 6) (bs 167 13) HT_ HW_ hHeld ?_
 refine TX 3 (some 8) (bs 175 13) HT_ HW_ hHeld ?_
 refine TX 6 (some 11) (bs 239 13) HT_ HW_ hHeld ?_
 refine TX 8 (some 13) (bs 495 13) HT_ HW_ hHeld ?_
 refine one_ (i := 4) (N := some 9) (lo 9 13) rfl rfl (one_of HT_.out (by kernel_rfl)) (by decide) (fun K hK => ?_)
 refine GO Try.func139 #[.int .i64 a0_0, .int .i64 a1_0] ?_
 with_reducible refine MQ (cmp_Compare_int.calls a0_0 a1_0 t361 _ A3.out) ?_
 intro nd
 refine hK.out _ _ ⟨bc BK359.out 0, bc BK359.out 1, bc BK360.out 0, bc BK360.out 1⟩ (fun hHeld => ?_)
 clear hK K
 refine NM 9 ?_
 refine OS HT_ (fun K hK => ?_)
 refine GO Try.func139 #[.int .i64 a0_1, .int .i64 a1_1] ?_
 with_reducible refine MQ (cmp_Compare_int.calls a0_1 a1_1 t362 _ A4.out) ?_
 intro nd
 refine hK.out _ _ ⟨bc BK359.out 0, bc BK359.out 1, bc BK360.out 0, bc BK360.out 1⟩ (fun hHeld => ?_)
 clear hK K
 refine NM 14 ?_
 refine OS HT_ (fun K hK => ?_)
 refine Kd.R_lit_step (Kd.int .i64) _ 3 ?hg (N := 15) ?hd (xs := ([t361, t362] : List Int)) (inner := [.int .i64 t361, .int .i64 t362]) (ok := fun _ => True) (okp := fun _ => True) ?hr ?hp (fun _ hk => hk) trivial (Below.refl _ _) (Nat.le_refl _) (by simp) ?_; (case hd => rfl); (case hg => rfl); (case hr => first | (go_simp; done) | (go_simp; rfl)); (case hp => exact (Reps.one (show Kd.M (Kd.int .i64) _ _ _ t361 [.int .i64 t361] from rfl) (Reps.one (show Kd.M (Kd.int .i64) _ _ _ t362 [.int .i64 t362] from rfl) (Reps.none _ _))))
 intro v364 w9 ho10 hb hg_ hnew_
 clear hg_ hnew_
 (first | rw [← Ny363.out] at ho10 | (simp only [Int.reduceToNat] at ho10; rw [← Ny363.out] at ho10))
 have HO365 := AM_ (Kd.R_lower ho10 (below_size (BT HB.out)))
 replace BK359 := BV BK359 hb
 replace BK360 := BV BK360 hb
 replace HB := BW HB hb
 clear hb ho10
 obtain ⟨Ao11, co11, eo11⟩ := Kd.R_slice HO365.out
 (first | subst eo11 | (injection eo11 with f1_ f2_ f3_; have f4_ := f1_.symm; have f5_ := f3_.symm; clear f1_ f2_ f3_; subst f4_; subst f5_))
 refine hK.out _ _ ⟨bc BK359.out 0, bc BK359.out 1, bc BK360.out 0, bc BK360.out 1⟩ (fun hHeld => ?_)
 clear hK K
 refine NM 15 ?_
 refine OS HT_ (fun K hK => ?_)
 refine GO Try.func138 #[.slice Ao11 y363.length co11] ?_
 with_reducible refine (cmp_Or_int.calls k _ _ y363 t366 _ ?side1 ?side2 A5.out).mono ?_
 (case side1 => exact Kd.C_below (Kd.R_reads' HO365.out).2.2 (BL (Below.refl _ _) rfl rfl rfl rfl))
 (case side2 => exact (Kd.R_reads' HO365.out).2.1)
 rintro e w' ⟨rfl, ⟨nd, rfl⟩⟩
 refine ⟨_, rfl, ?_⟩
 refine hK.out _ _ ⟨bc BK359.out 0, bc BK359.out 1, bc BK360.out 0, bc BK360.out 1⟩ (fun hHeld => ?_)
 clear hK K
 refine NM 16 ?_
 refine PS HT_ ?_
 refine done_ (done_of HT_.out (by kernel_rfl)) ?_
 try go_wp2
 go_ret
 exact QT (BT HB.out)

end Go.Proofs.Ytdgknikgfjhohaa.PFnExactIsValidEngine
