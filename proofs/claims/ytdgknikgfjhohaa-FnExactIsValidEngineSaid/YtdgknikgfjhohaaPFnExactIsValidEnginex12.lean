-- Printed by wip/myprint.py.
import Derived.Test.YtdgknikgfjhohaaPFnExactIsValidEnginex11
namespace Go.Proofs.Ytdgknikgfjhohaa.PFnExactIsValidEngine
open Go.RowKit Go.Proofs.YtdgknikgfjhohaaW.PrintWords Go.Proofs.YtdgknikgfjhohaaW.PrintLast Go.Proofs.YtdgknikgfjhohaaW.PrintMore
set_option maxHeartbeats 8000000
set_option maxRecDepth 100000
set_option linter.unusedVariables false
set_option linter.unusedSimpArgs false

/-! ### impl_IsValidStore_1: function 75 -/
def impl_IsValidStore_1.f (k : Nat) (l0 : List (S52)) : Option (Bool) := (impl_IsValidChain.f k l0).bind fun t333 => (if t333 = true then (some (decide ((l0.length : Int) > 50))) else (some true))
theorem impl_IsValidStore_1.mono : ∀ a0 k, LeO (impl_IsValidStore_1.f k a0) (impl_IsValidStore_1.f (k + 1) a0) := by
 intro a0 k
 unfold impl_IsValidStore_1.f
 repeat' (with_reducible first | exact impl_IsValidChain.mono .. | exact LeO.refl _ | exact LeO.none _ | refine LeO.ite ?_ ?_ | refine LeO.bind ?_ (fun _ => ?_))
theorem impl_IsValidStore_1.calls (k : Nat) (A0 : Option Addr) (c0 : Nat) (l0 : List (S52)) (r : Bool) (w : World) (hr0 : Kd.C k52 w A0 l0.length l0) (hc0 : l0.length ≤ c0) (h : impl_IsValidStore_1.f k l0 = some r) :
  Calls Try.prog 75 #[.slice A0 l0.length c0] w fun e w' => e = .returned (.bool r) ∧ Below w.heap.size w w' := by
 have HR0 := AM_ hr0
 have HC0 := AM_ hc0
 clear hr0 hc0
 have HB := AM_ (Below.refl w.heap.size w)
 unfold impl_IsValidStore_1.f at h
 have H := h
 clear h
 obtain ⟨t333, A2, H⟩ := OB H
 by_cases c3 : t333 = true
 ·subst c3
  replace H := HT H
  obtain rfl := Option.some.inj H
  go_enter Try.func75, Try.ntmps75
  go_wp2_with (first | ((with_reducible refine G1 76 rfl ?_); refine GC (some 4) Try.func76 #[.slice A0 l0.length c0] ?_; (with_reducible refine (impl_IsValidChain.calls k _ _ l0 true _ ?side1 ?side2 A2.out).mono ?_); (case side1 => repeat (first | exact HR0.out | (with_reducible refine Kd.C_alloc ?_ _) | (with_reducible refine Kd.C_drewN ?_ _) | (with_reducible refine Kd.C_drew ?_))); (case side2 => exact HC0.out); rintro e w4 ⟨rfl, hb⟩; refine ⟨_, rfl, ?_⟩; replace HB := BW HB hb; (try clear hb)))
  go_ret
  exact QT (BT HB.out)
 replace c3 := Bool.eq_false_iff.mpr c3
 subst c3
 replace H := HF H
 obtain rfl := Option.some.inj H
 go_enter Try.func75, Try.ntmps75
 go_wp2_with (first | ((with_reducible refine G1 76 rfl ?_); refine GC (some 4) Try.func76 #[.slice A0 l0.length c0] ?_; (with_reducible refine (impl_IsValidChain.calls k _ _ l0 false _ ?side1 ?side2 A2.out).mono ?_); (case side1 => repeat (first | exact HR0.out | (with_reducible refine Kd.C_alloc ?_ _) | (with_reducible refine Kd.C_drewN ?_ _) | (with_reducible refine Kd.C_drew ?_))); (case side2 => exact HC0.out); rintro e w5 ⟨rfl, hb⟩; refine ⟨_, rfl, ?_⟩; replace HB := BW HB hb; (try clear hb)))
 go_ret
 exact QT (BT HB.out)

/-! ### impl_Version_107: function 107 -/
def impl_Version_107.l0 : Nat → List (List (S52)) → Int → Int → Option (Int)
 | 0, _, _, _ => none
 | k + 1, x0, x7, x8 => if x8 < x7 then (if 0 ≤ x8 then (if x8 < (x0.length : Int) then ((impl_IsValidStore_1.f k (rd_L11 x0 x8)).bind fun t335 => (if t335 = true then (some x8) else (impl_Version_107.l0 k x0 x7 (wrap64 (x8 + 1))))) else (none)) else (none)) else (some (-1))
def impl_Version_107.f (k : Nat) (l0 : List (List (S52)))  : Option (Int) := impl_Version_107.l0 k l0 (l0.length : Int) 0
theorem impl_Version_107.mono_l : ∀ k, (∀ y0 y1 y2, LeO (impl_Version_107.l0 k y0 y1 y2) (impl_Version_107.l0 (k + 1) y0 y1 y2))
 | 0 => fun _ _ _ r h => by simp [impl_Version_107.l0] at h
 | k + 1 => by
  have ih0 := impl_Version_107.mono_l k
  all_goals intros; unfold impl_Version_107.l0
  all_goals repeat' (with_reducible first | exact ih0 .. | exact impl_IsValidStore_1.mono .. | exact LeO.refl _ | exact LeO.none _ | refine LeO.ite ?_ ?_ | refine LeO.bind ?_ (fun _ => ?_))
theorem impl_Version_107.mono : ∀ a0 k, LeO (impl_Version_107.f k a0) (impl_Version_107.f (k + 1) a0) := by
 intro a0 k
 have ih0 := impl_Version_107.mono_l k
 unfold impl_Version_107.f
 repeat' (with_reducible first | exact ih0 .. | exact impl_IsValidStore_1.mono .. | exact LeO.refl _ | exact LeO.none _ | refine LeO.ite ?_ ?_ | refine LeO.bind ?_ (fun _ => ?_))
theorem impl_Version_107.calls (k : Nat) (A0 : Option Addr) (c0 : Nat) (l0 : List (List (S52)))  (r : Int) (w : World) (hr0 : Kd.C (Kd.slice 52 k52) w A0 l0.length l0) (hc0 : l0.length ≤ c0) (h : impl_Version_107.f k l0 = some r) :
  Calls Try.prog 107 #[.slice A0 l0.length c0, .func (.func 75) #[] #[]] w fun e w' => e = .returned (.int .i64 r) ∧ Below w.heap.size w w' := by
 have HR0 := AM_ hr0
 have HC0 := AM_ hc0
 clear hr0 hc0
 have HB := AM_ (Below.refl w.heap.size w)
 unfold impl_Version_107.f at h
 have H := h
 clear h
 have H' := AM_ H
 clear H
 go_enter Try.func107, Try.ntmps107
 go_wp2
 go_loopg [8] k (fun kq v8 w' => ∃ (x8_1 : Int), v8 = .int .i64 x8_1 ∧ Aside0 (impl_Version_107.l0 kq l0 (l0.length : Int) x8_1 = some r) ∧ Aside0 (kq ≤ k) ∧ Aside0 (Below w.heap.size w w'))
 case atStart => exact ⟨(0), (by first | rfl | (simp; done) | (simp [*]; done)), H', ⟨Nat.le_refl _⟩, ⟨BT HB.out⟩⟩
 case round =>
  clear H'
  obtain ⟨x8_1, rfl, HA, HK1, HB⟩ := hrel
  cases gk with
  | zero => exact absurd HA.out (by simp [impl_Version_107.l0])
  | succ k1 =>
   have H := HA.out
   clear HA
   simp only [impl_Version_107.l0] at H
   by_cases c3 : x8_1 < (l0.length : Int)
   rotate_left
   ·rw [if_neg c3] at H
    have c3b0 := decide_eq_false c3
    clear c3
    obtain rfl := Option.some.inj H
    go_wp2
    go_ret
    exact QT (BT HB.out)
   rw [if_pos c3] at H
   have c3b0 := decide_eq_true c3
   clear c3
   replace H := HI H
   obtain ⟨c4, H⟩ := H
   have c4b0 := decide_eq_true c4
   clear c4
   replace H := HI H
   obtain ⟨c5, H⟩ := H
   have c5b0 := decide_eq_true c5
   clear c5
   obtain ⟨t335, A6, H⟩ := OB H
   by_cases c7 : t335 = true
   ·subst c7
    replace H := HT H
    obtain rfl := Option.some.inj H
    have p334 : 0 ≤ (x8_1 : Int) := DT
    have q334 : x8_1 < (l0.length : Int) := DT
    obtain ⟨ad334, A334_0, c334_0, e334, hx334_0, hl334_0, hi334_0⟩ := at_L11 HR0.out x8_1 p334 q334
    cases e334
    replace hx334_0 := BC HB.out hx334_0
    have HR334_0 := AM_ hi334_0
    have HC334_0 := AM_ hl334_0
    clear hi334_0 hl334_0
    replace p334 := eq_true p334
    replace q334 := eq_true q334
    go_wp2_with (first | ((with_reducible refine G2 16 rfl ?_); refine goesF_ (some 16) rfl rfl Try.func75 (by kernel_rfl) rfl (lb := #[]) #[.slice A334_0 (rd_L11 l0 x8_1).length c334_0] rfl rfl (by (try simp only [List.map_toArray, List.map_cons, List.map_nil]); first | done | rfl) ?_; (with_reducible refine MB (impl_IsValidStore_1.calls k1 _ _ (rd_L11 l0 x8_1) true _ (CC HR334_0 HB) HC334_0.out A6.out) ?_); intro w8 hb; replace HB := BW HB hb; (try clear hb)))
    go_ret
    exact QT (BT HB.out)
   replace c7 := Bool.eq_false_iff.mpr c7
   subst c7
   replace H := HF H
   have H' := AM_ H
   clear H
   have p334 : 0 ≤ (x8_1 : Int) := DT
   have q334 : x8_1 < (l0.length : Int) := DT
   obtain ⟨ad334, A334_0, c334_0, e334, hx334_0, hl334_0, hi334_0⟩ := at_L11 HR0.out x8_1 p334 q334
   cases e334
   replace hx334_0 := BC HB.out hx334_0
   have HR334_0 := AM_ hi334_0
   have HC334_0 := AM_ hl334_0
   clear hi334_0 hl334_0
   replace p334 := eq_true p334
   replace q334 := eq_true q334
   go_wp2_with (first | ((with_reducible refine G2 16 rfl ?_); refine goesF_ (some 16) rfl rfl Try.func75 (by kernel_rfl) rfl (lb := #[]) #[.slice A334_0 (rd_L11 l0 x8_1).length c334_0] rfl rfl (by (try simp only [List.map_toArray, List.map_cons, List.map_nil]); first | done | rfl) ?_; (with_reducible refine MB (impl_IsValidStore_1.calls k1 _ _ (rd_L11 l0 x8_1) false _ (CC HR334_0 HB) HC334_0.out A6.out) ?_); intro w9 hb; replace HB := BW HB hb; (try clear hb)))
   go_roundg k1
   case measure => have := HK1.out; omega
   case rel => exact ⟨(wrap64 (x8_1 + 1)), (by first | rfl | (simp; done) | (simp [*]; done)), H', ⟨by have := HK1.out; omega⟩, ⟨BT HB.out⟩⟩

/-! ### impl_Version_74: function 74 -/
def impl_Version_74.f (k : Nat) (l0 : List (List (S52)))  : Option (Bool) := (impl_Version_107.f k l0).bind fun t336 => (some (decide (t336 ≥ 0)))
theorem impl_Version_74.mono : ∀ a0 k, LeO (impl_Version_74.f k a0) (impl_Version_74.f (k + 1) a0) := by
 intro a0 k
 unfold impl_Version_74.f
 repeat' (with_reducible first | exact impl_Version_107.mono .. | exact LeO.refl _ | exact LeO.none _ | refine LeO.ite ?_ ?_ | refine LeO.bind ?_ (fun _ => ?_))
theorem impl_Version_74.calls (k : Nat) (A0 : Option Addr) (c0 : Nat) (l0 : List (List (S52)))  (r : Bool) (w : World) (hr0 : Kd.C (Kd.slice 52 k52) w A0 l0.length l0) (hc0 : l0.length ≤ c0) (h : impl_Version_74.f k l0 = some r) :
  Calls Try.prog 74 #[.slice A0 l0.length c0, .func (.func 75) #[] #[]] w fun e w' => e = .returned (.bool r) ∧ Below w.heap.size w w' := by
 have HR0 := AM_ hr0
 have HC0 := AM_ hc0
 clear hr0 hc0
 have HB := AM_ (Below.refl w.heap.size w)
 unfold impl_Version_74.f at h
 have H := h
 clear h
 obtain ⟨t336, A3, H⟩ := OB H
 obtain rfl := Option.some.inj H
 go_enter Try.func74, Try.ntmps74
 go_wp2_with (first | ((with_reducible refine G1 107 rfl ?_); refine GC (some 7) Try.func107 #[.slice A0 l0.length c0, .func (.func 75) #[] #[]] ?_; (with_reducible refine (impl_Version_107.calls k _ _ l0  t336 _ ?side1 ?side2 A3.out).mono ?_); (case side1 => repeat (first | exact HR0.out | (with_reducible refine Kd.C_alloc ?_ _) | (with_reducible refine Kd.C_drewN ?_ _) | (with_reducible refine Kd.C_drew ?_))); (case side2 => exact HC0.out); rintro e w4 ⟨rfl, hb⟩; refine ⟨_, rfl, ?_⟩; replace HB := BW HB hb; (try clear hb)))
 go_ret
 exact QT (BT HB.out)

/-! ### impl_IsValidStore: function 38 -/
def impl_IsValidStore.f (k : Nat) (l0_0 : List (List (S52))) : Option (Bool) := if (l0_0.length : Int) = 6 then ((impl_Version_74.f k l0_0).bind fun t338 => (some (!t338))) else (some false)
theorem impl_IsValidStore.mono : ∀ a0 k, LeO (impl_IsValidStore.f k a0) (impl_IsValidStore.f (k + 1) a0) := by
 intro a0 k
 unfold impl_IsValidStore.f
 repeat' (with_reducible first | exact impl_Version_74.mono .. | exact LeO.refl _ | exact LeO.none _ | refine LeO.ite ?_ ?_ | refine LeO.bind ?_ (fun _ => ?_))
theorem impl_IsValidStore.calls (k : Nat) (A0_0 : Option Addr) (c0_0 : Nat) (l0_0 : List (List (S52))) (r : Bool) (w : World) (hr0_0 : Kd.C (Kd.slice 52 k52) w A0_0 l0_0.length l0_0) (hc0_0 : l0_0.length ≤ c0_0) (h : impl_IsValidStore.f k l0_0 = some r) :
  Calls Try.prog 38 #[.agg #[.slice A0_0 l0_0.length c0_0]] w fun e w' => e = .returned (.bool r) ∧ Below w.heap.size w w' := by
 have hu34 := Try.underlying34
 have HR0_0 := AM_ hr0_0
 have HC0_0 := AM_ hc0_0
 clear hr0_0 hc0_0
 have HB := AM_ (Below.refl w.heap.size w)
 unfold impl_IsValidStore.f at h
 have H := h
 clear h
 by_cases c2 : (l0_0.length : Int) = 6
 rotate_left
 ·rw [if_neg c2] at H
  have c2b0 : ((l0_0.length : Int) == 6) = false := beq_eq_false_iff_ne.mpr c2
  have c2b1 : ((l0_0.length : Int) != 6) = true := bne_iff_ne.mpr c2
  obtain rfl := Option.some.inj H
  go_enter Try.func38, Try.ntmps38
  go_wp2_with (first | ((with_reducible refine G2 1 rfl ?_); refine BY 1 #[.slice A0_0 l0_0.length c0_0] 34 HB ?_; clear HB; intro gb337 w7 BK337 GW337 HB; obtain ⟨hcz8_0, hfz8_0⟩ := bk1 BK337.out))
  go_ret
  exact QT (BT HB.out)
 rw [if_pos c2] at H
 have c2b0 : ((l0_0.length : Int) == 6) = true := beq_iff_eq.mpr c2
 have c2b1 : ((l0_0.length : Int) != 6) = false := bne_eq_false_iff_eq.mpr c2
 clear c2
 obtain ⟨t338, A3, H⟩ := OB H
 obtain rfl := Option.some.inj H
 go_enter Try.func38, Try.ntmps38
 go_wp2_with (first | ((with_reducible refine G2 1 rfl ?_); refine BY 1 #[.slice A0_0 l0_0.length c0_0] 34 HB ?_; clear HB; intro gb337 w4 BK337 GW337 HB; obtain ⟨hcz5_0, hfz5_0⟩ := bk1 BK337.out) | (go_at_call 74; (with_reducible refine (impl_Version_74.calls k _ _ l0_0  t338 _ ?side1 ?side2 A3.out).mono ?_); (case side1 => exact CB HR0_0.out HB.out); (case side2 => exact HC0_0.out); rintro e w6 ⟨rfl, hb⟩; replace BK337 := BV BK337 hb; replace HB := BW HB hb; (try clear hb)))
 go_ret
 exact QT (BT HB.out)

/-! ### impl_isKey: function 56 -/
def impl_isKey.f (a0 : Int) : Option (Bool) := (impl_in.f a0 0 5).bind fun t339 => (some t339)
theorem impl_isKey.calls (a0 : Int) (r : Bool) (w : World) (h : impl_isKey.f a0 = some r) :
  Calls Try.prog 56 #[.int .i64 a0] w fun e w' => e = .returned (.bool r) ∧ Drawn0 w w' := by
 unfold impl_isKey.f at h
 have H := h
 clear h
 obtain ⟨t339, A2, H⟩ := OB H
 obtain rfl := Option.some.inj H
 go_enter Try.func56, Try.ntmps56
 go_wp2_with (first | ((with_reducible refine G1 41 rfl ?_); refine GC (some 4) Try.func41 #[.int .i64 a0, .int .i64 0, .int .i64 5] ?_; (with_reducible refine MQ (impl_in.calls a0 0 5 t339 _ A2.out) ?_); intro nd))
 go_ret
 exact ⟨by first | rfl | (simp; done) | (simp [*]; done), by repeat (first | exact Drawn0.refl _ | apply Drawn0.step)⟩

/-! ### impl_AreLocks: function 39 -/
def impl_AreLocks.l0 : Nat → List (S76) → List (S76) → Int → Int → Option (Bool)
 | 0, _, _, _, _ => none
 | k + 1, x0, x5, x6, x7 => if x7 < x6 then (if 0 ≤ x7 then (if x7 < (x5.length : Int) then ((impl_isKey.f ((rd_T76 x5 x7).f0)).bind fun t342 => (if t342 = true then ((impl_isID.f ((rd_T76 x5 x7).f1)).bind fun t343 => (if t343 = true then (if x7 > 0 then (if 0 ≤ (wrap64 (x7 - 1)) then (if (wrap64 (x7 - 1)) < (x0.length : Int) then (if ((rd_T76 x0 (wrap64 (x7 - 1))).f0) ≥ ((rd_T76 x5 x7).f0) then (some false) else (impl_AreLocks.l0 k x0 x5 x6 (wrap64 (x7 + 1)))) else (none)) else (none)) else (impl_AreLocks.l0 k x0 x5 x6 (wrap64 (x7 + 1)))) else (some false))) else (some false))) else (none)) else (none)) else (some true)
def impl_AreLocks.f (k : Nat) (l0 : List (S76)) : Option (Bool) := impl_AreLocks.l0 k l0 l0 (l0.length : Int) 0
theorem impl_AreLocks.mono_l : ∀ k, (∀ y0 y1 y2 y3, LeO (impl_AreLocks.l0 k y0 y1 y2 y3) (impl_AreLocks.l0 (k + 1) y0 y1 y2 y3))
 | 0 => fun _ _ _ _ r h => by simp [impl_AreLocks.l0] at h
 | k + 1 => by
  have ih0 := impl_AreLocks.mono_l k
  all_goals intros; unfold impl_AreLocks.l0
  all_goals repeat' (with_reducible first | exact ih0 .. | exact LeO.refl _ | exact LeO.none _ | refine LeO.ite ?_ ?_ | refine LeO.bind ?_ (fun _ => ?_))
theorem impl_AreLocks.mono : ∀ a0 k, LeO (impl_AreLocks.f k a0) (impl_AreLocks.f (k + 1) a0) := by
 intro a0 k
 have ih0 := impl_AreLocks.mono_l k
 unfold impl_AreLocks.f
 repeat' (with_reducible first | exact ih0 .. | exact LeO.refl _ | exact LeO.none _ | refine LeO.ite ?_ ?_ | refine LeO.bind ?_ (fun _ => ?_))
theorem impl_AreLocks.calls (k : Nat) (A0 : Option Addr) (c0 : Nat) (l0 : List (S76)) (r : Bool) (w : World) (hr0 : Kd.C k76 w A0 l0.length l0) (hc0 : l0.length ≤ c0) (h : impl_AreLocks.f k l0 = some r) :
  Calls Try.prog 39 #[.slice A0 l0.length c0] w fun e w' => e = .returned (.bool r) ∧ Below w.heap.size w w' := by
 have hu76 := Try.underlying76
 have HR0 := AM_ hr0
 have HC0 := AM_ hc0
 clear hr0 hc0
 have HB := AM_ (Below.refl w.heap.size w)
 unfold impl_AreLocks.f at h
 have H := h
 clear h
 have H' := AM_ H
 clear H
 go_enter Try.func39, Try.ntmps39
 go_wp2
 repeat (go_quiet (fail); try go_wp2)
 go_loopg [7] k (fun kq v7 w' => ∃ (x7_1 : Int), v7 = .int .i64 x7_1 ∧ Aside0 (impl_AreLocks.l0 kq l0 l0 (l0.length : Int) x7_1 = some r) ∧ Aside0 (kq ≤ k) ∧ Aside0 (Below w.heap.size w w'))
 case atStart => exact ⟨(0), (by first | rfl | (simp; done) | (simp [*]; done)), H', ⟨Nat.le_refl _⟩, ⟨BT HB.out⟩⟩
 case round =>
  clear H'
  obtain ⟨x7_1, rfl, HA, HK1, HB⟩ := hrel
  cases gk with
  | zero => exact absurd HA.out (by simp [impl_AreLocks.l0])
  | succ k1 =>
   have H := HA.out
   clear HA
   simp only [impl_AreLocks.l0] at H
   by_cases c2 : x7_1 < (l0.length : Int)
   rotate_left
   ·rw [if_neg c2] at H
    have c2b0 := decide_eq_false c2
    clear c2
    obtain rfl := Option.some.inj H
    go_wp2
    repeat (go_quiet (fail); try go_wp2)
    go_ret
    exact QT (BT HB.out)
   rw [if_pos c2] at H
   have c2b0 := decide_eq_true c2
   clear c2
   replace H := HI H
   obtain ⟨c3, H⟩ := H
   have c3b0 := decide_eq_true c3
   clear c3
   replace H := HI H
   obtain ⟨c4, H⟩ := H
   have c4b0 := decide_eq_true c4
   clear c4
   obtain ⟨t342, A5, H⟩ := OB H
   by_cases c6 : t342 = true
   rotate_left
   ·replace c6 := Bool.eq_false_iff.mpr c6
    subst c6
    replace H := HF H
    obtain rfl := Option.some.inj H
    have p340 : 0 ≤ (x7_1 : Int) := DT
    have q340 : x7_1 < (l0.length : Int) := DT
    obtain ⟨ad340, e340, hx340_0, hx340_1⟩ := at_T76 HR0.out x7_1 p340 q340
    cases e340
    replace hx340_0 := BC HB.out hx340_0
    replace hx340_1 := BC HB.out hx340_1
    replace p340 := eq_true p340
    replace q340 := eq_true q340
    go_wp2_with (first | ((with_reducible refine G2 4 rfl ?_); refine BY 4 #[.int .i64 0, .int .i64 0] 76 HB ?_; clear HB; intro gb341 w22 BK341 GW341 HB; obtain ⟨hcz23_0, hcz23_1, hfz23_0, hfz23_1⟩ := bk2 BK341.out) | (go_at_call 56; (with_reducible refine (impl_isKey.calls ((rd_T76 l0 x7_1).f0) false _ A5.out).mono ?_); rintro e w' ⟨rfl, ⟨nd, rfl⟩⟩; (try first | exact ⟨rfl, _, World.drewN_drewN _ _ _⟩ | exact ⟨rfl, _, Eq.trans (World.drewN_drewN _ _ _) (congrArg (World.drewN _) (Nat.add_assoc _ _ _))⟩)))
    repeat (go_quiet (first | ((with_reducible refine G2 4 rfl ?_); refine BY 4 #[.int .i64 0, .int .i64 0] 76 HB ?_; clear HB; intro gb341 w22 BK341 GW341 HB; obtain ⟨hcz23_0, hcz23_1, hfz23_0, hfz23_1⟩ := bk2 BK341.out) | (go_at_call 56; (with_reducible refine (impl_isKey.calls ((rd_T76 l0 x7_1).f0) false _ A5.out).mono ?_); rintro e w' ⟨rfl, ⟨nd, rfl⟩⟩; (try first | exact ⟨rfl, _, World.drewN_drewN _ _ _⟩ | exact ⟨rfl, _, Eq.trans (World.drewN_drewN _ _ _) (congrArg (World.drewN _) (Nat.add_assoc _ _ _))⟩))); try go_wp2_with (first | ((with_reducible refine G2 4 rfl ?_); refine BY 4 #[.int .i64 0, .int .i64 0] 76 HB ?_; clear HB; intro gb341 w22 BK341 GW341 HB; obtain ⟨hcz23_0, hcz23_1, hfz23_0, hfz23_1⟩ := bk2 BK341.out) | (go_at_call 56; (with_reducible refine (impl_isKey.calls ((rd_T76 l0 x7_1).f0) false _ A5.out).mono ?_); rintro e w' ⟨rfl, ⟨nd, rfl⟩⟩; (try first | exact ⟨rfl, _, World.drewN_drewN _ _ _⟩ | exact ⟨rfl, _, Eq.trans (World.drewN_drewN _ _ _) (congrArg (World.drewN _) (Nat.add_assoc _ _ _))⟩))))
    go_ret
    exact QT (BT HB.out)
   subst c6
   replace H := HT H
   obtain ⟨t343, A7, H⟩ := OB H
   by_cases c8 : t343 = true
   rotate_left
   ·replace c8 := Bool.eq_false_iff.mpr c8
    subst c8
    replace H := HF H
    obtain rfl := Option.some.inj H
    have p340 : 0 ≤ (x7_1 : Int) := DT
    have q340 : x7_1 < (l0.length : Int) := DT
    obtain ⟨ad340, e340, hx340_0, hx340_1⟩ := at_T76 HR0.out x7_1 p340 q340
    cases e340
    replace hx340_0 := BC HB.out hx340_0
    replace hx340_1 := BC HB.out hx340_1
    replace p340 := eq_true p340
    replace q340 := eq_true q340
    go_wp2_with (first | ((with_reducible refine G2 4 rfl ?_); refine BY 4 #[.int .i64 0, .int .i64 0] 76 HB ?_; clear HB; intro gb341 w20 BK341 GW341 HB; obtain ⟨hcz21_0, hcz21_1, hfz21_0, hfz21_1⟩ := bk2 BK341.out) | (go_at_call 56; (with_reducible refine (impl_isKey.calls ((rd_T76 l0 x7_1).f0) true _ A5.out).mono ?_); rintro e w' ⟨rfl, ⟨nd, rfl⟩⟩; (try first | exact ⟨rfl, _, World.drewN_drewN _ _ _⟩ | exact ⟨rfl, _, Eq.trans (World.drewN_drewN _ _ _) (congrArg (World.drewN _) (Nat.add_assoc _ _ _))⟩)) | (go_at_call 77; (with_reducible refine (impl_isID.calls ((rd_T76 l0 x7_1).f1) false _ A7.out).mono ?_); rintro e w' ⟨rfl, ⟨nd, rfl⟩⟩; (try first | exact ⟨rfl, _, World.drewN_drewN _ _ _⟩ | exact ⟨rfl, _, Eq.trans (World.drewN_drewN _ _ _) (congrArg (World.drewN _) (Nat.add_assoc _ _ _))⟩)))
    repeat (go_quiet (first | ((with_reducible refine G2 4 rfl ?_); refine BY 4 #[.int .i64 0, .int .i64 0] 76 HB ?_; clear HB; intro gb341 w20 BK341 GW341 HB; obtain ⟨hcz21_0, hcz21_1, hfz21_0, hfz21_1⟩ := bk2 BK341.out) | (go_at_call 56; (with_reducible refine (impl_isKey.calls ((rd_T76 l0 x7_1).f0) true _ A5.out).mono ?_); rintro e w' ⟨rfl, ⟨nd, rfl⟩⟩; (try first | exact ⟨rfl, _, World.drewN_drewN _ _ _⟩ | exact ⟨rfl, _, Eq.trans (World.drewN_drewN _ _ _) (congrArg (World.drewN _) (Nat.add_assoc _ _ _))⟩)) | (go_at_call 77; (with_reducible refine (impl_isID.calls ((rd_T76 l0 x7_1).f1) false _ A7.out).mono ?_); rintro e w' ⟨rfl, ⟨nd, rfl⟩⟩; (try first | exact ⟨rfl, _, World.drewN_drewN _ _ _⟩ | exact ⟨rfl, _, Eq.trans (World.drewN_drewN _ _ _) (congrArg (World.drewN _) (Nat.add_assoc _ _ _))⟩))); try go_wp2_with (first | ((with_reducible refine G2 4 rfl ?_); refine BY 4 #[.int .i64 0, .int .i64 0] 76 HB ?_; clear HB; intro gb341 w20 BK341 GW341 HB; obtain ⟨hcz21_0, hcz21_1, hfz21_0, hfz21_1⟩ := bk2 BK341.out) | (go_at_call 56; (with_reducible refine (impl_isKey.calls ((rd_T76 l0 x7_1).f0) true _ A5.out).mono ?_); rintro e w' ⟨rfl, ⟨nd, rfl⟩⟩; (try first | exact ⟨rfl, _, World.drewN_drewN _ _ _⟩ | exact ⟨rfl, _, Eq.trans (World.drewN_drewN _ _ _) (congrArg (World.drewN _) (Nat.add_assoc _ _ _))⟩)) | (go_at_call 77; (with_reducible refine (impl_isID.calls ((rd_T76 l0 x7_1).f1) false _ A7.out).mono ?_); rintro e w' ⟨rfl, ⟨nd, rfl⟩⟩; (try first | exact ⟨rfl, _, World.drewN_drewN _ _ _⟩ | exact ⟨rfl, _, Eq.trans (World.drewN_drewN _ _ _) (congrArg (World.drewN _) (Nat.add_assoc _ _ _))⟩))))
    go_ret
    exact QT (BT HB.out)
   subst c8
   replace H := HT H
   by_cases c9 : x7_1 > 0
   rotate_left
   ·rw [if_neg c9] at H
    have c9b0 : decide (0 < x7_1) = false := decide_eq_false c9
    clear c9
    have H' := AM_ H
    clear H
    have p340 : 0 ≤ (x7_1 : Int) := DT
    have q340 : x7_1 < (l0.length : Int) := DT
    obtain ⟨ad340, e340, hx340_0, hx340_1⟩ := at_T76 HR0.out x7_1 p340 q340
    cases e340
    replace hx340_0 := BC HB.out hx340_0
    replace hx340_1 := BC HB.out hx340_1
    replace p340 := eq_true p340
    replace q340 := eq_true q340
    go_wp2_with (first | ((with_reducible refine G2 4 rfl ?_); refine BY 4 #[.int .i64 0, .int .i64 0] 76 HB ?_; clear HB; intro gb341 w18 BK341 GW341 HB; obtain ⟨hcz19_0, hcz19_1, hfz19_0, hfz19_1⟩ := bk2 BK341.out) | (go_at_call 56; (with_reducible refine (impl_isKey.calls ((rd_T76 l0 x7_1).f0) true _ A5.out).mono ?_); rintro e w' ⟨rfl, ⟨nd, rfl⟩⟩; (try first | exact ⟨rfl, _, World.drewN_drewN _ _ _⟩ | exact ⟨rfl, _, Eq.trans (World.drewN_drewN _ _ _) (congrArg (World.drewN _) (Nat.add_assoc _ _ _))⟩)) | (go_at_call 77; (with_reducible refine (impl_isID.calls ((rd_T76 l0 x7_1).f1) true _ A7.out).mono ?_); rintro e w' ⟨rfl, ⟨nd, rfl⟩⟩; (try first | exact ⟨rfl, _, World.drewN_drewN _ _ _⟩ | exact ⟨rfl, _, Eq.trans (World.drewN_drewN _ _ _) (congrArg (World.drewN _) (Nat.add_assoc _ _ _))⟩)))
    repeat (go_quiet (first | ((with_reducible refine G2 4 rfl ?_); refine BY 4 #[.int .i64 0, .int .i64 0] 76 HB ?_; clear HB; intro gb341 w18 BK341 GW341 HB; obtain ⟨hcz19_0, hcz19_1, hfz19_0, hfz19_1⟩ := bk2 BK341.out) | (go_at_call 56; (with_reducible refine (impl_isKey.calls ((rd_T76 l0 x7_1).f0) true _ A5.out).mono ?_); rintro e w' ⟨rfl, ⟨nd, rfl⟩⟩; (try first | exact ⟨rfl, _, World.drewN_drewN _ _ _⟩ | exact ⟨rfl, _, Eq.trans (World.drewN_drewN _ _ _) (congrArg (World.drewN _) (Nat.add_assoc _ _ _))⟩)) | (go_at_call 77; (with_reducible refine (impl_isID.calls ((rd_T76 l0 x7_1).f1) true _ A7.out).mono ?_); rintro e w' ⟨rfl, ⟨nd, rfl⟩⟩; (try first | exact ⟨rfl, _, World.drewN_drewN _ _ _⟩ | exact ⟨rfl, _, Eq.trans (World.drewN_drewN _ _ _) (congrArg (World.drewN _) (Nat.add_assoc _ _ _))⟩))); try go_wp2_with (first | ((with_reducible refine G2 4 rfl ?_); refine BY 4 #[.int .i64 0, .int .i64 0] 76 HB ?_; clear HB; intro gb341 w18 BK341 GW341 HB; obtain ⟨hcz19_0, hcz19_1, hfz19_0, hfz19_1⟩ := bk2 BK341.out) | (go_at_call 56; (with_reducible refine (impl_isKey.calls ((rd_T76 l0 x7_1).f0) true _ A5.out).mono ?_); rintro e w' ⟨rfl, ⟨nd, rfl⟩⟩; (try first | exact ⟨rfl, _, World.drewN_drewN _ _ _⟩ | exact ⟨rfl, _, Eq.trans (World.drewN_drewN _ _ _) (congrArg (World.drewN _) (Nat.add_assoc _ _ _))⟩)) | (go_at_call 77; (with_reducible refine (impl_isID.calls ((rd_T76 l0 x7_1).f1) true _ A7.out).mono ?_); rintro e w' ⟨rfl, ⟨nd, rfl⟩⟩; (try first | exact ⟨rfl, _, World.drewN_drewN _ _ _⟩ | exact ⟨rfl, _, Eq.trans (World.drewN_drewN _ _ _) (congrArg (World.drewN _) (Nat.add_assoc _ _ _))⟩))))
    go_roundg k1
    case measure => have := HK1.out; omega
    case rel => exact ⟨(wrap64 (x7_1 + 1)), (by first | rfl | (simp; done) | (simp [*]; done)), H', ⟨by have := HK1.out; omega⟩, ⟨BT HB.out⟩⟩
   rw [if_pos c9] at H
   have c9b0 : decide (0 < x7_1) = true := decide_eq_true c9
   clear c9
   obtain ⟨ji10, hji10⟩ : ∃ j_ : Int, (wrap64 (x7_1 - 1)) = j_ := ⟨_, rfl⟩
   replace H : (if 0 ≤ (ji10) then (if (ji10) < (l0.length : Int) then (if ((rd_T76 l0 (ji10)).f0) ≥ ((rd_T76 l0 x7_1).f0) then (some false) else (impl_AreLocks.l0 k1 l0 l0 (l0.length : Int) (wrap64 (x7_1 + 1)))) else (none)) else (none)) = some r := by first | (rw [hji10] at H; exact H) | (simp only [hji10] at H ⊢; exact H)
   (try rw [hji10] at A5)
   (try rw [hji10] at A7)
   have hji10w : (IntKind.i64.wrap (x7_1 - 1)) = ji10 := (i64_w _).trans hji10
   replace H := HI H
   obtain ⟨c11, H⟩ := H
   have c11b0 := decide_eq_true c11
   clear c11
   replace H := HI H
   obtain ⟨c12, H⟩ := H
   have c12b0 := decide_eq_true c12
   clear c12
   by_cases c13 : ((rd_T76 l0 (ji10)).f0) ≥ ((rd_T76 l0 x7_1).f0)
   rotate_left
   ·rw [if_neg c13] at H
    have c13b0 : decide (((rd_T76 l0 x7_1).f0) ≤ ((rd_T76 l0 (ji10)).f0)) = false := decide_eq_false c13
    clear c13
    have H' := AM_ H
    clear H
    have p340 : 0 ≤ (x7_1 : Int) := DT
    have q340 : x7_1 < (l0.length : Int) := DT
    obtain ⟨ad340, e340, hx340_0, hx340_1⟩ := at_T76 HR0.out x7_1 p340 q340
    cases e340
    replace hx340_0 := BC HB.out hx340_0
    replace hx340_1 := BC HB.out hx340_1
    replace p340 := eq_true p340
    replace q340 := eq_true q340
    go_wp2_with (first | ((with_reducible refine G2 4 rfl ?_); refine BY 4 #[.int .i64 0, .int .i64 0] 76 HB ?_; clear HB; intro gb341 w16 BK341 GW341 HB; obtain ⟨hcz17_0, hcz17_1, hfz17_0, hfz17_1⟩ := bk2 BK341.out) | (go_at_call 56; (with_reducible refine (impl_isKey.calls ((rd_T76 l0 x7_1).f0) true _ A5.out).mono ?_); rintro e w' ⟨rfl, ⟨nd, rfl⟩⟩; (try first | exact ⟨rfl, _, World.drewN_drewN _ _ _⟩ | exact ⟨rfl, _, Eq.trans (World.drewN_drewN _ _ _) (congrArg (World.drewN _) (Nat.add_assoc _ _ _))⟩)) | (go_at_call 77; (with_reducible refine (impl_isID.calls ((rd_T76 l0 x7_1).f1) true _ A7.out).mono ?_); rintro e w' ⟨rfl, ⟨nd, rfl⟩⟩; (try first | exact ⟨rfl, _, World.drewN_drewN _ _ _⟩ | exact ⟨rfl, _, Eq.trans (World.drewN_drewN _ _ _) (congrArg (World.drewN _) (Nat.add_assoc _ _ _))⟩); have p344 : 0 ≤ ((ji10) : Int) := DT; have q344 : (ji10) < (l0.length : Int) := DT; obtain ⟨ad344, e344, hx344_0, hx344_1⟩ := at_T76 HR0.out (ji10) p344 q344; obtain rfl : ad340 = ad344 := (by injection e344); have hn344_0 : ad340.block ≠ gb341 := Nat.ne_of_lt (Nat.lt_of_lt_of_le (by have := World.block_lt_of_cell? _ _ hx344_0; first | rwa [add_block] at this | exact this) GW341.out); have hn344_1 : ad340.block ≠ gb341 := Nat.ne_of_lt (Nat.lt_of_lt_of_le (by have := World.block_lt_of_cell? _ _ hx344_0; first | rwa [add_block] at this | exact this) GW341.out); replace hx344_0 := BD HB.out hx344_0; replace hx344_1 := BD HB.out hx344_1; replace hx344_0 := (cell_far (p := ⟨gb341, 0, none⟩) (by first | (rw [add_block]; exact hn344_0) | (show (Addr.add _ _).block ≠ _; rw [add_block]; exact hn344_0) | exact hn344_0) (.int .i64 ((rd_T76 l0 x7_1).f0))).trans hx344_0; replace hx344_1 := (cell_far (p := ⟨gb341, 0, none⟩) (by first | (rw [add_block]; exact hn344_0) | (show (Addr.add _ _).block ≠ _; rw [add_block]; exact hn344_0) | exact hn344_0) (.int .i64 ((rd_T76 l0 x7_1).f0))).trans hx344_1; replace hx344_0 := (cell_far (p := ⟨gb341, 1, none⟩) (by first | (rw [add_block]; exact hn344_1) | (show (Addr.add _ _).block ≠ _; rw [add_block]; exact hn344_1) | exact hn344_1) (.int .i64 ((rd_T76 l0 x7_1).f1))).trans hx344_0; replace hx344_1 := (cell_far (p := ⟨gb341, 1, none⟩) (by first | (rw [add_block]; exact hn344_1) | (show (Addr.add _ _).block ≠ _; rw [add_block]; exact hn344_1) | exact hn344_1) (.int .i64 ((rd_T76 l0 x7_1).f1))).trans hx344_1; (try have hy344_0 := fun (n_ : Nat) => (show ((((w16.drewN n_).setCell ⟨gb341, 0, none⟩ (.int .i64 ((rd_T76 l0 x7_1).f0))).setCell ⟨gb341, 1, none⟩ (.int .i64 ((rd_T76 l0 x7_1).f1)))).cell? _ = some _ from hx344_0)); (try have hy344_1 := fun (n_ : Nat) => (show ((((w16.drewN n_).setCell ⟨gb341, 0, none⟩ (.int .i64 ((rd_T76 l0 x7_1).f0))).setCell ⟨gb341, 1, none⟩ (.int .i64 ((rd_T76 l0 x7_1).f1)))).cell? _ = some _ from hx344_1)); clear hn344_0; clear hn344_1; replace p344 := eq_true p344; replace q344 := eq_true q344))
    repeat (go_quiet (first | ((with_reducible refine G2 4 rfl ?_); refine BY 4 #[.int .i64 0, .int .i64 0] 76 HB ?_; clear HB; intro gb341 w16 BK341 GW341 HB; obtain ⟨hcz17_0, hcz17_1, hfz17_0, hfz17_1⟩ := bk2 BK341.out) | (go_at_call 56; (with_reducible refine (impl_isKey.calls ((rd_T76 l0 x7_1).f0) true _ A5.out).mono ?_); rintro e w' ⟨rfl, ⟨nd, rfl⟩⟩; (try first | exact ⟨rfl, _, World.drewN_drewN _ _ _⟩ | exact ⟨rfl, _, Eq.trans (World.drewN_drewN _ _ _) (congrArg (World.drewN _) (Nat.add_assoc _ _ _))⟩)) | (go_at_call 77; (with_reducible refine (impl_isID.calls ((rd_T76 l0 x7_1).f1) true _ A7.out).mono ?_); rintro e w' ⟨rfl, ⟨nd, rfl⟩⟩; (try first | exact ⟨rfl, _, World.drewN_drewN _ _ _⟩ | exact ⟨rfl, _, Eq.trans (World.drewN_drewN _ _ _) (congrArg (World.drewN _) (Nat.add_assoc _ _ _))⟩); have p344 : 0 ≤ ((ji10) : Int) := DT; have q344 : (ji10) < (l0.length : Int) := DT; obtain ⟨ad344, e344, hx344_0, hx344_1⟩ := at_T76 HR0.out (ji10) p344 q344; obtain rfl : ad340 = ad344 := (by injection e344); have hn344_0 : ad340.block ≠ gb341 := Nat.ne_of_lt (Nat.lt_of_lt_of_le (by have := World.block_lt_of_cell? _ _ hx344_0; first | rwa [add_block] at this | exact this) GW341.out); have hn344_1 : ad340.block ≠ gb341 := Nat.ne_of_lt (Nat.lt_of_lt_of_le (by have := World.block_lt_of_cell? _ _ hx344_0; first | rwa [add_block] at this | exact this) GW341.out); replace hx344_0 := BD HB.out hx344_0; replace hx344_1 := BD HB.out hx344_1; replace hx344_0 := (cell_far (p := ⟨gb341, 0, none⟩) (by first | (rw [add_block]; exact hn344_0) | (show (Addr.add _ _).block ≠ _; rw [add_block]; exact hn344_0) | exact hn344_0) (.int .i64 ((rd_T76 l0 x7_1).f0))).trans hx344_0; replace hx344_1 := (cell_far (p := ⟨gb341, 0, none⟩) (by first | (rw [add_block]; exact hn344_0) | (show (Addr.add _ _).block ≠ _; rw [add_block]; exact hn344_0) | exact hn344_0) (.int .i64 ((rd_T76 l0 x7_1).f0))).trans hx344_1; replace hx344_0 := (cell_far (p := ⟨gb341, 1, none⟩) (by first | (rw [add_block]; exact hn344_1) | (show (Addr.add _ _).block ≠ _; rw [add_block]; exact hn344_1) | exact hn344_1) (.int .i64 ((rd_T76 l0 x7_1).f1))).trans hx344_0; replace hx344_1 := (cell_far (p := ⟨gb341, 1, none⟩) (by first | (rw [add_block]; exact hn344_1) | (show (Addr.add _ _).block ≠ _; rw [add_block]; exact hn344_1) | exact hn344_1) (.int .i64 ((rd_T76 l0 x7_1).f1))).trans hx344_1; (try have hy344_0 := fun (n_ : Nat) => (show ((((w16.drewN n_).setCell ⟨gb341, 0, none⟩ (.int .i64 ((rd_T76 l0 x7_1).f0))).setCell ⟨gb341, 1, none⟩ (.int .i64 ((rd_T76 l0 x7_1).f1)))).cell? _ = some _ from hx344_0)); (try have hy344_1 := fun (n_ : Nat) => (show ((((w16.drewN n_).setCell ⟨gb341, 0, none⟩ (.int .i64 ((rd_T76 l0 x7_1).f0))).setCell ⟨gb341, 1, none⟩ (.int .i64 ((rd_T76 l0 x7_1).f1)))).cell? _ = some _ from hx344_1)); clear hn344_0; clear hn344_1; replace p344 := eq_true p344; replace q344 := eq_true q344)); try go_wp2_with (first | ((with_reducible refine G2 4 rfl ?_); refine BY 4 #[.int .i64 0, .int .i64 0] 76 HB ?_; clear HB; intro gb341 w16 BK341 GW341 HB; obtain ⟨hcz17_0, hcz17_1, hfz17_0, hfz17_1⟩ := bk2 BK341.out) | (go_at_call 56; (with_reducible refine (impl_isKey.calls ((rd_T76 l0 x7_1).f0) true _ A5.out).mono ?_); rintro e w' ⟨rfl, ⟨nd, rfl⟩⟩; (try first | exact ⟨rfl, _, World.drewN_drewN _ _ _⟩ | exact ⟨rfl, _, Eq.trans (World.drewN_drewN _ _ _) (congrArg (World.drewN _) (Nat.add_assoc _ _ _))⟩)) | (go_at_call 77; (with_reducible refine (impl_isID.calls ((rd_T76 l0 x7_1).f1) true _ A7.out).mono ?_); rintro e w' ⟨rfl, ⟨nd, rfl⟩⟩; (try first | exact ⟨rfl, _, World.drewN_drewN _ _ _⟩ | exact ⟨rfl, _, Eq.trans (World.drewN_drewN _ _ _) (congrArg (World.drewN _) (Nat.add_assoc _ _ _))⟩); have p344 : 0 ≤ ((ji10) : Int) := DT; have q344 : (ji10) < (l0.length : Int) := DT; obtain ⟨ad344, e344, hx344_0, hx344_1⟩ := at_T76 HR0.out (ji10) p344 q344; obtain rfl : ad340 = ad344 := (by injection e344); have hn344_0 : ad340.block ≠ gb341 := Nat.ne_of_lt (Nat.lt_of_lt_of_le (by have := World.block_lt_of_cell? _ _ hx344_0; first | rwa [add_block] at this | exact this) GW341.out); have hn344_1 : ad340.block ≠ gb341 := Nat.ne_of_lt (Nat.lt_of_lt_of_le (by have := World.block_lt_of_cell? _ _ hx344_0; first | rwa [add_block] at this | exact this) GW341.out); replace hx344_0 := BD HB.out hx344_0; replace hx344_1 := BD HB.out hx344_1; replace hx344_0 := (cell_far (p := ⟨gb341, 0, none⟩) (by first | (rw [add_block]; exact hn344_0) | (show (Addr.add _ _).block ≠ _; rw [add_block]; exact hn344_0) | exact hn344_0) (.int .i64 ((rd_T76 l0 x7_1).f0))).trans hx344_0; replace hx344_1 := (cell_far (p := ⟨gb341, 0, none⟩) (by first | (rw [add_block]; exact hn344_0) | (show (Addr.add _ _).block ≠ _; rw [add_block]; exact hn344_0) | exact hn344_0) (.int .i64 ((rd_T76 l0 x7_1).f0))).trans hx344_1; replace hx344_0 := (cell_far (p := ⟨gb341, 1, none⟩) (by first | (rw [add_block]; exact hn344_1) | (show (Addr.add _ _).block ≠ _; rw [add_block]; exact hn344_1) | exact hn344_1) (.int .i64 ((rd_T76 l0 x7_1).f1))).trans hx344_0; replace hx344_1 := (cell_far (p := ⟨gb341, 1, none⟩) (by first | (rw [add_block]; exact hn344_1) | (show (Addr.add _ _).block ≠ _; rw [add_block]; exact hn344_1) | exact hn344_1) (.int .i64 ((rd_T76 l0 x7_1).f1))).trans hx344_1; (try have hy344_0 := fun (n_ : Nat) => (show ((((w16.drewN n_).setCell ⟨gb341, 0, none⟩ (.int .i64 ((rd_T76 l0 x7_1).f0))).setCell ⟨gb341, 1, none⟩ (.int .i64 ((rd_T76 l0 x7_1).f1)))).cell? _ = some _ from hx344_0)); (try have hy344_1 := fun (n_ : Nat) => (show ((((w16.drewN n_).setCell ⟨gb341, 0, none⟩ (.int .i64 ((rd_T76 l0 x7_1).f0))).setCell ⟨gb341, 1, none⟩ (.int .i64 ((rd_T76 l0 x7_1).f1)))).cell? _ = some _ from hx344_1)); clear hn344_0; clear hn344_1; replace p344 := eq_true p344; replace q344 := eq_true q344)))
    go_roundg k1
    case measure => have := HK1.out; omega
    case rel => exact ⟨(wrap64 (x7_1 + 1)), (by first | rfl | (simp; done) | (simp [*]; done)), H', ⟨by have := HK1.out; omega⟩, ⟨BT HB.out⟩⟩
   rw [if_pos c13] at H
   have c13b0 : decide (((rd_T76 l0 x7_1).f0) ≤ ((rd_T76 l0 (ji10)).f0)) = true := decide_eq_true c13
   clear c13
   obtain rfl := Option.some.inj H
   have p340 : 0 ≤ (x7_1 : Int) := DT
   have q340 : x7_1 < (l0.length : Int) := DT
   obtain ⟨ad340, e340, hx340_0, hx340_1⟩ := at_T76 HR0.out x7_1 p340 q340
   cases e340
   replace hx340_0 := BC HB.out hx340_0
   replace hx340_1 := BC HB.out hx340_1
   replace p340 := eq_true p340
   replace q340 := eq_true q340
   go_wp2_with (first | ((with_reducible refine G2 4 rfl ?_); refine BY 4 #[.int .i64 0, .int .i64 0] 76 HB ?_; clear HB; intro gb341 w14 BK341 GW341 HB; obtain ⟨hcz15_0, hcz15_1, hfz15_0, hfz15_1⟩ := bk2 BK341.out) | (go_at_call 56; (with_reducible refine (impl_isKey.calls ((rd_T76 l0 x7_1).f0) true _ A5.out).mono ?_); rintro e w' ⟨rfl, ⟨nd, rfl⟩⟩; (try first | exact ⟨rfl, _, World.drewN_drewN _ _ _⟩ | exact ⟨rfl, _, Eq.trans (World.drewN_drewN _ _ _) (congrArg (World.drewN _) (Nat.add_assoc _ _ _))⟩)) | (go_at_call 77; (with_reducible refine (impl_isID.calls ((rd_T76 l0 x7_1).f1) true _ A7.out).mono ?_); rintro e w' ⟨rfl, ⟨nd, rfl⟩⟩; (try first | exact ⟨rfl, _, World.drewN_drewN _ _ _⟩ | exact ⟨rfl, _, Eq.trans (World.drewN_drewN _ _ _) (congrArg (World.drewN _) (Nat.add_assoc _ _ _))⟩); have p344 : 0 ≤ ((ji10) : Int) := DT; have q344 : (ji10) < (l0.length : Int) := DT; obtain ⟨ad344, e344, hx344_0, hx344_1⟩ := at_T76 HR0.out (ji10) p344 q344; obtain rfl : ad340 = ad344 := (by injection e344); have hn344_0 : ad340.block ≠ gb341 := Nat.ne_of_lt (Nat.lt_of_lt_of_le (by have := World.block_lt_of_cell? _ _ hx344_0; first | rwa [add_block] at this | exact this) GW341.out); have hn344_1 : ad340.block ≠ gb341 := Nat.ne_of_lt (Nat.lt_of_lt_of_le (by have := World.block_lt_of_cell? _ _ hx344_0; first | rwa [add_block] at this | exact this) GW341.out); replace hx344_0 := BD HB.out hx344_0; replace hx344_1 := BD HB.out hx344_1; replace hx344_0 := (cell_far (p := ⟨gb341, 0, none⟩) (by first | (rw [add_block]; exact hn344_0) | (show (Addr.add _ _).block ≠ _; rw [add_block]; exact hn344_0) | exact hn344_0) (.int .i64 ((rd_T76 l0 x7_1).f0))).trans hx344_0; replace hx344_1 := (cell_far (p := ⟨gb341, 0, none⟩) (by first | (rw [add_block]; exact hn344_0) | (show (Addr.add _ _).block ≠ _; rw [add_block]; exact hn344_0) | exact hn344_0) (.int .i64 ((rd_T76 l0 x7_1).f0))).trans hx344_1; replace hx344_0 := (cell_far (p := ⟨gb341, 1, none⟩) (by first | (rw [add_block]; exact hn344_1) | (show (Addr.add _ _).block ≠ _; rw [add_block]; exact hn344_1) | exact hn344_1) (.int .i64 ((rd_T76 l0 x7_1).f1))).trans hx344_0; replace hx344_1 := (cell_far (p := ⟨gb341, 1, none⟩) (by first | (rw [add_block]; exact hn344_1) | (show (Addr.add _ _).block ≠ _; rw [add_block]; exact hn344_1) | exact hn344_1) (.int .i64 ((rd_T76 l0 x7_1).f1))).trans hx344_1; (try have hy344_0 := fun (n_ : Nat) => (show ((((w14.drewN n_).setCell ⟨gb341, 0, none⟩ (.int .i64 ((rd_T76 l0 x7_1).f0))).setCell ⟨gb341, 1, none⟩ (.int .i64 ((rd_T76 l0 x7_1).f1)))).cell? _ = some _ from hx344_0)); (try have hy344_1 := fun (n_ : Nat) => (show ((((w14.drewN n_).setCell ⟨gb341, 0, none⟩ (.int .i64 ((rd_T76 l0 x7_1).f0))).setCell ⟨gb341, 1, none⟩ (.int .i64 ((rd_T76 l0 x7_1).f1)))).cell? _ = some _ from hx344_1)); clear hn344_0; clear hn344_1; replace p344 := eq_true p344; replace q344 := eq_true q344))
   repeat (go_quiet (first | ((with_reducible refine G2 4 rfl ?_); refine BY 4 #[.int .i64 0, .int .i64 0] 76 HB ?_; clear HB; intro gb341 w14 BK341 GW341 HB; obtain ⟨hcz15_0, hcz15_1, hfz15_0, hfz15_1⟩ := bk2 BK341.out) | (go_at_call 56; (with_reducible refine (impl_isKey.calls ((rd_T76 l0 x7_1).f0) true _ A5.out).mono ?_); rintro e w' ⟨rfl, ⟨nd, rfl⟩⟩; (try first | exact ⟨rfl, _, World.drewN_drewN _ _ _⟩ | exact ⟨rfl, _, Eq.trans (World.drewN_drewN _ _ _) (congrArg (World.drewN _) (Nat.add_assoc _ _ _))⟩)) | (go_at_call 77; (with_reducible refine (impl_isID.calls ((rd_T76 l0 x7_1).f1) true _ A7.out).mono ?_); rintro e w' ⟨rfl, ⟨nd, rfl⟩⟩; (try first | exact ⟨rfl, _, World.drewN_drewN _ _ _⟩ | exact ⟨rfl, _, Eq.trans (World.drewN_drewN _ _ _) (congrArg (World.drewN _) (Nat.add_assoc _ _ _))⟩); have p344 : 0 ≤ ((ji10) : Int) := DT; have q344 : (ji10) < (l0.length : Int) := DT; obtain ⟨ad344, e344, hx344_0, hx344_1⟩ := at_T76 HR0.out (ji10) p344 q344; obtain rfl : ad340 = ad344 := (by injection e344); have hn344_0 : ad340.block ≠ gb341 := Nat.ne_of_lt (Nat.lt_of_lt_of_le (by have := World.block_lt_of_cell? _ _ hx344_0; first | rwa [add_block] at this | exact this) GW341.out); have hn344_1 : ad340.block ≠ gb341 := Nat.ne_of_lt (Nat.lt_of_lt_of_le (by have := World.block_lt_of_cell? _ _ hx344_0; first | rwa [add_block] at this | exact this) GW341.out); replace hx344_0 := BD HB.out hx344_0; replace hx344_1 := BD HB.out hx344_1; replace hx344_0 := (cell_far (p := ⟨gb341, 0, none⟩) (by first | (rw [add_block]; exact hn344_0) | (show (Addr.add _ _).block ≠ _; rw [add_block]; exact hn344_0) | exact hn344_0) (.int .i64 ((rd_T76 l0 x7_1).f0))).trans hx344_0; replace hx344_1 := (cell_far (p := ⟨gb341, 0, none⟩) (by first | (rw [add_block]; exact hn344_0) | (show (Addr.add _ _).block ≠ _; rw [add_block]; exact hn344_0) | exact hn344_0) (.int .i64 ((rd_T76 l0 x7_1).f0))).trans hx344_1; replace hx344_0 := (cell_far (p := ⟨gb341, 1, none⟩) (by first | (rw [add_block]; exact hn344_1) | (show (Addr.add _ _).block ≠ _; rw [add_block]; exact hn344_1) | exact hn344_1) (.int .i64 ((rd_T76 l0 x7_1).f1))).trans hx344_0; replace hx344_1 := (cell_far (p := ⟨gb341, 1, none⟩) (by first | (rw [add_block]; exact hn344_1) | (show (Addr.add _ _).block ≠ _; rw [add_block]; exact hn344_1) | exact hn344_1) (.int .i64 ((rd_T76 l0 x7_1).f1))).trans hx344_1; (try have hy344_0 := fun (n_ : Nat) => (show ((((w14.drewN n_).setCell ⟨gb341, 0, none⟩ (.int .i64 ((rd_T76 l0 x7_1).f0))).setCell ⟨gb341, 1, none⟩ (.int .i64 ((rd_T76 l0 x7_1).f1)))).cell? _ = some _ from hx344_0)); (try have hy344_1 := fun (n_ : Nat) => (show ((((w14.drewN n_).setCell ⟨gb341, 0, none⟩ (.int .i64 ((rd_T76 l0 x7_1).f0))).setCell ⟨gb341, 1, none⟩ (.int .i64 ((rd_T76 l0 x7_1).f1)))).cell? _ = some _ from hx344_1)); clear hn344_0; clear hn344_1; replace p344 := eq_true p344; replace q344 := eq_true q344)); try go_wp2_with (first | ((with_reducible refine G2 4 rfl ?_); refine BY 4 #[.int .i64 0, .int .i64 0] 76 HB ?_; clear HB; intro gb341 w14 BK341 GW341 HB; obtain ⟨hcz15_0, hcz15_1, hfz15_0, hfz15_1⟩ := bk2 BK341.out) | (go_at_call 56; (with_reducible refine (impl_isKey.calls ((rd_T76 l0 x7_1).f0) true _ A5.out).mono ?_); rintro e w' ⟨rfl, ⟨nd, rfl⟩⟩; (try first | exact ⟨rfl, _, World.drewN_drewN _ _ _⟩ | exact ⟨rfl, _, Eq.trans (World.drewN_drewN _ _ _) (congrArg (World.drewN _) (Nat.add_assoc _ _ _))⟩)) | (go_at_call 77; (with_reducible refine (impl_isID.calls ((rd_T76 l0 x7_1).f1) true _ A7.out).mono ?_); rintro e w' ⟨rfl, ⟨nd, rfl⟩⟩; (try first | exact ⟨rfl, _, World.drewN_drewN _ _ _⟩ | exact ⟨rfl, _, Eq.trans (World.drewN_drewN _ _ _) (congrArg (World.drewN _) (Nat.add_assoc _ _ _))⟩); have p344 : 0 ≤ ((ji10) : Int) := DT; have q344 : (ji10) < (l0.length : Int) := DT; obtain ⟨ad344, e344, hx344_0, hx344_1⟩ := at_T76 HR0.out (ji10) p344 q344; obtain rfl : ad340 = ad344 := (by injection e344); have hn344_0 : ad340.block ≠ gb341 := Nat.ne_of_lt (Nat.lt_of_lt_of_le (by have := World.block_lt_of_cell? _ _ hx344_0; first | rwa [add_block] at this | exact this) GW341.out); have hn344_1 : ad340.block ≠ gb341 := Nat.ne_of_lt (Nat.lt_of_lt_of_le (by have := World.block_lt_of_cell? _ _ hx344_0; first | rwa [add_block] at this | exact this) GW341.out); replace hx344_0 := BD HB.out hx344_0; replace hx344_1 := BD HB.out hx344_1; replace hx344_0 := (cell_far (p := ⟨gb341, 0, none⟩) (by first | (rw [add_block]; exact hn344_0) | (show (Addr.add _ _).block ≠ _; rw [add_block]; exact hn344_0) | exact hn344_0) (.int .i64 ((rd_T76 l0 x7_1).f0))).trans hx344_0; replace hx344_1 := (cell_far (p := ⟨gb341, 0, none⟩) (by first | (rw [add_block]; exact hn344_0) | (show (Addr.add _ _).block ≠ _; rw [add_block]; exact hn344_0) | exact hn344_0) (.int .i64 ((rd_T76 l0 x7_1).f0))).trans hx344_1; replace hx344_0 := (cell_far (p := ⟨gb341, 1, none⟩) (by first | (rw [add_block]; exact hn344_1) | (show (Addr.add _ _).block ≠ _; rw [add_block]; exact hn344_1) | exact hn344_1) (.int .i64 ((rd_T76 l0 x7_1).f1))).trans hx344_0; replace hx344_1 := (cell_far (p := ⟨gb341, 1, none⟩) (by first | (rw [add_block]; exact hn344_1) | (show (Addr.add _ _).block ≠ _; rw [add_block]; exact hn344_1) | exact hn344_1) (.int .i64 ((rd_T76 l0 x7_1).f1))).trans hx344_1; (try have hy344_0 := fun (n_ : Nat) => (show ((((w14.drewN n_).setCell ⟨gb341, 0, none⟩ (.int .i64 ((rd_T76 l0 x7_1).f0))).setCell ⟨gb341, 1, none⟩ (.int .i64 ((rd_T76 l0 x7_1).f1)))).cell? _ = some _ from hx344_0)); (try have hy344_1 := fun (n_ : Nat) => (show ((((w14.drewN n_).setCell ⟨gb341, 0, none⟩ (.int .i64 ((rd_T76 l0 x7_1).f0))).setCell ⟨gb341, 1, none⟩ (.int .i64 ((rd_T76 l0 x7_1).f1)))).cell? _ = some _ from hx344_1)); clear hn344_0; clear hn344_1; replace p344 := eq_true p344; replace q344 := eq_true q344)))
   go_ret
   exact ⟨by first | rfl | (simp [errW_none, errW_some] <;> rfl) | (simp only [← hji10]; first | rfl | (simp [errW_none, errW_some] <;> rfl)) | (simp [*, errW_none, errW_some] <;> rfl), BT HB.out⟩

end Go.Proofs.Ytdgknikgfjhohaa.PFnExactIsValidEngine
