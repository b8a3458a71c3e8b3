-- Printed by wip/myprint.py.
import Derived.Test.YtdgknikgfjhohaaPFnExactIsValidEnginex0
namespace Go.Proofs.Ytdgknikgfjhohaa.PFnExactIsValidEngine
open Go.RowKit Go.Proofs.YtdgknikgfjhohaaW.PrintWords Go.Proofs.YtdgknikgfjhohaaW.PrintLast Go.Proofs.YtdgknikgfjhohaaW.PrintMore
set_option maxHeartbeats 8000000
set_option maxRecDepth 100000
set_option linter.unusedVariables false
set_option linter.unusedSimpArgs false

/-! ### laws_szVersionS: function 101 -/
def laws_szVersionS.f (l0 : List (S171)) (a1 : Int) : Option (Int) := if (wrap64 (a1 - (l0.length : Int))) < 0 then (some (-1)) else (some (wrap64 (a1 - (l0.length : Int))))
theorem laws_szVersionS.calls (A0 : Option Addr) (c0 : Nat) (l0 : List (S171)) (a1 : Int) (r : Int) (w : World) (hr0 : Kd.C k171 w A0 l0.length l0) (hc0 : l0.length ≤ c0) (h : laws_szVersionS.f l0 a1 = some r) :
  Calls Try.prog 101 #[.slice A0 l0.length c0, .int .i64 a1] w fun e w' => e = .returned (.int .i64 r) ∧ Drawn0 w w' := by
 have HR0 := AM_ hr0
 have HC0 := AM_ hc0
 clear hr0 hc0
 unfold laws_szVersionS.f at h
 have H := h
 clear h
 by_cases c3 : (wrap64 (a1 - (l0.length : Int))) < 0
 ·rw [if_pos c3] at H
  have c3b0 := decide_eq_true c3
  clear c3
  obtain rfl := Option.some.inj H
  go_enter Try.func101, Try.ntmps101
  go_wp2
  go_ret
  exact ⟨by first | rfl | (simp; done) | (simp [*]; done), by repeat (first | exact Drawn0.refl _ | apply Drawn0.step)⟩
 rw [if_neg c3] at H
 have c3b0 := decide_eq_false c3
 clear c3
 obtain rfl := Option.some.inj H
 go_enter Try.func101, Try.ntmps101
 go_wp2
 go_ret
 exact ⟨by first | rfl | (simp; done) | (simp [*]; done), by repeat (first | exact Drawn0.refl _ | apply Drawn0.step)⟩

/-! ### laws_szVersionSS: function 65 -/
def laws_szVersionSS.l0 : Nat → List (List (S171)) → Int → Int → Option (Int)
 | 0, _, _, _ => none
 | k + 1, x0, x1, x5 => if x5 < (x0.length : Int) then (if 0 ≤ x5 then ((laws_szVersionS.f (rd_L2 x0 x5) x1).bind fun t102 => (if t102 < 0 then (some (-1)) else (laws_szVersionSS.l0 k x0 t102 (wrap64 (x5 + 1))))) else (none)) else (some x1)
def laws_szVersionSS.f (k : Nat) (l0 : List (List (S171))) (a1 : Int) : Option (Int) := if (wrap64 (a1 - (l0.length : Int))) < 0 then (some (-1)) else (laws_szVersionSS.l0 k l0 (wrap64 (a1 - (l0.length : Int))) 0)
theorem laws_szVersionSS.mono_l : ∀ k, (∀ y0 y1 y2, LeO (laws_szVersionSS.l0 k y0 y1 y2) (laws_szVersionSS.l0 (k + 1) y0 y1 y2))
 | 0 => fun _ _ _ r h => by simp [laws_szVersionSS.l0] at h
 | k + 1 => by
  have ih0 := laws_szVersionSS.mono_l k
  all_goals intros; unfold laws_szVersionSS.l0
  all_goals repeat' (with_reducible first | exact ih0 .. | exact LeO.refl _ | exact LeO.none _ | refine LeO.ite ?_ ?_ | refine LeO.bind ?_ (fun _ => ?_))
theorem laws_szVersionSS.mono : ∀ a0 a1 k, LeO (laws_szVersionSS.f k a0 a1) (laws_szVersionSS.f (k + 1) a0 a1) := by
 intro a0 a1 k
 have ih0 := laws_szVersionSS.mono_l k
 unfold laws_szVersionSS.f
 repeat' (with_reducible first | exact ih0 .. | exact LeO.refl _ | exact LeO.none _ | refine LeO.ite ?_ ?_ | refine LeO.bind ?_ (fun _ => ?_))
theorem laws_szVersionSS.calls (k : Nat) (A0 : Option Addr) (c0 : Nat) (l0 : List (List (S171))) (a1 : Int) (r : Int) (w : World) (hr0 : Kd.C (Kd.slice 171 k171) w A0 l0.length l0) (hc0 : l0.length ≤ c0) (h : laws_szVersionSS.f k l0 a1 = some r) :
  Calls Try.prog 65 #[.slice A0 l0.length c0, .int .i64 a1] w fun e w' => e = .returned (.int .i64 r) ∧ Drawn0 w w' := by
 have HR0 := AM_ hr0
 have HC0 := AM_ hc0
 clear hr0 hc0
 unfold laws_szVersionSS.f at h
 have H := h
 clear h
 by_cases c3 : (wrap64 (a1 - (l0.length : Int))) < 0
 ·rw [if_pos c3] at H
  have c3b0 := decide_eq_true c3
  clear c3
  obtain rfl := Option.some.inj H
  go_enter Try.func65, Try.ntmps65
  go_wp2
  go_ret
  exact ⟨by first | rfl | (simp; done) | (simp [*]; done), by repeat (first | exact Drawn0.refl _ | apply Drawn0.step)⟩
 rw [if_neg c3] at H
 have c3b0 := decide_eq_false c3
 clear c3
 have H' := AM_ H
 clear H
 go_enter Try.func65, Try.ntmps65
 go_wp2
 go_loopg [1, 5] k (fun kq v1 v5 w' => ∃ (x1_1 : Int) (x5_1 : Int), v1 = .int .i64 x1_1 ∧ v5 = .int .i64 x5_1 ∧ Aside0 (laws_szVersionSS.l0 kq l0 x1_1 x5_1 = some r) ∧ Aside0 (kq ≤ k) ∧ Drawn0 w w')
 case atStart => exact ⟨(wrap64 (a1 - (l0.length : Int))), (0), (by first | rfl | (simp; done) | (simp [*]; done)), (by first | rfl | (simp; done) | (simp [*]; done)), H', ⟨Nat.le_refl _⟩, by repeat (first | exact Drawn0.refl _ | apply Drawn0.step)⟩
 case round =>
  clear H'
  try clear c3
  try clear c3b0
  obtain ⟨x1_1, x5_1, rfl, rfl, HA, HK1, ⟨m1, rfl⟩⟩ := hrel
  cases gk with
  | zero => exact absurd HA.out (by simp [laws_szVersionSS.l0])
  | succ k1 =>
   have H := HA.out
   clear HA
   simp only [laws_szVersionSS.l0] at H
   by_cases c4 : x5_1 < (l0.length : Int)
   rotate_left
   ·rw [if_neg c4] at H
    have c4b0 := decide_eq_false c4
    clear c4
    obtain rfl := Option.some.inj H
    go_wp2
    go_ret
    exact ⟨by first | rfl | (simp; done) | (simp [*]; done), by repeat (first | exact Drawn0.refl _ | apply Drawn0.step)⟩
   rw [if_pos c4] at H
   have c4b0 := decide_eq_true c4
   clear c4
   replace H := HI H
   obtain ⟨c5, H⟩ := H
   have c5b0 := decide_eq_true c5
   clear c5
   obtain ⟨t102, A6, H⟩ := OB H
   by_cases c7 : t102 < 0
   ·rw [if_pos c7] at H
    have c7b0 := decide_eq_true c7
    clear c7
    obtain rfl := Option.some.inj H
    have p101 : 0 ≤ (x5_1 : Int) := DT
    have q101 : x5_1 < (l0.length : Int) := DT
    obtain ⟨ad101, A101_0, c101_0, e101, hx101_0, hl101_0, hi101_0⟩ := at_L2 HR0.out x5_1 p101 q101
    cases e101
    have HR101_0 := AM_ hi101_0
    have HC101_0 := AM_ hl101_0
    clear hi101_0 hl101_0
    replace p101 := eq_true p101
    replace q101 := eq_true q101
    go_wp2_with (first | ((with_reducible refine G1 101 rfl ?_); refine GC (some 23) Try.func101 #[.slice A101_0 (rd_L2 l0 x5_1).length c101_0, .int .i64 x1_1] ?_; (with_reducible refine (laws_szVersionS.calls _ _ (rd_L2 l0 x5_1) x1_1 t102 _ ?side1 ?side2 A6.out).mono ?_); (case side1 => repeat (first | exact HR101_0.out | (with_reducible refine Kd.C_alloc ?_ _) | (with_reducible refine Kd.C_drewN ?_ _) | (with_reducible refine Kd.C_drew ?_))); (case side2 => exact HC101_0.out); rintro e w' ⟨rfl, ⟨nd, rfl⟩⟩; refine ⟨_, rfl, ?_⟩))
    go_ret
    exact ⟨by first | rfl | (simp; done) | (simp [*]; done), by repeat (first | exact Drawn0.refl _ | apply Drawn0.step)⟩
   rw [if_neg c7] at H
   have c7b0 := decide_eq_false c7
   clear c7
   have H' := AM_ H
   clear H
   have p101 : 0 ≤ (x5_1 : Int) := DT
   have q101 : x5_1 < (l0.length : Int) := DT
   obtain ⟨ad101, A101_0, c101_0, e101, hx101_0, hl101_0, hi101_0⟩ := at_L2 HR0.out x5_1 p101 q101
   cases e101
   have HR101_0 := AM_ hi101_0
   have HC101_0 := AM_ hl101_0
   clear hi101_0 hl101_0
   replace p101 := eq_true p101
   replace q101 := eq_true q101
   go_wp2_with (first | ((with_reducible refine G1 101 rfl ?_); refine GC (some 23) Try.func101 #[.slice A101_0 (rd_L2 l0 x5_1).length c101_0, .int .i64 x1_1] ?_; (with_reducible refine (laws_szVersionS.calls _ _ (rd_L2 l0 x5_1) x1_1 t102 _ ?side1 ?side2 A6.out).mono ?_); (case side1 => repeat (first | exact HR101_0.out | (with_reducible refine Kd.C_alloc ?_ _) | (with_reducible refine Kd.C_drewN ?_ _) | (with_reducible refine Kd.C_drew ?_))); (case side2 => exact HC101_0.out); rintro e w' ⟨rfl, ⟨nd, rfl⟩⟩; refine ⟨_, rfl, ?_⟩))
   go_roundg k1
   case measure => have := HK1.out; omega
   case rel => exact ⟨(t102), (wrap64 (x5_1 + 1)), (by first | rfl | (simp; done) | (simp [*]; done)), (by first | rfl | (simp; done) | (simp [*]; done)), H', ⟨by have := HK1.out; omega⟩, by repeat (first | exact Drawn0.refl _ | apply Drawn0.step)⟩

/-! ### laws_szStore: function 22 -/
def laws_szStore.f (k : Nat) (l0_0 : List (List (S171))) (a1 : Int) : Option (Int) := (laws_szVersionSS.f k l0_0 a1).bind fun t104 => (if t104 < 0 then (some (-1)) else (some t104))
theorem laws_szStore.mono : ∀ a0 a1 k, LeO (laws_szStore.f k a0 a1) (laws_szStore.f (k + 1) a0 a1) := by
 intro a0 a1 k
 unfold laws_szStore.f
 repeat' (with_reducible first | exact laws_szVersionSS.mono .. | exact LeO.refl _ | exact LeO.none _ | refine LeO.ite ?_ ?_ | refine LeO.bind ?_ (fun _ => ?_))
theorem laws_szStore.calls (k : Nat) (A0_0 : Option Addr) (c0_0 : Nat) (l0_0 : List (List (S171))) (a1 : Int) (r : Int) (w : World) (hr0_0 : Kd.C (Kd.slice 171 k171) w A0_0 l0_0.length l0_0) (hc0_0 : l0_0.length ≤ c0_0) (h : laws_szStore.f k l0_0 a1 = some r) :
  Calls Try.prog 22 #[.agg #[.slice A0_0 l0_0.length c0_0], .int .i64 a1] w fun e w' => e = .returned (.int .i64 r) ∧ Below w.heap.size w w' := by
 have hu24 := Try.underlying24
 have HR0_0 := AM_ hr0_0
 have HC0_0 := AM_ hc0_0
 clear hr0_0 hc0_0
 have HB := AM_ (Below.refl w.heap.size w)
 unfold laws_szStore.f at h
 have H := h
 clear h
 obtain ⟨t104, A3, H⟩ := OB H
 by_cases c4 : t104 < 0
 ·rw [if_pos c4] at H
  have c4b0 := decide_eq_true c4
  clear c4
  obtain rfl := Option.some.inj H
  go_enter Try.func22, Try.ntmps22
  go_wp2_with (first | ((with_reducible refine G2 2 rfl ?_); refine BY 2 #[.slice A0_0 l0_0.length c0_0] 24 HB ?_; clear HB; intro gb103 w5 BK103 GW103 HB; obtain ⟨hcz6_0, hfz6_0⟩ := bk1 BK103.out) | ((with_reducible refine G1 65 rfl ?_); refine GC (some 8) Try.func65 #[.slice A0_0 l0_0.length c0_0, .int .i64 a1] ?_; (with_reducible refine MQ (laws_szVersionSS.calls k _ _ l0_0 a1 t104 _ (CC HR0_0 HB) HC0_0.out A3.out) ?_); intro nd))
  go_ret
  exact QT (BT HB.out)
 rw [if_neg c4] at H
 have c4b0 := decide_eq_false c4
 clear c4
 obtain rfl := Option.some.inj H
 go_enter Try.func22, Try.ntmps22
 go_wp2_with (first | ((with_reducible refine G2 2 rfl ?_); refine BY 2 #[.slice A0_0 l0_0.length c0_0] 24 HB ?_; clear HB; intro gb103 w7 BK103 GW103 HB; obtain ⟨hcz8_0, hfz8_0⟩ := bk1 BK103.out) | ((with_reducible refine G1 65 rfl ?_); refine GC (some 8) Try.func65 #[.slice A0_0 l0_0.length c0_0, .int .i64 a1] ?_; (with_reducible refine MQ (laws_szVersionSS.calls k _ _ l0_0 a1 t104 _ (CC HR0_0 HB) HC0_0.out A3.out) ?_); intro nd))
 go_ret
 exact QT (BT HB.out)

/-! ### laws_szReadMarkS: function 102 -/
def laws_szReadMarkS.f (l0 : List (S173)) (a1 : Int) : Option (Int) := if (wrap64 (a1 - (l0.length : Int))) < 0 then (some (-1)) else (some (wrap64 (a1 - (l0.length : Int))))
theorem laws_szReadMarkS.calls (A0 : Option Addr) (c0 : Nat) (l0 : List (S173)) (a1 : Int) (r : Int) (w : World) (hr0 : Kd.C k173 w A0 l0.length l0) (hc0 : l0.length ≤ c0) (h : laws_szReadMarkS.f l0 a1 = some r) :
  Calls Try.prog 102 #[.slice A0 l0.length c0, .int .i64 a1] w fun e w' => e = .returned (.int .i64 r) ∧ Drawn0 w w' := by
 have HR0 := AM_ hr0
 have HC0 := AM_ hc0
 clear hr0 hc0
 unfold laws_szReadMarkS.f at h
 have H := h
 clear h
 by_cases c3 : (wrap64 (a1 - (l0.length : Int))) < 0
 ·rw [if_pos c3] at H
  have c3b0 := decide_eq_true c3
  clear c3
  obtain rfl := Option.some.inj H
  go_enter Try.func102, Try.ntmps102
  go_wp2
  go_ret
  exact ⟨by first | rfl | (simp; done) | (simp [*]; done), by repeat (first | exact Drawn0.refl _ | apply Drawn0.step)⟩
 rw [if_neg c3] at H
 have c3b0 := decide_eq_false c3
 clear c3
 obtain rfl := Option.some.inj H
 go_enter Try.func102, Try.ntmps102
 go_wp2
 go_ret
 exact ⟨by first | rfl | (simp; done) | (simp [*]; done), by repeat (first | exact Drawn0.refl _ | apply Drawn0.step)⟩

/-! ### laws_szWriteS: function 103 -/
def laws_szWriteS.f (l0 : List (S175)) (a1 : Int) : Option (Int) := if (wrap64 (a1 - (l0.length : Int))) < 0 then (some (-1)) else (some (wrap64 (a1 - (l0.length : Int))))
theorem laws_szWriteS.calls (A0 : Option Addr) (c0 : Nat) (l0 : List (S175)) (a1 : Int) (r : Int) (w : World) (hr0 : Kd.C k175 w A0 l0.length l0) (hc0 : l0.length ≤ c0) (h : laws_szWriteS.f l0 a1 = some r) :
  Calls Try.prog 103 #[.slice A0 l0.length c0, .int .i64 a1] w fun e w' => e = .returned (.int .i64 r) ∧ Drawn0 w w' := by
 have HR0 := AM_ hr0
 have HC0 := AM_ hc0
 clear hr0 hc0
 unfold laws_szWriteS.f at h
 have H := h
 clear h
 by_cases c3 : (wrap64 (a1 - (l0.length : Int))) < 0
 ·rw [if_pos c3] at H
  have c3b0 := decide_eq_true c3
  clear c3
  obtain rfl := Option.some.inj H
  go_enter Try.func103, Try.ntmps103
  go_wp2
  go_ret
  exact ⟨by first | rfl | (simp; done) | (simp [*]; done), by repeat (first | exact Drawn0.refl _ | apply Drawn0.step)⟩
 rw [if_neg c3] at H
 have c3b0 := decide_eq_false c3
 clear c3
 obtain rfl := Option.some.inj H
 go_enter Try.func103, Try.ntmps103
 go_wp2
 go_ret
 exact ⟨by first | rfl | (simp; done) | (simp [*]; done), by repeat (first | exact Drawn0.refl _ | apply Drawn0.step)⟩

/-! ### laws_szTransaction: function 66 -/
def laws_szTransaction.f (a0_0 : Int) (a0_1 : Int) (a0_2 : Int) (a0_3 : Int) (a0_4 : Int) (a0_5 : Int) (a0_6 : Int) (l0_7 : List (S173)) (l0_8 : List (S175)) (a1 : Int) : Option (Int) := (laws_szReadMarkS.f l0_7 a1).bind fun t106 => (if t106 < 0 then (some (-1)) else ((laws_szWriteS.f l0_8 t106).bind fun t107 => (if t107 < 0 then (some (-1)) else (some t107))))
theorem laws_szTransaction.calls (a0_0 : Int) (a0_1 : Int) (a0_2 : Int) (a0_3 : Int) (a0_4 : Int) (a0_5 : Int) (a0_6 : Int) (A0_7 : Option Addr) (c0_7 : Nat) (l0_7 : List (S173)) (A0_8 : Option Addr) (c0_8 : Nat) (l0_8 : List (S175)) (a1 : Int) (r : Int) (w : World) (hr0_7 : Kd.C k173 w A0_7 l0_7.length l0_7) (hc0_7 : l0_7.length ≤ c0_7) (hr0_8 : Kd.C k175 w A0_8 l0_8.length l0_8) (hc0_8 : l0_8.length ≤ c0_8) (h : laws_szTransaction.f a0_0 a0_1 a0_2 a0_3 a0_4 a0_5 a0_6 l0_7 l0_8 a1 = some r) :
  Calls Try.prog 66 #[.agg #[.int .i64 a0_0, .int .i64 a0_1, .int .i64 a0_2, .int .i64 a0_3, .int .i64 a0_4, .int .i64 a0_5, .int .i64 a0_6, .slice A0_7 l0_7.length c0_7, .slice A0_8 l0_8.length c0_8], .int .i64 a1] w fun e w' => e = .returned (.int .i64 r) ∧ Below w.heap.size w w' := by
 have hu114 := Try.underlying114
 have HR0_7 := AM_ hr0_7
 have HC0_7 := AM_ hc0_7
 clear hr0_7 hc0_7
 have HR0_8 := AM_ hr0_8
 have HC0_8 := AM_ hc0_8
 clear hr0_8 hc0_8
 have HB := AM_ (Below.refl w.heap.size w)
 unfold laws_szTransaction.f at h
 have H := h
 clear h
 obtain ⟨t106, A3, H⟩ := OB H
 by_cases c4 : t106 < 0
 ·rw [if_pos c4] at H
  have c4b0 := decide_eq_true c4
  clear c4
  obtain rfl := Option.some.inj H
  go_enter Try.func66, Try.ntmps66
  go_wp2_with (first | ((with_reducible refine G2 2 rfl ?_); refine BY 2 #[.int .i64 a0_0, .int .i64 a0_1, .int .i64 a0_2, .int .i64 a0_3, .int .i64 a0_4, .int .i64 a0_5, .int .i64 a0_6, .slice A0_7 l0_7.length c0_7, .slice A0_8 l0_8.length c0_8] 114 HB ?_; clear HB; intro gb105 w5 BK105 GW105 HB; obtain ⟨hcz6_0, hcz6_1, hcz6_2, hcz6_3, hcz6_4, hcz6_5, hcz6_6, hcz6_7, hcz6_8, hfz6_0, hfz6_1, hfz6_2, hfz6_3, hfz6_4, hfz6_5, hfz6_6, hfz6_7, hfz6_8⟩ := bk9 BK105.out) | ((with_reducible refine G1 102 rfl ?_); refine GC (some 8) Try.func102 #[.slice A0_7 l0_7.length c0_7, .int .i64 a1] ?_; (with_reducible refine MQ (laws_szReadMarkS.calls _ _ l0_7 a1 t106 _ (CC HR0_7 HB) HC0_7.out A3.out) ?_); intro nd))
  go_ret
  exact QT (BT HB.out)
 rw [if_neg c4] at H
 have c4b0 := decide_eq_false c4
 clear c4
 obtain ⟨t107, A7, H⟩ := OB H
 by_cases c8 : t107 < 0
 ·rw [if_pos c8] at H
  have c8b0 := decide_eq_true c8
  clear c8
  obtain rfl := Option.some.inj H
  go_enter Try.func66, Try.ntmps66
  go_wp2_with (first | ((with_reducible refine G2 2 rfl ?_); refine BY 2 #[.int .i64 a0_0, .int .i64 a0_1, .int .i64 a0_2, .int .i64 a0_3, .int .i64 a0_4, .int .i64 a0_5, .int .i64 a0_6, .slice A0_7 l0_7.length c0_7, .slice A0_8 l0_8.length c0_8] 114 HB ?_; clear HB; intro gb105 w9 BK105 GW105 HB; obtain ⟨hcz10_0, hcz10_1, hcz10_2, hcz10_3, hcz10_4, hcz10_5, hcz10_6, hcz10_7, hcz10_8, hfz10_0, hfz10_1, hfz10_2, hfz10_3, hfz10_4, hfz10_5, hfz10_6, hfz10_7, hfz10_8⟩ := bk9 BK105.out) | ((with_reducible refine G1 102 rfl ?_); refine GC (some 8) Try.func102 #[.slice A0_7 l0_7.length c0_7, .int .i64 a1] ?_; (with_reducible refine MQ (laws_szReadMarkS.calls _ _ l0_7 a1 t106 _ (CC HR0_7 HB) HC0_7.out A3.out) ?_); intro nd) | ((with_reducible refine G1 103 rfl ?_); refine GC (some 14) Try.func103 #[.slice A0_8 l0_8.length c0_8, .int .i64 t106] ?_; (with_reducible refine (laws_szWriteS.calls _ _ l0_8 t106 t107 _ ?side1 ?side2 A7.out).mono ?_); (case side1 => repeat (first | exact (Kd.C_below HR0_8.out (BT HB.out)) | (with_reducible refine Kd.C_alloc ?_ _) | (with_reducible refine Kd.C_drewN ?_ _) | (with_reducible refine Kd.C_drew ?_))); (case side2 => exact HC0_8.out); rintro e w' ⟨rfl, ⟨nd, rfl⟩⟩; refine ⟨_, rfl, ?_⟩))
  go_ret
  exact QT (BT HB.out)
 rw [if_neg c8] at H
 have c8b0 := decide_eq_false c8
 clear c8
 obtain rfl := Option.some.inj H
 go_enter Try.func66, Try.ntmps66
 go_wp2_with (first | ((with_reducible refine G2 2 rfl ?_); refine BY 2 #[.int .i64 a0_0, .int .i64 a0_1, .int .i64 a0_2, .int .i64 a0_3, .int .i64 a0_4, .int .i64 a0_5, .int .i64 a0_6, .slice A0_7 l0_7.length c0_7, .slice A0_8 l0_8.length c0_8] 114 HB ?_; clear HB; intro gb105 w11 BK105 GW105 HB; obtain ⟨hcz12_0, hcz12_1, hcz12_2, hcz12_3, hcz12_4, hcz12_5, hcz12_6, hcz12_7, hcz12_8, hfz12_0, hfz12_1, hfz12_2, hfz12_3, hfz12_4, hfz12_5, hfz12_6, hfz12_7, hfz12_8⟩ := bk9 BK105.out) | ((with_reducible refine G1 102 rfl ?_); refine GC (some 8) Try.func102 #[.slice A0_7 l0_7.length c0_7, .int .i64 a1] ?_; (with_reducible refine MQ (laws_szReadMarkS.calls _ _ l0_7 a1 t106 _ (CC HR0_7 HB) HC0_7.out A3.out) ?_); intro nd) | ((with_reducible refine G1 103 rfl ?_); refine GC (some 14) Try.func103 #[.slice A0_8 l0_8.length c0_8, .int .i64 t106] ?_; (with_reducible refine (laws_szWriteS.calls _ _ l0_8 t106 t107 _ ?side1 ?side2 A7.out).mono ?_); (case side1 => repeat (first | exact (Kd.C_below HR0_8.out (BT HB.out)) | (with_reducible refine Kd.C_alloc ?_ _) | (with_reducible refine Kd.C_drewN ?_ _) | (with_reducible refine Kd.C_drew ?_))); (case side2 => exact HC0_8.out); rintro e w' ⟨rfl, ⟨nd, rfl⟩⟩; refine ⟨_, rfl, ?_⟩))
 go_ret
 exact QT (BT HB.out)

/-! ### laws_szTransactionS: function 23 -/
def laws_szTransactionS.l0 : Nat → List (S114) → Int → Int → Option (Int)
 | 0, _, _, _ => none
 | k + 1, x0, x1, x5 => if x5 < (x0.length : Int) then (if 0 ≤ x5 then ((laws_szTransaction.f ((rd_T114 x0 x5).f0) ((rd_T114 x0 x5).f1) ((rd_T114 x0 x5).f2) ((rd_T114 x0 x5).f3) ((rd_T114 x0 x5).f4) ((rd_T114 x0 x5).f5) ((rd_T114 x0 x5).f6) ((rd_T114 x0 x5).f7) ((rd_T114 x0 x5).f8) x1).bind fun t109 => (if t109 < 0 then (some (-1)) else (laws_szTransactionS.l0 k x0 t109 (wrap64 (x5 + 1))))) else (none)) else (some x1)
def laws_szTransactionS.f (k : Nat) (l0 : List (S114)) (a1 : Int) : Option (Int) := if (wrap64 (a1 - (l0.length : Int))) < 0 then (some (-1)) else (laws_szTransactionS.l0 k l0 (wrap64 (a1 - (l0.length : Int))) 0)
theorem laws_szTransactionS.mono_l : ∀ k, (∀ y0 y1 y2, LeO (laws_szTransactionS.l0 k y0 y1 y2) (laws_szTransactionS.l0 (k + 1) y0 y1 y2))
 | 0 => fun _ _ _ r h => by simp [laws_szTransactionS.l0] at h
 | k + 1 => by
  have ih0 := laws_szTransactionS.mono_l k
  all_goals intros; unfold laws_szTransactionS.l0
  all_goals repeat' (with_reducible first | exact ih0 .. | exact LeO.refl _ | exact LeO.none _ | refine LeO.ite ?_ ?_ | refine LeO.bind ?_ (fun _ => ?_))
theorem laws_szTransactionS.mono : ∀ a0 a1 k, LeO (laws_szTransactionS.f k a0 a1) (laws_szTransactionS.f (k + 1) a0 a1) := by
 intro a0 a1 k
 have ih0 := laws_szTransactionS.mono_l k
 unfold laws_szTransactionS.f
 repeat' (with_reducible first | exact ih0 .. | exact LeO.refl _ | exact LeO.none _ | refine LeO.ite ?_ ?_ | refine LeO.bind ?_ (fun _ => ?_))
theorem laws_szTransactionS.calls (k : Nat) (A0 : Option Addr) (c0 : Nat) (l0 : List (S114)) (a1 : Int) (r : Int) (w : World) (hr0 : Kd.C k114 w A0 l0.length l0) (hc0 : l0.length ≤ c0) (h : laws_szTransactionS.f k l0 a1 = some r) :
  Calls Try.prog 23 #[.slice A0 l0.length c0, .int .i64 a1] w fun e w' => e = .returned (.int .i64 r) ∧ Below w.heap.size w w' := by
 have hu114 := Try.underlying114
 have HR0 := AM_ hr0
 have HC0 := AM_ hc0
 clear hr0 hc0
 have HB := AM_ (Below.refl w.heap.size w)
 unfold laws_szTransactionS.f at h
 have H := h
 clear h
 by_cases c3 : (wrap64 (a1 - (l0.length : Int))) < 0
 ·rw [if_pos c3] at H
  have c3b0 := decide_eq_true c3
  clear c3
  obtain rfl := Option.some.inj H
  go_enter Try.func23, Try.ntmps23
  go_wp2
  go_ret
  exact QT (BT HB.out)
 rw [if_neg c3] at H
 have c3b0 := decide_eq_false c3
 clear c3
 have H' := AM_ H
 clear H
 go_enter Try.func23, Try.ntmps23
 go_wp2
 go_loopg [1, 5] k (fun kq v1 v5 w' => ∃ (x1_1 : Int) (x5_1 : Int), v1 = .int .i64 x1_1 ∧ v5 = .int .i64 x5_1 ∧ Aside0 (laws_szTransactionS.l0 kq l0 x1_1 x5_1 = some r) ∧ Aside0 (kq ≤ k) ∧ Aside0 (Below w.heap.size w w'))
 case atStart => exact ⟨(wrap64 (a1 - (l0.length : Int))), (0), (by first | rfl | (simp; done) | (simp [*]; done)), (by first | rfl | (simp; done) | (simp [*]; done)), H', ⟨Nat.le_refl _⟩, ⟨BT HB.out⟩⟩
 case round =>
  clear H'
  try clear c3
  try clear c3b0
  obtain ⟨x1_1, x5_1, rfl, rfl, HA, HK1, HB⟩ := hrel
  cases gk with
  | zero => exact absurd HA.out (by simp [laws_szTransactionS.l0])
  | succ k1 =>
   have H := HA.out
   clear HA
   simp only [laws_szTransactionS.l0] at H
   by_cases c4 : x5_1 < (l0.length : Int)
   rotate_left
   ·rw [if_neg c4] at H
    have c4b0 := decide_eq_false c4
    clear c4
    obtain rfl := Option.some.inj H
    go_wp2
    go_ret
    exact QT (BT HB.out)
   rw [if_pos c4] at H
   have c4b0 := decide_eq_true c4
   clear c4
   replace H := HI H
   obtain ⟨c5, H⟩ := H
   have c5b0 := decide_eq_true c5
   clear c5
   obtain ⟨t109, A6, H⟩ := OB H
   by_cases c7 : t109 < 0
   ·rw [if_pos c7] at H
    have c7b0 := decide_eq_true c7
    clear c7
    obtain rfl := Option.some.inj H
    have p108 : 0 ≤ (x5_1 : Int) := DT
    have q108 : x5_1 < (l0.length : Int) := DT
    obtain ⟨ad108, A108_7, c108_7, A108_8, c108_8, e108, hx108_0, hx108_1, hx108_2, hx108_3, hx108_4, hx108_5, hx108_6, hx108_7, hx108_8, hl108_7, hi108_7, hl108_8, hi108_8⟩ := at_T114 HR0.out x5_1 p108 q108
    cases e108
    replace hx108_0 := BC HB.out hx108_0
    replace hx108_1 := BC HB.out hx108_1
    replace hx108_2 := BC HB.out hx108_2
    replace hx108_3 := BC HB.out hx108_3
    replace hx108_4 := BC HB.out hx108_4
    replace hx108_5 := BC HB.out hx108_5
    replace hx108_6 := BC HB.out hx108_6
    replace hx108_7 := BC HB.out hx108_7
    replace hx108_8 := BC HB.out hx108_8
    have HR108_7 := AM_ hi108_7
    have HC108_7 := AM_ hl108_7
    clear hi108_7 hl108_7
    have HR108_8 := AM_ hi108_8
    have HC108_8 := AM_ hl108_8
    clear hi108_8 hl108_8
    replace p108 := eq_true p108
    replace q108 := eq_true q108
    go_wp2_with (first | ((with_reducible refine G1 66 rfl ?_); refine GC (some 23) Try.func66 #[.agg #[.int .i64 ((rd_T114 l0 x5_1).f0), .int .i64 ((rd_T114 l0 x5_1).f1), .int .i64 ((rd_T114 l0 x5_1).f2), .int .i64 ((rd_T114 l0 x5_1).f3), .int .i64 ((rd_T114 l0 x5_1).f4), .int .i64 ((rd_T114 l0 x5_1).f5), .int .i64 ((rd_T114 l0 x5_1).f6), .slice A108_7 ((rd_T114 l0 x5_1).f7).length c108_7, .slice A108_8 ((rd_T114 l0 x5_1).f8).length c108_8], .int .i64 x1_1] ?_; (with_reducible refine MB (laws_szTransaction.calls ((rd_T114 l0 x5_1).f0) ((rd_T114 l0 x5_1).f1) ((rd_T114 l0 x5_1).f2) ((rd_T114 l0 x5_1).f3) ((rd_T114 l0 x5_1).f4) ((rd_T114 l0 x5_1).f5) ((rd_T114 l0 x5_1).f6) _ _ ((rd_T114 l0 x5_1).f7) _ _ ((rd_T114 l0 x5_1).f8) x1_1 t109 _ (CC HR108_7 HB) HC108_7.out (CC HR108_8 HB) HC108_8.out A6.out) ?_); intro w8 hb; replace HB := BW HB hb; (try clear hb)))
    go_ret
    exact QT (BT HB.out)
   rw [if_neg c7] at H
   have c7b0 := decide_eq_false c7
   clear c7
   have H' := AM_ H
   clear H
   have p108 : 0 ≤ (x5_1 : Int) := DT
   have q108 : x5_1 < (l0.length : Int) := DT
   obtain ⟨ad108, A108_7, c108_7, A108_8, c108_8, e108, hx108_0, hx108_1, hx108_2, hx108_3, hx108_4, hx108_5, hx108_6, hx108_7, hx108_8, hl108_7, hi108_7, hl108_8, hi108_8⟩ := at_T114 HR0.out x5_1 p108 q108
   cases e108
   replace hx108_0 := BC HB.out hx108_0
   replace hx108_1 := BC HB.out hx108_1
   replace hx108_2 := BC HB.out hx108_2
   replace hx108_3 := BC HB.out hx108_3
   replace hx108_4 := BC HB.out hx108_4
   replace hx108_5 := BC HB.out hx108_5
   replace hx108_6 := BC HB.out hx108_6
   replace hx108_7 := BC HB.out hx108_7
   replace hx108_8 := BC HB.out hx108_8
   have HR108_7 := AM_ hi108_7
   have HC108_7 := AM_ hl108_7
   clear hi108_7 hl108_7
   have HR108_8 := AM_ hi108_8
   have HC108_8 := AM_ hl108_8
   clear hi108_8 hl108_8
   replace p108 := eq_true p108
   replace q108 := eq_true q108
   go_wp2_with (first | ((with_reducible refine G1 66 rfl ?_); refine GC (some 23) Try.func66 #[.agg #[.int .i64 ((rd_T114 l0 x5_1).f0), .int .i64 ((rd_T114 l0 x5_1).f1), .int .i64 ((rd_T114 l0 x5_1).f2), .int .i64 ((rd_T114 l0 x5_1).f3), .int .i64 ((rd_T114 l0 x5_1).f4), .int .i64 ((rd_T114 l0 x5_1).f5), .int .i64 ((rd_T114 l0 x5_1).f6), .slice A108_7 ((rd_T114 l0 x5_1).f7).length c108_7, .slice A108_8 ((rd_T114 l0 x5_1).f8).length c108_8], .int .i64 x1_1] ?_; (with_reducible refine MB (laws_szTransaction.calls ((rd_T114 l0 x5_1).f0) ((rd_T114 l0 x5_1).f1) ((rd_T114 l0 x5_1).f2) ((rd_T114 l0 x5_1).f3) ((rd_T114 l0 x5_1).f4) ((rd_T114 l0 x5_1).f5) ((rd_T114 l0 x5_1).f6) _ _ ((rd_T114 l0 x5_1).f7) _ _ ((rd_T114 l0 x5_1).f8) x1_1 t109 _ (CC HR108_7 HB) HC108_7.out (CC HR108_8 HB) HC108_8.out A6.out) ?_); intro w9 hb; replace HB := BW HB hb; (try clear hb)))
   go_roundg k1
   case measure => have := HK1.out; omega
   case rel => exact ⟨(t109), (wrap64 (x5_1 + 1)), (by first | rfl | (simp; done) | (simp [*]; done)), (by first | rfl | (simp; done) | (simp [*]; done)), H', ⟨by have := HK1.out; omega⟩, ⟨BT HB.out⟩⟩

/-! ### laws_szLockS: function 24 -/
def laws_szLockS.f (l0 : List (S123)) (a1 : Int) : Option (Int) := if (wrap64 (a1 - (l0.length : Int))) < 0 then (some (-1)) else (some (wrap64 (a1 - (l0.length : Int))))
theorem laws_szLockS.calls (A0 : Option Addr) (c0 : Nat) (l0 : List (S123)) (a1 : Int) (r : Int) (w : World) (hr0 : Kd.C k123 w A0 l0.length l0) (hc0 : l0.length ≤ c0) (h : laws_szLockS.f l0 a1 = some r) :
  Calls Try.prog 24 #[.slice A0 l0.length c0, .int .i64 a1] w fun e w' => e = .returned (.int .i64 r) ∧ Drawn0 w w' := by
 have HR0 := AM_ hr0
 have HC0 := AM_ hc0
 clear hr0 hc0
 unfold laws_szLockS.f at h
 have H := h
 clear h
 by_cases c3 : (wrap64 (a1 - (l0.length : Int))) < 0
 ·rw [if_pos c3] at H
  have c3b0 := decide_eq_true c3
  clear c3
  obtain rfl := Option.some.inj H
  go_enter Try.func24, Try.ntmps24
  go_wp2
  go_ret
  exact ⟨by first | rfl | (simp; done) | (simp [*]; done), by repeat (first | exact Drawn0.refl _ | apply Drawn0.step)⟩
 rw [if_neg c3] at H
 have c3b0 := decide_eq_false c3
 clear c3
 obtain rfl := Option.some.inj H
 go_enter Try.func24, Try.ntmps24
 go_wp2
 go_ret
 exact ⟨by first | rfl | (simp; done) | (simp [*]; done), by repeat (first | exact Drawn0.refl _ | apply Drawn0.step)⟩

/-! ### laws_szWaitS: function 25 -/
def laws_szWaitS.f (l0 : List (S125)) (a1 : Int) : Option (Int) := if (wrap64 (a1 - (l0.length : Int))) < 0 then (some (-1)) else (some (wrap64 (a1 - (l0.length : Int))))
theorem laws_szWaitS.calls (A0 : Option Addr) (c0 : Nat) (l0 : List (S125)) (a1 : Int) (r : Int) (w : World) (hr0 : Kd.C k125 w A0 l0.length l0) (hc0 : l0.length ≤ c0) (h : laws_szWaitS.f l0 a1 = some r) :
  Calls Try.prog 25 #[.slice A0 l0.length c0, .int .i64 a1] w fun e w' => e = .returned (.int .i64 r) ∧ Drawn0 w w' := by
 have HR0 := AM_ hr0
 have HC0 := AM_ hc0
 clear hr0 hc0
 unfold laws_szWaitS.f at h
 have H := h
 clear h
 by_cases c3 : (wrap64 (a1 - (l0.length : Int))) < 0
 ·rw [if_pos c3] at H
  have c3b0 := decide_eq_true c3
  clear c3
  obtain rfl := Option.some.inj H
  go_enter Try.func25, Try.ntmps25
  go_wp2
  go_ret
  exact ⟨by first | rfl | (simp; done) | (simp [*]; done), by repeat (first | exact Drawn0.refl _ | apply Drawn0.step)⟩
 rw [if_neg c3] at H
 have c3b0 := decide_eq_false c3
 clear c3
 obtain rfl := Option.some.inj H
 go_enter Try.func25, Try.ntmps25
 go_wp2
 go_ret
 exact ⟨by first | rfl | (simp; done) | (simp [*]; done), by repeat (first | exact Drawn0.refl _ | apply Drawn0.step)⟩

/-! ### laws_szEngine: function 5 -/
def laws_szEngine.f (k : Nat) (a0_0 : Bool) (l0_1 : List (List (S171))) (l0_2 : List (S114)) (l0_3 : List (S123)) (l0_4 : List (S125)) (a0_5 : Int) (a1 : Int) : Option (Int) := (laws_szStore.f k l0_1 a1).bind fun t111 => (if t111 < 0 then (some (-1)) else ((laws_szTransactionS.f k l0_2 t111).bind fun t112 => (if t112 < 0 then (some (-1)) else ((laws_szLockS.f l0_3 t112).bind fun t113 => (if t113 < 0 then (some (-1)) else ((laws_szWaitS.f l0_4 t113).bind fun t114 => (if t114 < 0 then (some (-1)) else (some t114))))))))
theorem laws_szEngine.mono : ∀ a0 a1 a2 a3 a4 a5 a6 k, LeO (laws_szEngine.f k a0 a1 a2 a3 a4 a5 a6) (laws_szEngine.f (k + 1) a0 a1 a2 a3 a4 a5 a6) := by
 intro a0 a1 a2 a3 a4 a5 a6 k
 unfold laws_szEngine.f
 repeat' (with_reducible first | exact laws_szStore.mono .. | exact laws_szTransactionS.mono .. | exact LeO.refl _ | exact LeO.none _ | refine LeO.ite ?_ ?_ | refine LeO.bind ?_ (fun _ => ?_))
theorem laws_szEngine.calls (k : Nat) (a0_0 : Bool) (A0_1 : Option Addr) (c0_1 : Nat) (l0_1 : List (List (S171))) (A0_2 : Option Addr) (c0_2 : Nat) (l0_2 : List (S114)) (A0_3 : Option Addr) (c0_3 : Nat) (l0_3 : List (S123)) (A0_4 : Option Addr) (c0_4 : Nat) (l0_4 : List (S125)) (a0_5 : Int) (a1 : Int) (r : Int) (w : World) (hr0_1 : Kd.C (Kd.slice 171 k171) w A0_1 l0_1.length l0_1) (hc0_1 : l0_1.length ≤ c0_1) (hr0_2 : Kd.C k114 w A0_2 l0_2.length l0_2) (hc0_2 : l0_2.length ≤ c0_2) (hr0_3 : Kd.C k123 w A0_3 l0_3.length l0_3) (hc0_3 : l0_3.length ≤ c0_3) (hr0_4 : Kd.C k125 w A0_4 l0_4.length l0_4) (hc0_4 : l0_4.length ≤ c0_4) (h : laws_szEngine.f k a0_0 l0_1 l0_2 l0_3 l0_4 a0_5 a1 = some r) :
  Calls Try.prog 5 #[.agg #[.bool a0_0, .slice A0_1 l0_1.length c0_1, .slice A0_2 l0_2.length c0_2, .slice A0_3 l0_3.length c0_3, .slice A0_4 l0_4.length c0_4, .int .i64 a0_5], .int .i64 a1] w fun e w' => e = .returned (.int .i64 r) ∧ Below w.heap.size w w' := by
 have hu29 := Try.underlying29
 have hu24 := Try.underlying24
 have HR0_1 := AM_ hr0_1
 have HC0_1 := AM_ hc0_1
 clear hr0_1 hc0_1
 have HR0_2 := AM_ hr0_2
 have HC0_2 := AM_ hc0_2
 clear hr0_2 hc0_2
 have HR0_3 := AM_ hr0_3
 have HC0_3 := AM_ hc0_3
 clear hr0_3 hc0_3
 have HR0_4 := AM_ hr0_4
 have HC0_4 := AM_ hc0_4
 clear hr0_4 hc0_4
 have HB := AM_ (Below.refl w.heap.size w)
 unfold laws_szEngine.f at h
 have H := h
 clear h
 obtain ⟨t111, A3, H⟩ := OB H
 by_cases c4 : t111 < 0
 ·rw [if_pos c4] at H
  have c4b0 := decide_eq_true c4
  clear c4
  obtain rfl := Option.some.inj H
  go_enter Try.func5, Try.ntmps5
  go_wp2_with (first | ((with_reducible refine G2 2 rfl ?_); refine BY 2 #[.bool a0_0, .slice A0_1 l0_1.length c0_1, .slice A0_2 l0_2.length c0_2, .slice A0_3 l0_3.length c0_3, .slice A0_4 l0_4.length c0_4, .int .i64 a0_5] 29 HB ?_; clear HB; intro gb110 w5 BK110 GW110 HB; obtain ⟨hcz6_0, hcz6_1, hcz6_2, hcz6_3, hcz6_4, hcz6_5, hfz6_0, hfz6_1, hfz6_2, hfz6_3, hfz6_4, hfz6_5⟩ := bk6 BK110.out) | ((with_reducible refine G1 22 rfl ?_); refine GC (some 8) Try.func22 #[.agg #[.slice A0_1 l0_1.length c0_1], .int .i64 a1] ?_; (with_reducible refine MB (laws_szStore.calls k _ _ l0_1 a1 t111 _ (CC HR0_1 HB) HC0_1.out A3.out) ?_); intro w7 hb; replace BK110 := BV BK110 hb; replace HB := BW HB hb; (try clear hb)))
  go_ret
  exact QT (BT HB.out)
 rw [if_neg c4] at H
 have c4b0 := decide_eq_false c4
 clear c4
 obtain ⟨t112, A8, H⟩ := OB H
 by_cases c9 : t112 < 0
 ·rw [if_pos c9] at H
  have c9b0 := decide_eq_true c9
  clear c9
  obtain rfl := Option.some.inj H
  go_enter Try.func5, Try.ntmps5
  go_wp2_with (first | ((with_reducible refine G2 2 rfl ?_); refine BY 2 #[.bool a0_0, .slice A0_1 l0_1.length c0_1, .slice A0_2 l0_2.length c0_2, .slice A0_3 l0_3.length c0_3, .slice A0_4 l0_4.length c0_4, .int .i64 a0_5] 29 HB ?_; clear HB; intro gb110 w10 BK110 GW110 HB; obtain ⟨hcz11_0, hcz11_1, hcz11_2, hcz11_3, hcz11_4, hcz11_5, hfz11_0, hfz11_1, hfz11_2, hfz11_3, hfz11_4, hfz11_5⟩ := bk6 BK110.out) | ((with_reducible refine G1 22 rfl ?_); refine GC (some 8) Try.func22 #[.agg #[.slice A0_1 l0_1.length c0_1], .int .i64 a1] ?_; (with_reducible refine MB (laws_szStore.calls k _ _ l0_1 a1 t111 _ (CC HR0_1 HB) HC0_1.out A3.out) ?_); intro w12 hb; replace BK110 := BV BK110 hb; replace HB := BW HB hb; (try clear hb); obtain ⟨hcz13_0, hcz13_1, hcz13_2, hcz13_3, hcz13_4, hcz13_5, hfz13_0, hfz13_1, hfz13_2, hfz13_3, hfz13_4, hfz13_5⟩ := bk6 BK110.out) | ((with_reducible refine G1 23 rfl ?_); refine GC (some 14) Try.func23 #[.slice A0_2 l0_2.length c0_2, .int .i64 t111] ?_; (with_reducible refine MB (laws_szTransactionS.calls k _ _ l0_2 t111 t112 _ (CC HR0_2 HB) HC0_2.out A8.out) ?_); intro w14 hb; replace BK110 := BV BK110 hb; replace HB := BW HB hb; (try clear hb)))
  go_ret
  exact QT (BT HB.out)
 rw [if_neg c9] at H
 have c9b0 := decide_eq_false c9
 clear c9
 obtain ⟨t113, A15, H⟩ := OB H
 by_cases c16 : t113 < 0
 ·rw [if_pos c16] at H
  have c16b0 := decide_eq_true c16
  clear c16
  obtain rfl := Option.some.inj H
  go_enter Try.func5, Try.ntmps5
  go_wp2_with (first | ((with_reducible refine G2 2 rfl ?_); refine BY 2 #[.bool a0_0, .slice A0_1 l0_1.length c0_1, .slice A0_2 l0_2.length c0_2, .slice A0_3 l0_3.length c0_3, .slice A0_4 l0_4.length c0_4, .int .i64 a0_5] 29 HB ?_; clear HB; intro gb110 w17 BK110 GW110 HB; obtain ⟨hcz18_0, hcz18_1, hcz18_2, hcz18_3, hcz18_4, hcz18_5, hfz18_0, hfz18_1, hfz18_2, hfz18_3, hfz18_4, hfz18_5⟩ := bk6 BK110.out) | ((with_reducible refine G1 22 rfl ?_); refine GC (some 8) Try.func22 #[.agg #[.slice A0_1 l0_1.length c0_1], .int .i64 a1] ?_; (with_reducible refine MB (laws_szStore.calls k _ _ l0_1 a1 t111 _ (CC HR0_1 HB) HC0_1.out A3.out) ?_); intro w19 hb; replace BK110 := BV BK110 hb; replace HB := BW HB hb; (try clear hb); obtain ⟨hcz20_0, hcz20_1, hcz20_2, hcz20_3, hcz20_4, hcz20_5, hfz20_0, hfz20_1, hfz20_2, hfz20_3, hfz20_4, hfz20_5⟩ := bk6 BK110.out) | ((with_reducible refine G1 23 rfl ?_); refine GC (some 14) Try.func23 #[.slice A0_2 l0_2.length c0_2, .int .i64 t111] ?_; (with_reducible refine MB (laws_szTransactionS.calls k _ _ l0_2 t111 t112 _ (CC HR0_2 HB) HC0_2.out A8.out) ?_); intro w21 hb; replace BK110 := BV BK110 hb; replace HB := BW HB hb; (try clear hb); obtain ⟨hcz22_0, hcz22_1, hcz22_2, hcz22_3, hcz22_4, hcz22_5, hfz22_0, hfz22_1, hfz22_2, hfz22_3, hfz22_4, hfz22_5⟩ := bk6 BK110.out) | ((with_reducible refine G1 24 rfl ?_); refine GC (some 20) Try.func24 #[.slice A0_3 l0_3.length c0_3, .int .i64 t112] ?_; (with_reducible refine MQ (laws_szLockS.calls _ _ l0_3 t112 t113 _ (CC HR0_3 HB) HC0_3.out A15.out) ?_); intro nd))
  go_ret
  exact QT (BT HB.out)
 rw [if_neg c16] at H
 have c16b0 := decide_eq_false c16
 clear c16
 obtain ⟨t114, A23, H⟩ := OB H
 by_cases c24 : t114 < 0
 ·rw [if_pos c24] at H
  have c24b0 := decide_eq_true c24
  clear c24
  obtain rfl := Option.some.inj H
  go_enter Try.func5, Try.ntmps5
  go_wp2_with (first | ((with_reducible refine G2 2 rfl ?_); refine BY 2 #[.bool a0_0, .slice A0_1 l0_1.length c0_1, .slice A0_2 l0_2.length c0_2, .slice A0_3 l0_3.length c0_3, .slice A0_4 l0_4.length c0_4, .int .i64 a0_5] 29 HB ?_; clear HB; intro gb110 w25 BK110 GW110 HB; obtain ⟨hcz26_0, hcz26_1, hcz26_2, hcz26_3, hcz26_4, hcz26_5, hfz26_0, hfz26_1, hfz26_2, hfz26_3, hfz26_4, hfz26_5⟩ := bk6 BK110.out) | ((with_reducible refine G1 22 rfl ?_); refine GC (some 8) Try.func22 #[.agg #[.slice A0_1 l0_1.length c0_1], .int .i64 a1] ?_; (with_reducible refine MB (laws_szStore.calls k _ _ l0_1 a1 t111 _ (CC HR0_1 HB) HC0_1.out A3.out) ?_); intro w27 hb; replace BK110 := BV BK110 hb; replace HB := BW HB hb; (try clear hb); obtain ⟨hcz28_0, hcz28_1, hcz28_2, hcz28_3, hcz28_4, hcz28_5, hfz28_0, hfz28_1, hfz28_2, hfz28_3, hfz28_4, hfz28_5⟩ := bk6 BK110.out) | ((with_reducible refine G1 23 rfl ?_); refine GC (some 14) Try.func23 #[.slice A0_2 l0_2.length c0_2, .int .i64 t111] ?_; (with_reducible refine MB (laws_szTransactionS.calls k _ _ l0_2 t111 t112 _ (CC HR0_2 HB) HC0_2.out A8.out) ?_); intro w29 hb; replace BK110 := BV BK110 hb; replace HB := BW HB hb; (try clear hb); obtain ⟨hcz30_0, hcz30_1, hcz30_2, hcz30_3, hcz30_4, hcz30_5, hfz30_0, hfz30_1, hfz30_2, hfz30_3, hfz30_4, hfz30_5⟩ := bk6 BK110.out) | ((with_reducible refine G1 24 rfl ?_); refine GC (some 20) Try.func24 #[.slice A0_3 l0_3.length c0_3, .int .i64 t112] ?_; (with_reducible refine MQ (laws_szLockS.calls _ _ l0_3 t112 t113 _ (CC HR0_3 HB) HC0_3.out A15.out) ?_); intro nd) | ((with_reducible refine G1 25 rfl ?_); refine GC (some 26) Try.func25 #[.slice A0_4 l0_4.length c0_4, .int .i64 t113] ?_; (with_reducible refine (laws_szWaitS.calls _ _ l0_4 t113 t114 _ ?side1 ?side2 A23.out).mono ?_); (case side1 => repeat (first | exact (Kd.C_below HR0_4.out (BT HB.out)) | (with_reducible refine Kd.C_alloc ?_ _) | (with_reducible refine Kd.C_drewN ?_ _) | (with_reducible refine Kd.C_drew ?_))); (case side2 => exact HC0_4.out); rintro e w' ⟨rfl, ⟨nd, rfl⟩⟩; refine ⟨_, rfl, ?_⟩))
  go_ret
  exact QT (BT HB.out)
 rw [if_neg c24] at H
 have c24b0 := decide_eq_false c24
 clear c24
 obtain rfl := Option.some.inj H
 go_enter Try.func5, Try.ntmps5
 go_wp2_with (first | ((with_reducible refine G2 2 rfl ?_); refine BY 2 #[.bool a0_0, .slice A0_1 l0_1.length c0_1, .slice A0_2 l0_2.length c0_2, .slice A0_3 l0_3.length c0_3, .slice A0_4 l0_4.length c0_4, .int .i64 a0_5] 29 HB ?_; clear HB; intro gb110 w31 BK110 GW110 HB; obtain ⟨hcz32_0, hcz32_1, hcz32_2, hcz32_3, hcz32_4, hcz32_5, hfz32_0, hfz32_1, hfz32_2, hfz32_3, hfz32_4, hfz32_5⟩ := bk6 BK110.out) | ((with_reducible refine G1 22 rfl ?_); refine GC (some 8) Try.func22 #[.agg #[.slice A0_1 l0_1.length c0_1], .int .i64 a1] ?_; (with_reducible refine MB (laws_szStore.calls k _ _ l0_1 a1 t111 _ (CC HR0_1 HB) HC0_1.out A3.out) ?_); intro w33 hb; replace BK110 := BV BK110 hb; replace HB := BW HB hb; (try clear hb); obtain ⟨hcz34_0, hcz34_1, hcz34_2, hcz34_3, hcz34_4, hcz34_5, hfz34_0, hfz34_1, hfz34_2, hfz34_3, hfz34_4, hfz34_5⟩ := bk6 BK110.out) | ((with_reducible refine G1 23 rfl ?_); refine GC (some 14) Try.func23 #[.slice A0_2 l0_2.length c0_2, .int .i64 t111] ?_; (with_reducible refine MB (laws_szTransactionS.calls k _ _ l0_2 t111 t112 _ (CC HR0_2 HB) HC0_2.out A8.out) ?_); intro w35 hb; replace BK110 := BV BK110 hb; replace HB := BW HB hb; (try clear hb); obtain ⟨hcz36_0, hcz36_1, hcz36_2, hcz36_3, hcz36_4, hcz36_5, hfz36_0, hfz36_1, hfz36_2, hfz36_3, hfz36_4, hfz36_5⟩ := bk6 BK110.out) | ((with_reducible refine G1 24 rfl ?_); refine GC (some 20) Try.func24 #[.slice A0_3 l0_3.length c0_3, .int .i64 t112] ?_; (with_reducible refine MQ (laws_szLockS.calls _ _ l0_3 t112 t113 _ (CC HR0_3 HB) HC0_3.out A15.out) ?_); intro nd) | ((with_reducible refine G1 25 rfl ?_); refine GC (some 26) Try.func25 #[.slice A0_4 l0_4.length c0_4, .int .i64 t113] ?_; (with_reducible refine (laws_szWaitS.calls _ _ l0_4 t113 t114 _ ?side1 ?side2 A23.out).mono ?_); (case side1 => repeat (first | exact (Kd.C_below HR0_4.out (BT HB.out)) | (with_reducible refine Kd.C_alloc ?_ _) | (with_reducible refine Kd.C_drewN ?_ _) | (with_reducible refine Kd.C_drew ?_))); (case side2 => exact HC0_4.out); rintro e w' ⟨rfl, ⟨nd, rfl⟩⟩; refine ⟨_, rfl, ?_⟩))
 go_ret
 exact QT (BT HB.out)

/-! ### spec_l1In: function 29 -/
def spec_l1In.f (a0 : Int) (a1 : Int) (a2 : Int) : Option (Bool) := if a0 ≥ a1 then (some (decide (a0 ≤ a2))) else (some false)
theorem spec_l1In.calls (a0 : Int) (a1 : Int) (a2 : Int) (r : Bool) (w : World) (h : spec_l1In.f a0 a1 a2 = some r) :
  Calls Try.prog 29 #[.int .i64 a0, .int .i64 a1, .int .i64 a2] w fun e w' => e = .returned (.bool r) ∧ Drawn0 w w' := by
 unfold spec_l1In.f at h
 have H := h
 clear h
 by_cases c4 : a0 ≥ a1
 ·rw [if_pos c4] at H
  have c4b0 : decide (a1 ≤ a0) = true := decide_eq_true c4
  clear c4
  obtain rfl := Option.some.inj H
  go_enter Try.func29, Try.ntmps29
  go_wp2
  go_ret
  exact ⟨by first | rfl | (simp; done) | (simp [*]; done), by repeat (first | exact Drawn0.refl _ | apply Drawn0.step)⟩
 rw [if_neg c4] at H
 have c4b0 : decide (a1 ≤ a0) = false := decide_eq_false c4
 clear c4
 obtain rfl := Option.some.inj H
 go_enter Try.func29, Try.ntmps29
 go_wp2
 go_ret
 exact ⟨by first | rfl | (simp; done) | (simp [*]; done), by repeat (first | exact Drawn0.refl _ | apply Drawn0.step)⟩

end Go.Proofs.Ytdgknikgfjhohaa.PFnExactIsValidEngine
