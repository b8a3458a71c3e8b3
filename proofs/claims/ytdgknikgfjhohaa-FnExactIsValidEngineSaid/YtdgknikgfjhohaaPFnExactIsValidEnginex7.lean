-- Printed by wip/myprint.py.
import Derived.Test.YtdgknikgfjhohaaPFnExactIsValidEnginex6
namespace Go.Proofs.Ytdgknikgfjhohaa.PFnExactIsValidEngine
open Go.RowKit Go.Proofs.YtdgknikgfjhohaaW.PrintWords Go.Proofs.YtdgknikgfjhohaaW.PrintLast Go.Proofs.YtdgknikgfjhohaaW.PrintMore
set_option maxHeartbeats 8000000
set_option maxRecDepth 100000
set_option linter.unusedVariables false
set_option linter.unusedSimpArgs false

/-! ### spec_FindVersion: function 68 -/
def spec_FindVersion.l0 : Nat → List (S52) → Int → Int → Option (Int)
 | 0, _, _, _ => none
 | k + 1, x0, x1, x5 => if x5 < (x0.length : Int) then (if 0 ≤ x5 then (if ((rd_T52 x0 x5).f2) = x1 then (some x5) else (spec_FindVersion.l0 k x0 x1 (wrap64 (x5 + 1)))) else (none)) else (some (-1))
def spec_FindVersion.f (k : Nat) (l0 : List (S52)) (a1 : Int) : Option (Int) := spec_FindVersion.l0 k l0 a1 0
theorem spec_FindVersion.mono_l : ∀ k, (∀ y0 y1 y2, LeO (spec_FindVersion.l0 k y0 y1 y2) (spec_FindVersion.l0 (k + 1) y0 y1 y2))
 | 0 => fun _ _ _ r h => by simp [spec_FindVersion.l0] at h
 | k + 1 => by
  have ih0 := spec_FindVersion.mono_l k
  all_goals intros; unfold spec_FindVersion.l0
  all_goals repeat' (with_reducible first | exact ih0 .. | exact LeO.refl _ | exact LeO.none _ | refine LeO.ite ?_ ?_ | refine LeO.bind ?_ (fun _ => ?_))
theorem spec_FindVersion.mono : ∀ a0 a1 k, LeO (spec_FindVersion.f k a0 a1) (spec_FindVersion.f (k + 1) a0 a1) := by
 intro a0 a1 k
 have ih0 := spec_FindVersion.mono_l k
 unfold spec_FindVersion.f
 repeat' (with_reducible first | exact ih0 .. | exact LeO.refl _ | exact LeO.none _ | refine LeO.ite ?_ ?_ | refine LeO.bind ?_ (fun _ => ?_))
theorem spec_FindVersion.calls (k : Nat) (A0 : Option Addr) (c0 : Nat) (l0 : List (S52)) (a1 : Int) (r : Int) (w : World) (hr0 : Kd.C k52 w A0 l0.length l0) (hc0 : l0.length ≤ c0) (h : spec_FindVersion.f k l0 a1 = some r) :
  Calls Try.prog 68 #[.slice A0 l0.length c0, .int .i64 a1] w fun e w' => e = .returned (.int .i64 r) ∧ Drawn0 w w' := by
 have HR0 := AM_ hr0
 have HC0 := AM_ hc0
 clear hr0 hc0
 unfold spec_FindVersion.f at h
 have H := h
 clear h
 have H' := AM_ H
 clear H
 go_enter Try.func68, Try.ntmps68
 go_wp2
 go_loopg [5] k (fun kq v5 w' => ∃ (x5_1 : Int), v5 = .int .i64 x5_1 ∧ Aside0 (spec_FindVersion.l0 kq l0 a1 x5_1 = some r) ∧ Aside0 (kq ≤ k) ∧ Drawn0 w w')
 case atStart => exact ⟨(0), (by first | rfl | (simp; done) | (simp [*]; done)), H', ⟨Nat.le_refl _⟩, by repeat (first | exact Drawn0.refl _ | apply Drawn0.step)⟩
 case round =>
  clear H'
  obtain ⟨x5_1, rfl, HA, HK1, ⟨m1, rfl⟩⟩ := hrel
  cases gk with
  | zero => exact absurd HA.out (by simp [spec_FindVersion.l0])
  | succ k1 =>
   have H := HA.out
   clear HA
   simp only [spec_FindVersion.l0] at H
   by_cases c3 : x5_1 < (l0.length : Int)
   rotate_left
   ·rw [if_neg c3] at H
    have c3b0 := decide_eq_false c3
    clear c3
    obtain rfl := Option.some.inj H
    go_wp2
    go_ret
    exact ⟨by first | rfl | (simp; done) | (simp [*]; done), by repeat (first | exact Drawn0.refl _ | apply Drawn0.step)⟩
   rw [if_pos c3] at H
   have c3b0 := decide_eq_true c3
   clear c3
   replace H := HI H
   obtain ⟨c4, H⟩ := H
   have c4b0 := decide_eq_true c4
   clear c4
   by_cases c5 : ((rd_T52 l0 x5_1).f2) = a1
   ·rw [if_pos c5] at H
    have c5b0 : (((rd_T52 l0 x5_1).f2) == a1) = true := beq_iff_eq.mpr c5
    have c5b1 : (((rd_T52 l0 x5_1).f2) != a1) = false := bne_eq_false_iff_eq.mpr c5
    clear c5
    obtain rfl := Option.some.inj H
    have p178 : 0 ≤ (x5_1 : Int) := DT
    have q178 : x5_1 < (l0.length : Int) := DT
    obtain ⟨ad178, e178, hx178_0, hx178_1, hx178_2, hx178_3, hx178_4⟩ := at_T52 HR0.out x5_1 p178 q178
    cases e178
    replace p178 := eq_true p178
    replace q178 := eq_true q178
    go_wp2
    go_ret
    exact ⟨by first | rfl | (simp; done) | (simp [*]; done), by repeat (first | exact Drawn0.refl _ | apply Drawn0.step)⟩
   rw [if_neg c5] at H
   have c5b0 : (((rd_T52 l0 x5_1).f2) == a1) = false := beq_eq_false_iff_ne.mpr c5
   have c5b1 : (((rd_T52 l0 x5_1).f2) != a1) = true := bne_iff_ne.mpr c5
   have H' := AM_ H
   clear H
   have p178 : 0 ≤ (x5_1 : Int) := DT
   have q178 : x5_1 < (l0.length : Int) := DT
   obtain ⟨ad178, e178, hx178_0, hx178_1, hx178_2, hx178_3, hx178_4⟩ := at_T52 HR0.out x5_1 p178 q178
   cases e178
   replace p178 := eq_true p178
   replace q178 := eq_true q178
   go_wp2
   go_roundg k1
   case measure => have := HK1.out; omega
   case rel => exact ⟨(wrap64 (x5_1 + 1)), (by first | rfl | (simp; done) | (simp [*]; done)), H', ⟨by have := HK1.out; omega⟩, by repeat (first | exact Drawn0.refl _ | apply Drawn0.step)⟩

/-! ### spec_ReadsExist: function 32 -/
mutual
def spec_ReadsExist.j0 : Nat → Bool → List (List (S52)) → Int → Int → Int → Int → Int → Int → Int → List (S116) → List (S103) → Option (Bool)
 | 0, _, _, _, _, _, _, _, _, _, _, _ => none
 | k + 1, x13, x180000, x181000, x181001, x181002, x181003, x181004, x181005, x181006, x181007, x181008 => if x13 = true then (some false) else (spec_ReadsExist.l0 k 0 x180000 x181000 x181001 x181002 x181003 x181004 x181005 x181006 x181007 x181008)
def spec_ReadsExist.l0 : Nat → Int → List (List (S52)) → Int → Int → Int → Int → Int → Int → Int → List (S116) → List (S103) → Option (Bool)
 | 0, _, _, _, _, _, _, _, _, _, _, _ => none
 | k + 1, x5, x180000, x181000, x181001, x181002, x181003, x181004, x181005, x181006, x181007, x181008 => if x5 < (x181007.length : Int) then (if 0 ≤ x5 then (if 0 ≤ ((rd_T116 x181007 x5).f0) then (if ((rd_T116 x181007 x5).f0) < (x180000.length : Int) then ((spec_FindVersion.f k (rd_L11 x180000 ((rd_T116 x181007 x5).f0)) ((rd_T116 x181007 x5).f1)).bind fun t186 => (if t186 < 0 then (some false) else (spec_ReadsExist.l0 k (wrap64 (x5 + 1)) x180000 x181000 x181001 x181002 x181003 x181004 x181005 x181006 x181007 x181008))) else (none)) else (none)) else (none)) else (some true)
end
def spec_ReadsExist.f (k : Nat) (l0_0 : List (List (S52))) (a1_0 : Int) (a1_1 : Int) (a1_2 : Int) (a1_3 : Int) (a1_4 : Int) (a1_5 : Int) (a1_6 : Int) (l1_7 : List (S116)) (l1_8 : List (S103)) : Option (Bool) := (spec_IsValidStore.f k l0_0).bind fun t181 => (if t181 = true then ((spec_IsValidTransaction.f k a1_0 a1_1 a1_2 a1_3 a1_4 a1_5 a1_6 l1_7 l1_8).bind fun t182 => (spec_ReadsExist.j0 k (!t182) l0_0 a1_0 a1_1 a1_2 a1_3 a1_4 a1_5 a1_6 l1_7 l1_8)) else (spec_ReadsExist.j0 k true l0_0 a1_0 a1_1 a1_2 a1_3 a1_4 a1_5 a1_6 l1_7 l1_8))
theorem spec_ReadsExist.mono_l : ∀ k, (∀ y0 y1 y2 y3 y4 y5 y6 y7 y8 y9 y10, LeO (spec_ReadsExist.j0 k y0 y1 y2 y3 y4 y5 y6 y7 y8 y9 y10) (spec_ReadsExist.j0 (k + 1) y0 y1 y2 y3 y4 y5 y6 y7 y8 y9 y10)) ∧ (∀ y0 y1 y2 y3 y4 y5 y6 y7 y8 y9 y10, LeO (spec_ReadsExist.l0 k y0 y1 y2 y3 y4 y5 y6 y7 y8 y9 y10) (spec_ReadsExist.l0 (k + 1) y0 y1 y2 y3 y4 y5 y6 y7 y8 y9 y10))
 | 0 => ⟨fun _ _ _ _ _ _ _ _ _ _ _ r h => by simp [spec_ReadsExist.j0] at h, fun _ _ _ _ _ _ _ _ _ _ _ r h => by simp [spec_ReadsExist.l0] at h⟩
 | k + 1 => by
  obtain ⟨ih0, ih1⟩ := spec_ReadsExist.mono_l k
  refine ⟨?_, ?_⟩
  all_goals intros; first | unfold spec_ReadsExist.j0 | unfold spec_ReadsExist.l0
  all_goals repeat' (with_reducible first | exact ih0 .. | exact ih1 .. | exact spec_FindVersion.mono .. | exact spec_IsValidStore.mono .. | exact spec_IsValidTransaction.mono .. | exact LeO.refl _ | exact LeO.none _ | refine LeO.ite ?_ ?_ | refine LeO.bind ?_ (fun _ => ?_))
theorem spec_ReadsExist.mono : ∀ a0 a1 a2 a3 a4 a5 a6 a7 a8 a9 k, LeO (spec_ReadsExist.f k a0 a1 a2 a3 a4 a5 a6 a7 a8 a9) (spec_ReadsExist.f (k + 1) a0 a1 a2 a3 a4 a5 a6 a7 a8 a9) := by
 intro a0 a1 a2 a3 a4 a5 a6 a7 a8 a9 k
 obtain ⟨ih0, ih1⟩ := spec_ReadsExist.mono_l k
 unfold spec_ReadsExist.f
 repeat' (with_reducible first | exact ih0 .. | exact ih1 .. | exact spec_FindVersion.mono .. | exact spec_IsValidStore.mono .. | exact spec_IsValidTransaction.mono .. | exact LeO.refl _ | exact LeO.none _ | refine LeO.ite ?_ ?_ | refine LeO.bind ?_ (fun _ => ?_))
theorem spec_ReadsExist.calls (k : Nat) (A0_0 : Option Addr) (c0_0 : Nat) (l0_0 : List (List (S52))) (a1_0 : Int) (a1_1 : Int) (a1_2 : Int) (a1_3 : Int) (a1_4 : Int) (a1_5 : Int) (a1_6 : Int) (A1_7 : Option Addr) (c1_7 : Nat) (l1_7 : List (S116)) (A1_8 : Option Addr) (c1_8 : Nat) (l1_8 : List (S103)) (r : Bool) (w : World) (hr0_0 : Kd.C (Kd.slice 52 k52) w A0_0 l0_0.length l0_0) (hc0_0 : l0_0.length ≤ c0_0) (hr1_7 : Kd.C k116 w A1_7 l1_7.length l1_7) (hc1_7 : l1_7.length ≤ c1_7) (hr1_8 : Kd.C k103 w A1_8 l1_8.length l1_8) (hc1_8 : l1_8.length ≤ c1_8) (h : spec_ReadsExist.f k l0_0 a1_0 a1_1 a1_2 a1_3 a1_4 a1_5 a1_6 l1_7 l1_8 = some r) :
  Calls Try.prog 32 #[.agg #[.slice A0_0 l0_0.length c0_0], .agg #[.int .i64 a1_0, .int .i64 a1_1, .int .i64 a1_2, .int .i64 a1_3, .int .i64 a1_4, .int .i64 a1_5, .int .i64 a1_6, .slice A1_7 l1_7.length c1_7, .slice A1_8 l1_8.length c1_8]] w fun e w' => e = .returned (.bool r) ∧ Below w.heap.size w w' := by
 have hu34 := Try.underlying34
 have hu48 := Try.underlying48
 have HR0_0 := AM_ hr0_0
 have HC0_0 := AM_ hc0_0
 clear hr0_0 hc0_0
 have HR1_7 := AM_ hr1_7
 have HC1_7 := AM_ hc1_7
 clear hr1_7 hc1_7
 have HR1_8 := AM_ hr1_8
 have HC1_8 := AM_ hc1_8
 clear hr1_8 hc1_8
 have HB := AM_ (Below.refl w.heap.size w)
 unfold spec_ReadsExist.f at h
 have H := h
 clear h
 have HC3 := AM_ H
 clear H
 go_enter Try.func32, Try.ntmps32
 go_upto_region 1 with (first | ((with_reducible refine G2 2 rfl ?_); refine BY 2 #[.slice A0_0 l0_0.length c0_0] 34 HB ?_; clear HB; intro gb179 w4 BK179 GW179 HB) | ((with_reducible refine G2 3 rfl ?_); refine BZ 3 #[.int .i64 a1_0, .int .i64 a1_1, .int .i64 a1_2, .int .i64 a1_3, .int .i64 a1_4, .int .i64 a1_5, .int .i64 a1_6, .slice A1_7 l1_7.length c1_7, .slice A1_8 l1_8.length c1_8] 48 HB ?_; clear HB; intro gb180 w5 hg hb BK180 GW180 HB; have NB179_180 := NP BK179 hg; have NB180_179 := NQ BK179 hg; replace BK179 := BV BK179 hb; clear hb hg))
 repeat (go_quiet (first | ((with_reducible refine G2 2 rfl ?_); refine BY 2 #[.slice A0_0 l0_0.length c0_0] 34 HB ?_; clear HB; intro gb179 w4 BK179 GW179 HB) | ((with_reducible refine G2 3 rfl ?_); refine BY 3 #[.int .i64 a1_0, .int .i64 a1_1, .int .i64 a1_2, .int .i64 a1_3, .int .i64 a1_4, .int .i64 a1_5, .int .i64 a1_6, .slice A1_7 l1_7.length c1_7, .slice A1_8 l1_8.length c1_8] 48 ?_; intro gb180 hg w5 hbox hb; have BK180 := AM_ (hbox); have GW180 := AM_ ((GS HB.out hg)); replace HB := BW HB hb; have NB179_180 := NP BK179 hg; have NB180_179 := NQ BK179 hg; replace BK179 := BV BK179 hb; clear hb hbox hg)); go_upto_region 1 with (first | ((with_reducible refine G2 2 rfl ?_); refine BZ 2 #[.slice A0_0 l0_0.length c0_0] 34 HB ?_; clear HB; intro gb179 w4 BK179 GW179 HB) | ((with_reducible refine G2 3 rfl ?_); refine BX 3 #[.int .i64 a1_0, .int .i64 a1_1, .int .i64 a1_2, .int .i64 a1_3, .int .i64 a1_4, .int .i64 a1_5, .int .i64 a1_6, .slice A1_7 l1_7.length c1_7, .slice A1_8 l1_8.length c1_8] 48 HB ?_; clear HB; intro gb180 w5 hg hb BK180 GW180 HB; have NB179_180 := NP BK179 hg; have NB180_179 := NQ BK179 hg; replace BK179 := BV BK179 hb; clear hb hbox hg)))
 (try simp only [pA, pS, pZ, pK])
 go_cut [13] (fun v13 wc => ∃ (kq : Nat) (x13_2 : Bool), v13 = .bool x13_2 ∧ Aside0 (spec_ReadsExist.j0 kq x13_2 l0_0 a1_0 a1_1 a1_2 a1_3 a1_4 a1_5 a1_6 l1_7 l1_8 = some r) ∧ Aside0 (kq ≤ k) ∧ Aside0 (wc.heap[gb179]? = some (.cells #[(.slice A0_0 l0_0.length c0_0)] 34 (0, 0))) ∧ Aside0 (wc.heap[gb180]? = some (.cells #[.int .i64 a1_0, .int .i64 a1_1, .int .i64 a1_2, .int .i64 a1_3, .int .i64 a1_4, .int .i64 a1_5, .int .i64 a1_6, (.slice A1_7 l1_7.length c1_7), (.slice A1_8 l1_8.length c1_8)] 48 (0, 0))) ∧ Aside0 (Below w.heap.size w wc))
 case first =>
  have H := HC3.out
  clear HC3
  obtain ⟨t181, A6, H⟩ := OB H
  by_cases c7 : t181 = true
  rotate_left
  ·replace c7 := Bool.eq_false_iff.mpr c7
   subst c7
   replace H := HF H
   have H' := AM_ H
   clear H
   have hnb14 := NB179_180.out
   have hnc14 := NB180_179.out
   obtain ⟨hcz15_0, hfz15_0⟩ := bk1 BK179.out
   go_wp2_with (first | (go_at_call 26; (with_reducible refine (spec_IsValidStore.calls k _ _ l0_0 false _ ?side1 ?side2 A6.out).mono ?_); (case side1 => exact CB HR0_0.out HB.out); (case side2 => exact HC0_0.out); rintro e w16 ⟨rfl, hb⟩; replace BK179 := BV BK179 hb; replace BK180 := BV BK180 hb; replace HB := BW HB hb; (try clear hb)))
   repeat (go_quiet (first | (go_at_call 26; (with_reducible refine (spec_IsValidStore.calls k _ _ l0_0 false _ ?side1 ?side2 A6.out).mono ?_); (case side1 => exact CB HR0_0.out HB.out); (case side2 => exact HC0_0.out); rintro e w16 ⟨rfl, hb⟩; replace BK179 := BV BK179 hb; replace BK180 := BV BK180 hb; replace HB := BW HB hb; (try clear hb))); try go_wp2_with (first | (go_at_call 26; (with_reducible refine (spec_IsValidStore.calls k _ _ l0_0 false _ ?side1 ?side2 A6.out).mono ?_); (case side1 => exact CB HR0_0.out HB.out); (case side2 => exact HC0_0.out); rintro e w16 ⟨rfl, hb⟩; replace BK179 := BV BK179 hb; replace BK180 := BV BK180 hb; replace HB := BW HB hb; (try clear hb))))
   go_meet
   case rel => exact ⟨_, (true), (by first | rfl | (simp; done) | (simp [*]; done)), H', ⟨by first | omega | exact Nat.le_refl _⟩, ⟨BH BK179.out⟩, ⟨BH BK180.out⟩, ⟨BT HB.out⟩⟩
  subst c7
  replace H := HT H
  obtain ⟨t182, A8, H⟩ := OB H
  have H' := AM_ H
  clear H
  have hnb9 := NB179_180.out
  have hnc9 := NB180_179.out
  obtain ⟨hcz10_0, hfz10_0⟩ := bk1 BK179.out
  go_wp2_with (first | (go_at_call 26; (with_reducible refine (spec_IsValidStore.calls k _ _ l0_0 true _ ?side1 ?side2 A6.out).mono ?_); (case side1 => exact CB HR0_0.out HB.out); (case side2 => exact HC0_0.out); rintro e w11 ⟨rfl, hb⟩; replace BK179 := BV BK179 hb; replace BK180 := BV BK180 hb; replace HB := BW HB hb; (try clear hb); obtain ⟨hcz12_0, hcz12_1, hcz12_2, hcz12_3, hcz12_4, hcz12_5, hcz12_6, hcz12_7, hcz12_8, hfz12_0, hfz12_1, hfz12_2, hfz12_3, hfz12_4, hfz12_5, hfz12_6, hfz12_7, hfz12_8⟩ := bk9 BK180.out) | (go_at_call 31; (with_reducible refine (spec_IsValidTransaction.calls k a1_0 a1_1 a1_2 a1_3 a1_4 a1_5 a1_6 _ _ l1_7 _ _ l1_8 t182 _ ?side1 ?side2 ?side3 ?side4 A8.out).mono ?_); (case side1 => exact CB HR1_7.out HB.out); (case side2 => exact HC1_7.out); (case side3 => exact CB HR1_8.out HB.out); (case side4 => exact HC1_8.out); rintro e w13 ⟨rfl, hb⟩; replace BK179 := BV BK179 hb; replace BK180 := BV BK180 hb; replace HB := BW HB hb; (try clear hb)))
  repeat (go_quiet (first | (go_at_call 26; (with_reducible refine (spec_IsValidStore.calls k _ _ l0_0 true _ ?side1 ?side2 A6.out).mono ?_); (case side1 => exact CB HR0_0.out HB.out); (case side2 => exact HC0_0.out); rintro e w11 ⟨rfl, hb⟩; replace BK179 := BV BK179 hb; replace BK180 := BV BK180 hb; replace HB := BW HB hb; (try clear hb); obtain ⟨hcz12_0, hcz12_1, hcz12_2, hcz12_3, hcz12_4, hcz12_5, hcz12_6, hcz12_7, hcz12_8, hfz12_0, hfz12_1, hfz12_2, hfz12_3, hfz12_4, hfz12_5, hfz12_6, hfz12_7, hfz12_8⟩ := bk9 BK180.out) | (go_at_call 31; (with_reducible refine (spec_IsValidTransaction.calls k a1_0 a1_1 a1_2 a1_3 a1_4 a1_5 a1_6 _ _ l1_7 _ _ l1_8 t182 _ ?side1 ?side2 ?side3 ?side4 A8.out).mono ?_); (case side1 => exact CB HR1_7.out HB.out); (case side2 => exact HC1_7.out); (case side3 => exact CB HR1_8.out HB.out); (case side4 => exact HC1_8.out); rintro e w13 ⟨rfl, hb⟩; replace BK179 := BV BK179 hb; replace BK180 := BV BK180 hb; replace HB := BW HB hb; (try clear hb))); try go_wp2_with (first | (go_at_call 26; (with_reducible refine (spec_IsValidStore.calls k _ _ l0_0 true _ ?side1 ?side2 A6.out).mono ?_); (case side1 => exact CB HR0_0.out HB.out); (case side2 => exact HC0_0.out); rintro e w11 ⟨rfl, hb⟩; replace BK179 := BV BK179 hb; replace BK180 := BV BK180 hb; replace HB := BW HB hb; (try clear hb); obtain ⟨hcz12_0, hcz12_1, hcz12_2, hcz12_3, hcz12_4, hcz12_5, hcz12_6, hcz12_7, hcz12_8, hfz12_0, hfz12_1, hfz12_2, hfz12_3, hfz12_4, hfz12_5, hfz12_6, hfz12_7, hfz12_8⟩ := bk9 BK180.out) | (go_at_call 31; (with_reducible refine (spec_IsValidTransaction.calls k a1_0 a1_1 a1_2 a1_3 a1_4 a1_5 a1_6 _ _ l1_7 _ _ l1_8 t182 _ ?side1 ?side2 ?side3 ?side4 A8.out).mono ?_); (case side1 => exact CB HR1_7.out HB.out); (case side2 => exact HC1_7.out); (case side3 => exact CB HR1_8.out HB.out); (case side4 => exact HC1_8.out); rintro e w13 ⟨rfl, hb⟩; replace BK179 := BV BK179 hb; replace BK180 := BV BK180 hb; replace HB := BW HB hb; (try clear hb))))
  go_meet
  case rel => exact ⟨_, (!t182), (by first | rfl | (simp; done) | (simp [*]; done)), H', ⟨by first | omega | exact Nat.le_refl _⟩, ⟨BH BK179.out⟩, ⟨BH BK180.out⟩, ⟨BT HB.out⟩⟩
 case rest =>
  clear HC3
  try clear c7
  try clear hcz10_0
  try clear hcz12_0
  try clear hcz12_1
  try clear hcz12_2
  try clear hcz12_3
  try clear hcz12_4
  try clear hcz12_5
  try clear hcz12_6
  try clear hcz12_7
  try clear hcz12_8
  try clear hcz15_0
  try clear hfz10_0
  try clear hfz12_0
  try clear hfz12_1
  try clear hfz12_2
  try clear hfz12_3
  try clear hfz12_4
  try clear hfz12_5
  try clear hfz12_6
  try clear hfz12_7
  try clear hfz12_8
  try clear hfz15_0
  obtain ⟨kq, x13_2, rfl, HA, HJ2, BK179, BK180, HB⟩ := hcut
  cases kq with
  | zero => exact absurd HA.out (by simp [spec_ReadsExist.j0])
  | succ kj2 =>
   have H := HA.out
   clear HA
   simp only [spec_ReadsExist.j0] at H
   by_cases c17 : x13_2 = true
   ·subst c17
    replace H := HT H
    obtain rfl := Option.some.inj H
    go_wp2
    repeat (go_quiet (fail); try go_wp2)
    go_ret
    exact QT (BT HB.out)
   replace c17 := Bool.eq_false_iff.mpr c17
   subst c17
   replace H := HF H
   have H' := AM_ H
   clear H
   go_wp2
   repeat (go_quiet (fail); try go_wp2)
   go_loopg [5] kj2 (fun kq v5 w' => ∃ (x5_2 : Int), v5 = .int .i64 x5_2 ∧ Aside0 (spec_ReadsExist.l0 kq x5_2 l0_0 a1_0 a1_1 a1_2 a1_3 a1_4 a1_5 a1_6 l1_7 l1_8 = some r) ∧ Aside0 (kq ≤ kj2) ∧ Aside0 (w'.heap[gb179]? = some (.cells #[(.slice A0_0 l0_0.length c0_0)] 34 (0, 0))) ∧ Aside0 (w'.heap[gb180]? = some (.cells #[.int .i64 a1_0, .int .i64 a1_1, .int .i64 a1_2, .int .i64 a1_3, .int .i64 a1_4, .int .i64 a1_5, .int .i64 a1_6, (.slice A1_7 l1_7.length c1_7), (.slice A1_8 l1_8.length c1_8)] 48 (0, 0))) ∧ Aside0 (Below w.heap.size w w'))
   case atStart => exact ⟨(0), (by first | rfl | (simp; done) | (simp [*]; done)), H', ⟨Nat.le_refl _⟩, ⟨BH BK179.out⟩, ⟨BH BK180.out⟩, ⟨BT HB.out⟩⟩
   case round =>
    clear H'
    try clear c7
    try clear c17
    try clear hcz10_0
    try clear hcz12_0
    try clear hcz12_1
    try clear hcz12_2
    try clear hcz12_3
    try clear hcz12_4
    try clear hcz12_5
    try clear hcz12_6
    try clear hcz12_7
    try clear hcz12_8
    try clear hcz15_0
    try clear hfz10_0
    try clear hfz12_0
    try clear hfz12_1
    try clear hfz12_2
    try clear hfz12_3
    try clear hfz12_4
    try clear hfz12_5
    try clear hfz12_6
    try clear hfz12_7
    try clear hfz12_8
    try clear hfz15_0
    obtain ⟨x5_2, rfl, HA, HK2, BK179, BK180, HB⟩ := hrel
    cases gk with
    | zero => exact absurd HA.out (by simp [spec_ReadsExist.l0])
    | succ k2 =>
     have H := HA.out
     clear HA
     simp only [spec_ReadsExist.l0] at H
     by_cases c18 : x5_2 < (l1_7.length : Int)
     rotate_left
     ·rw [if_neg c18] at H
      have c18b0 := decide_eq_false c18
      clear c18
      obtain rfl := Option.some.inj H
      have hnb30 := NB180_179.out
      have hnc30 := NB179_180.out
      obtain ⟨hcz31_0, hcz31_1, hcz31_2, hcz31_3, hcz31_4, hcz31_5, hcz31_6, hcz31_7, hcz31_8, hfz31_0, hfz31_1, hfz31_2, hfz31_3, hfz31_4, hfz31_5, hfz31_6, hfz31_7, hfz31_8⟩ := bk9 BK180.out
      go_wp2
      repeat (go_quiet (fail); try go_wp2)
      go_ret
      exact QT (BT HB.out)
     rw [if_pos c18] at H
     have c18b0 := decide_eq_true c18
     clear c18
     replace H := HI H
     obtain ⟨c19, H⟩ := H
     have c19b0 := decide_eq_true c19
     clear c19
     replace H := HI H
     obtain ⟨c20, H⟩ := H
     have c20b0 := decide_eq_true c20
     clear c20
     replace H := HI H
     obtain ⟨c21, H⟩ := H
     have c21b0 := decide_eq_true c21
     clear c21
     obtain ⟨t186, A22, H⟩ := OB H
     by_cases c23 : t186 < 0
     ·rw [if_pos c23] at H
      have c23b0 := decide_eq_true c23
      clear c23
      obtain rfl := Option.some.inj H
      have hnb24 := NB180_179.out
      have hnc24 := NB179_180.out
      obtain ⟨hcz25_0, hcz25_1, hcz25_2, hcz25_3, hcz25_4, hcz25_5, hcz25_6, hcz25_7, hcz25_8, hfz25_0, hfz25_1, hfz25_2, hfz25_3, hfz25_4, hfz25_5, hfz25_6, hfz25_7, hfz25_8⟩ := bk9 BK180.out
      obtain ⟨hcz26_0, hfz26_0⟩ := bk1 BK179.out
      have p183 : 0 ≤ (x5_2 : Int) := DT
      have q183 : x5_2 < (l1_7.length : Int) := DT
      obtain ⟨ad183, e183, hx183_0, hx183_1⟩ := at_T116 HR1_7.out x5_2 p183 q183
      cases e183
      replace hx183_0 := BC HB.out hx183_0
      replace hx183_1 := BC HB.out hx183_1
      replace p183 := eq_true p183
      replace q183 := eq_true q183
      have p184 : 0 ≤ (((rd_T116 l1_7 x5_2).f0) : Int) := DT
      have q184 : ((rd_T116 l1_7 x5_2).f0) < (l0_0.length : Int) := DT
      obtain ⟨ad184, A184_0, c184_0, e184, hx184_0, hl184_0, hi184_0⟩ := at_L11 HR0_0.out ((rd_T116 l1_7 x5_2).f0) p184 q184
      cases e184
      replace hx184_0 := BC HB.out hx184_0
      have HR184_0 := AM_ hi184_0
      have HC184_0 := AM_ hl184_0
      clear hi184_0 hl184_0
      replace p184 := eq_true p184
      replace q184 := eq_true q184
      have p185 : 0 ≤ (x5_2 : Int) := DT
      have q185 : x5_2 < (l1_7.length : Int) := DT
      obtain ⟨ad185, e185, hx185_0, hx185_1⟩ := at_T116 HR1_7.out x5_2 p185 q185
      obtain rfl : ad183 = ad185 := (by injection e185)
      replace hx185_0 := BC HB.out hx185_0
      replace hx185_1 := BC HB.out hx185_1
      replace p185 := eq_true p185
      replace q185 := eq_true q185
      go_wp2_with (first | (go_at_call 68; (with_reducible refine (spec_FindVersion.calls k2 _ _ (rd_L11 l0_0 ((rd_T116 l1_7 x5_2).f0)) ((rd_T116 l1_7 x5_2).f1) t186 _ ?side1 ?side2 A22.out).mono ?_); (case side1 => exact CB HR184_0.out HB.out); (case side2 => exact HC184_0.out); rintro e w' ⟨rfl, ⟨nd, rfl⟩⟩; (try first | exact ⟨rfl, _, World.drewN_drewN _ _ _⟩ | exact ⟨rfl, _, Eq.trans (World.drewN_drewN _ _ _) (congrArg (World.drewN _) (Nat.add_assoc _ _ _))⟩)))
      repeat (go_quiet (first | (go_at_call 68; (with_reducible refine (spec_FindVersion.calls k2 _ _ (rd_L11 l0_0 ((rd_T116 l1_7 x5_2).f0)) ((rd_T116 l1_7 x5_2).f1) t186 _ ?side1 ?side2 A22.out).mono ?_); (case side1 => exact CB HR184_0.out HB.out); (case side2 => exact HC184_0.out); rintro e w' ⟨rfl, ⟨nd, rfl⟩⟩; (try first | exact ⟨rfl, _, World.drewN_drewN _ _ _⟩ | exact ⟨rfl, _, Eq.trans (World.drewN_drewN _ _ _) (congrArg (World.drewN _) (Nat.add_assoc _ _ _))⟩))); try go_wp2_with (first | (go_at_call 68; (with_reducible refine (spec_FindVersion.calls k2 _ _ (rd_L11 l0_0 ((rd_T116 l1_7 x5_2).f0)) ((rd_T116 l1_7 x5_2).f1) t186 _ ?side1 ?side2 A22.out).mono ?_); (case side1 => exact CB HR184_0.out HB.out); (case side2 => exact HC184_0.out); rintro e w' ⟨rfl, ⟨nd, rfl⟩⟩; (try first | exact ⟨rfl, _, World.drewN_drewN _ _ _⟩ | exact ⟨rfl, _, Eq.trans (World.drewN_drewN _ _ _) (congrArg (World.drewN _) (Nat.add_assoc _ _ _))⟩))))
      go_ret
      exact QT (BT HB.out)
     rw [if_neg c23] at H
     have c23b0 := decide_eq_false c23
     clear c23
     have H' := AM_ H
     clear H
     have hnb27 := NB180_179.out
     have hnc27 := NB179_180.out
     obtain ⟨hcz28_0, hcz28_1, hcz28_2, hcz28_3, hcz28_4, hcz28_5, hcz28_6, hcz28_7, hcz28_8, hfz28_0, hfz28_1, hfz28_2, hfz28_3, hfz28_4, hfz28_5, hfz28_6, hfz28_7, hfz28_8⟩ := bk9 BK180.out
     obtain ⟨hcz29_0, hfz29_0⟩ := bk1 BK179.out
     have p183 : 0 ≤ (x5_2 : Int) := DT
     have q183 : x5_2 < (l1_7.length : Int) := DT
     obtain ⟨ad183, e183, hx183_0, hx183_1⟩ := at_T116 HR1_7.out x5_2 p183 q183
     cases e183
     replace hx183_0 := BC HB.out hx183_0
     replace hx183_1 := BC HB.out hx183_1
     replace p183 := eq_true p183
     replace q183 := eq_true q183
     have p184 : 0 ≤ (((rd_T116 l1_7 x5_2).f0) : Int) := DT
     have q184 : ((rd_T116 l1_7 x5_2).f0) < (l0_0.length : Int) := DT
     obtain ⟨ad184, A184_0, c184_0, e184, hx184_0, hl184_0, hi184_0⟩ := at_L11 HR0_0.out ((rd_T116 l1_7 x5_2).f0) p184 q184
     cases e184
     replace hx184_0 := BC HB.out hx184_0
     have HR184_0 := AM_ hi184_0
     have HC184_0 := AM_ hl184_0
     clear hi184_0 hl184_0
     replace p184 := eq_true p184
     replace q184 := eq_true q184
     have p185 : 0 ≤ (x5_2 : Int) := DT
     have q185 : x5_2 < (l1_7.length : Int) := DT
     obtain ⟨ad185, e185, hx185_0, hx185_1⟩ := at_T116 HR1_7.out x5_2 p185 q185
     obtain rfl : ad183 = ad185 := (by injection e185)
     replace hx185_0 := BC HB.out hx185_0
     replace hx185_1 := BC HB.out hx185_1
     replace p185 := eq_true p185
     replace q185 := eq_true q185
     go_wp2_with (first | (go_at_call 68; (with_reducible refine (spec_FindVersion.calls k2 _ _ (rd_L11 l0_0 ((rd_T116 l1_7 x5_2).f0)) ((rd_T116 l1_7 x5_2).f1) t186 _ ?side1 ?side2 A22.out).mono ?_); (case side1 => exact CB HR184_0.out HB.out); (case side2 => exact HC184_0.out); rintro e w' ⟨rfl, ⟨nd, rfl⟩⟩; (try first | exact ⟨rfl, _, World.drewN_drewN _ _ _⟩ | exact ⟨rfl, _, Eq.trans (World.drewN_drewN _ _ _) (congrArg (World.drewN _) (Nat.add_assoc _ _ _))⟩)))
     repeat (go_quiet (first | (go_at_call 68; (with_reducible refine (spec_FindVersion.calls k2 _ _ (rd_L11 l0_0 ((rd_T116 l1_7 x5_2).f0)) ((rd_T116 l1_7 x5_2).f1) t186 _ ?side1 ?side2 A22.out).mono ?_); (case side1 => exact CB HR184_0.out HB.out); (case side2 => exact HC184_0.out); rintro e w' ⟨rfl, ⟨nd, rfl⟩⟩; (try first | exact ⟨rfl, _, World.drewN_drewN _ _ _⟩ | exact ⟨rfl, _, Eq.trans (World.drewN_drewN _ _ _) (congrArg (World.drewN _) (Nat.add_assoc _ _ _))⟩))); try go_wp2_with (first | (go_at_call 68; (with_reducible refine (spec_FindVersion.calls k2 _ _ (rd_L11 l0_0 ((rd_T116 l1_7 x5_2).f0)) ((rd_T116 l1_7 x5_2).f1) t186 _ ?side1 ?side2 A22.out).mono ?_); (case side1 => exact CB HR184_0.out HB.out); (case side2 => exact HC184_0.out); rintro e w' ⟨rfl, ⟨nd, rfl⟩⟩; (try first | exact ⟨rfl, _, World.drewN_drewN _ _ _⟩ | exact ⟨rfl, _, Eq.trans (World.drewN_drewN _ _ _) (congrArg (World.drewN _) (Nat.add_assoc _ _ _))⟩))))
     go_roundg k2
     case measure => have := HJ2.out; have := HK2.out; omega
     case rel => exact ⟨(wrap64 (x5_2 + 1)), (by first | rfl | (simp; done) | (simp [*]; done)), H', ⟨by have := HJ2.out; have := HK2.out; omega⟩, ⟨BH BK179.out⟩, ⟨BH BK180.out⟩, ⟨BT HB.out⟩⟩

/-! ### spec_FindTransaction: function 69 -/
def spec_FindTransaction.l0 : Nat → Int → Int → Bool → List (List (S52)) → List (S48) → List (S76) → List (S78) → Int → Option (Int)
 | 0, _, _, _, _, _, _, _, _ => none
 | k + 1, x1, x5, x188000, x188001, x188002, x188003, x188004, x188005 => if x5 < (x188002.length : Int) then (if 0 ≤ x5 then (if ((rd_T48 x188002 x5).f0) = x1 then (some x5) else (spec_FindTransaction.l0 k x1 (wrap64 (x5 + 1)) x188000 x188001 x188002 x188003 x188004 x188005)) else (none)) else (some (-1))
def spec_FindTransaction.f (k : Nat) (a0_0 : Bool) (l0_1 : List (List (S52))) (l0_2 : List (S48)) (l0_3 : List (S76)) (l0_4 : List (S78)) (a0_5 : Int) (a1 : Int) : Option (Int) := spec_FindTransaction.l0 k a1 0 a0_0 l0_1 l0_2 l0_3 l0_4 a0_5
theorem spec_FindTransaction.mono_l : ∀ k, (∀ y0 y1 y2 y3 y4 y5 y6 y7, LeO (spec_FindTransaction.l0 k y0 y1 y2 y3 y4 y5 y6 y7) (spec_FindTransaction.l0 (k + 1) y0 y1 y2 y3 y4 y5 y6 y7))
 | 0 => fun _ _ _ _ _ _ _ _ r h => by simp [spec_FindTransaction.l0] at h
 | k + 1 => by
  have ih0 := spec_FindTransaction.mono_l k
  all_goals intros; unfold spec_FindTransaction.l0
  all_goals repeat' (with_reducible first | exact ih0 .. | exact LeO.refl _ | exact LeO.none _ | refine LeO.ite ?_ ?_ | refine LeO.bind ?_ (fun _ => ?_))
theorem spec_FindTransaction.mono : ∀ a0 a1 a2 a3 a4 a5 a6 k, LeO (spec_FindTransaction.f k a0 a1 a2 a3 a4 a5 a6) (spec_FindTransaction.f (k + 1) a0 a1 a2 a3 a4 a5 a6) := by
 intro a0 a1 a2 a3 a4 a5 a6 k
 have ih0 := spec_FindTransaction.mono_l k
 unfold spec_FindTransaction.f
 repeat' (with_reducible first | exact ih0 .. | exact LeO.refl _ | exact LeO.none _ | refine LeO.ite ?_ ?_ | refine LeO.bind ?_ (fun _ => ?_))
theorem spec_FindTransaction.calls (k : Nat) (a0_0 : Bool) (A0_1 : Option Addr) (c0_1 : Nat) (l0_1 : List (List (S52))) (A0_2 : Option Addr) (c0_2 : Nat) (l0_2 : List (S48)) (A0_3 : Option Addr) (c0_3 : Nat) (l0_3 : List (S76)) (A0_4 : Option Addr) (c0_4 : Nat) (l0_4 : List (S78)) (a0_5 : Int) (a1 : Int) (r : Int) (w : World) (hr0_1 : Kd.C (Kd.slice 52 k52) w A0_1 l0_1.length l0_1) (hc0_1 : l0_1.length ≤ c0_1) (hr0_2 : Kd.C k48 w A0_2 l0_2.length l0_2) (hc0_2 : l0_2.length ≤ c0_2) (hr0_3 : Kd.C k76 w A0_3 l0_3.length l0_3) (hc0_3 : l0_3.length ≤ c0_3) (hr0_4 : Kd.C k78 w A0_4 l0_4.length l0_4) (hc0_4 : l0_4.length ≤ c0_4) (h : spec_FindTransaction.f k a0_0 l0_1 l0_2 l0_3 l0_4 a0_5 a1 = some r) :
  Calls Try.prog 69 #[.agg #[.bool a0_0, .slice A0_1 l0_1.length c0_1, .slice A0_2 l0_2.length c0_2, .slice A0_3 l0_3.length c0_3, .slice A0_4 l0_4.length c0_4, .int .i64 a0_5], .int .i64 a1] w fun e w' => e = .returned (.int .i64 r) ∧ Below w.heap.size w w' := by
 have hu39 := Try.underlying39
 have HR0_1 := AM_ hr0_1
 have HC0_1 := AM_ hc0_1
 clear hr0_1 hc0_1
 have HR0_2 := AM_ hr0_2
 have HC0_2 := AM_ hc0_2
 clear hr0_2 hc0_2
 have HR0_3 := AM_ hr0_3
 have HC0_3 := AM_ hc0_3
 clear hr0_3 hc0_3
 have HR0_4 := AM_ hr0_4
 have HC0_4 := AM_ hc0_4
 clear hr0_4 hc0_4
 have HB := AM_ (Below.refl w.heap.size w)
 unfold spec_FindTransaction.f at h
 have H := h
 clear h
 have H' := AM_ H
 clear H
 go_enter Try.func69, Try.ntmps69
 go_wp2_with (first | ((with_reducible refine G2 2 rfl ?_); refine BY 2 #[.bool a0_0, .slice A0_1 l0_1.length c0_1, .slice A0_2 l0_2.length c0_2, .slice A0_3 l0_3.length c0_3, .slice A0_4 l0_4.length c0_4, .int .i64 a0_5] 39 HB ?_; clear HB; intro gb187 w3 BK187 GW187 HB))
 go_loopg [5] k (fun kq v5 w' => ∃ (x5_1 : Int), v5 = .int .i64 x5_1 ∧ Aside0 (spec_FindTransaction.l0 kq a1 x5_1 a0_0 l0_1 l0_2 l0_3 l0_4 a0_5 = some r) ∧ Aside0 (kq ≤ k) ∧ Aside0 (w'.heap[gb187]? = some (.cells #[.bool a0_0, (.slice A0_1 l0_1.length c0_1), (.slice A0_2 l0_2.length c0_2), (.slice A0_3 l0_3.length c0_3), (.slice A0_4 l0_4.length c0_4), .int .i64 a0_5] 39 (0, 0))) ∧ Aside0 (Below w.heap.size w w'))
 case atStart => exact ⟨(0), (by first | rfl | (simp; done) | (simp [*]; done)), H', ⟨Nat.le_refl _⟩, ⟨BH BK187.out⟩, ⟨BT HB.out⟩⟩
 case round =>
  clear H'
  obtain ⟨x5_1, rfl, HA, HK1, BK187, HB⟩ := hrel
  cases gk with
  | zero => exact absurd HA.out (by simp [spec_FindTransaction.l0])
  | succ k1 =>
   have H := HA.out
   clear HA
   simp only [spec_FindTransaction.l0] at H
   by_cases c4 : x5_1 < (l0_2.length : Int)
   rotate_left
   ·rw [if_neg c4] at H
    have c4b0 := decide_eq_false c4
    clear c4
    obtain rfl := Option.some.inj H
    obtain ⟨hcz9_0, hcz9_1, hcz9_2, hcz9_3, hcz9_4, hcz9_5, hfz9_0, hfz9_1, hfz9_2, hfz9_3, hfz9_4, hfz9_5⟩ := bk6 BK187.out
    go_wp2
    go_ret
    exact QT (BT HB.out)
   rw [if_pos c4] at H
   have c4b0 := decide_eq_true c4
   clear c4
   replace H := HI H
   obtain ⟨c5, H⟩ := H
   have c5b0 := decide_eq_true c5
   clear c5
   by_cases c6 : ((rd_T48 l0_2 x5_1).f0) = a1
   ·rw [if_pos c6] at H
    have c6b0 : (((rd_T48 l0_2 x5_1).f0) == a1) = true := beq_iff_eq.mpr c6
    have c6b1 : (((rd_T48 l0_2 x5_1).f0) != a1) = false := bne_eq_false_iff_eq.mpr c6
    clear c6
    obtain rfl := Option.some.inj H
    obtain ⟨hcz7_0, hcz7_1, hcz7_2, hcz7_3, hcz7_4, hcz7_5, hfz7_0, hfz7_1, hfz7_2, hfz7_3, hfz7_4, hfz7_5⟩ := bk6 BK187.out
    have p188 : 0 ≤ (x5_1 : Int) := DT
    have q188 : x5_1 < (l0_2.length : Int) := DT
    obtain ⟨ad188, A188_7, c188_7, A188_8, c188_8, e188, hx188_0, hx188_1, hx188_2, hx188_3, hx188_4, hx188_5, hx188_6, hx188_7, hx188_8, hl188_7, hi188_7, hl188_8, hi188_8⟩ := at_T48 HR0_2.out x5_1 p188 q188
    cases e188
    replace hx188_0 := BC HB.out hx188_0
    replace hx188_1 := BC HB.out hx188_1
    replace hx188_2 := BC HB.out hx188_2
    replace hx188_3 := BC HB.out hx188_3
    replace hx188_4 := BC HB.out hx188_4
    replace hx188_5 := BC HB.out hx188_5
    replace hx188_6 := BC HB.out hx188_6
    replace hx188_7 := BC HB.out hx188_7
    replace hx188_8 := BC HB.out hx188_8
    have HR188_7 := AM_ hi188_7
    have HC188_7 := AM_ hl188_7
    clear hi188_7 hl188_7
    have HR188_8 := AM_ hi188_8
    have HC188_8 := AM_ hl188_8
    clear hi188_8 hl188_8
    replace p188 := eq_true p188
    replace q188 := eq_true q188
    go_wp2
    go_ret
    exact QT (BT HB.out)
   rw [if_neg c6] at H
   have c6b0 : (((rd_T48 l0_2 x5_1).f0) == a1) = false := beq_eq_false_iff_ne.mpr c6
   have c6b1 : (((rd_T48 l0_2 x5_1).f0) != a1) = true := bne_iff_ne.mpr c6
   have H' := AM_ H
   clear H
   obtain ⟨hcz8_0, hcz8_1, hcz8_2, hcz8_3, hcz8_4, hcz8_5, hfz8_0, hfz8_1, hfz8_2, hfz8_3, hfz8_4, hfz8_5⟩ := bk6 BK187.out
   have p188 : 0 ≤ (x5_1 : Int) := DT
   have q188 : x5_1 < (l0_2.length : Int) := DT
   obtain ⟨ad188, A188_7, c188_7, A188_8, c188_8, e188, hx188_0, hx188_1, hx188_2, hx188_3, hx188_4, hx188_5, hx188_6, hx188_7, hx188_8, hl188_7, hi188_7, hl188_8, hi188_8⟩ := at_T48 HR0_2.out x5_1 p188 q188
   cases e188
   replace hx188_0 := BC HB.out hx188_0
   replace hx188_1 := BC HB.out hx188_1
   replace hx188_2 := BC HB.out hx188_2
   replace hx188_3 := BC HB.out hx188_3
   replace hx188_4 := BC HB.out hx188_4
   replace hx188_5 := BC HB.out hx188_5
   replace hx188_6 := BC HB.out hx188_6
   replace hx188_7 := BC HB.out hx188_7
   replace hx188_8 := BC HB.out hx188_8
   have HR188_7 := AM_ hi188_7
   have HC188_7 := AM_ hl188_7
   clear hi188_7 hl188_7
   have HR188_8 := AM_ hi188_8
   have HC188_8 := AM_ hl188_8
   clear hi188_8 hl188_8
   replace p188 := eq_true p188
   replace q188 := eq_true q188
   go_wp2
   go_roundg k1
   case measure => have := HK1.out; omega
   case rel => exact ⟨(wrap64 (x5_1 + 1)), (by first | rfl | (simp; done) | (simp [*]; done)), H', ⟨by have := HK1.out; omega⟩, ⟨BH BK187.out⟩, ⟨BT HB.out⟩⟩

/-! ### spec_l13Active: function 33 -/
def spec_l13Active.f (k : Nat) (a0_0 : Bool) (l0_1 : List (List (S52))) (l0_2 : List (S48)) (l0_3 : List (S76)) (l0_4 : List (S78)) (a0_5 : Int) (a1 : Int) : Option (Bool) := (spec_FindTransaction.f k a0_0 l0_1 l0_2 l0_3 l0_4 a0_5 a1).bind fun t190 => (if t190 ≥ 0 then (if 0 ≤ t190 then (if t190 < (l0_2.length : Int) then (some (((rd_T48 l0_2 t190).f2) == 1)) else (none)) else (none)) else (some false))
theorem spec_l13Active.mono : ∀ a0 a1 a2 a3 a4 a5 a6 k, LeO (spec_l13Active.f k a0 a1 a2 a3 a4 a5 a6) (spec_l13Active.f (k + 1) a0 a1 a2 a3 a4 a5 a6) := by
 intro a0 a1 a2 a3 a4 a5 a6 k
 unfold spec_l13Active.f
 repeat' (with_reducible first | exact spec_FindTransaction.mono .. | exact LeO.refl _ | exact LeO.none _ | refine LeO.ite ?_ ?_ | refine LeO.bind ?_ (fun _ => ?_))
theorem spec_l13Active.calls (k : Nat) (a0_0 : Bool) (A0_1 : Option Addr) (c0_1 : Nat) (l0_1 : List (List (S52))) (A0_2 : Option Addr) (c0_2 : Nat) (l0_2 : List (S48)) (A0_3 : Option Addr) (c0_3 : Nat) (l0_3 : List (S76)) (A0_4 : Option Addr) (c0_4 : Nat) (l0_4 : List (S78)) (a0_5 : Int) (a1 : Int) (r : Bool) (w : World) (hr0_1 : Kd.C (Kd.slice 52 k52) w A0_1 l0_1.length l0_1) (hc0_1 : l0_1.length ≤ c0_1) (hr0_2 : Kd.C k48 w A0_2 l0_2.length l0_2) (hc0_2 : l0_2.length ≤ c0_2) (hr0_3 : Kd.C k76 w A0_3 l0_3.length l0_3) (hc0_3 : l0_3.length ≤ c0_3) (hr0_4 : Kd.C k78 w A0_4 l0_4.length l0_4) (hc0_4 : l0_4.length ≤ c0_4) (h : spec_l13Active.f k a0_0 l0_1 l0_2 l0_3 l0_4 a0_5 a1 = some r) :
  Calls Try.prog 33 #[.agg #[.bool a0_0, .slice A0_1 l0_1.length c0_1, .slice A0_2 l0_2.length c0_2, .slice A0_3 l0_3.length c0_3, .slice A0_4 l0_4.length c0_4, .int .i64 a0_5], .int .i64 a1] w fun e w' => e = .returned (.bool r) ∧ Below w.heap.size w w' := by
 have hu39 := Try.underlying39
 have HR0_1 := AM_ hr0_1
 have HC0_1 := AM_ hc0_1
 clear hr0_1 hc0_1
 have HR0_2 := AM_ hr0_2
 have HC0_2 := AM_ hc0_2
 clear hr0_2 hc0_2
 have HR0_3 := AM_ hr0_3
 have HC0_3 := AM_ hc0_3
 clear hr0_3 hc0_3
 have HR0_4 := AM_ hr0_4
 have HC0_4 := AM_ hc0_4
 clear hr0_4 hc0_4
 have HB := AM_ (Below.refl w.heap.size w)
 unfold spec_l13Active.f at h
 have H := h
 clear h
 obtain ⟨t190, A3, H⟩ := OB H
 by_cases c4 : t190 ≥ 0
 rotate_left
 ·rw [if_neg c4] at H
  have c4b0 : decide (0 ≤ t190) = false := decide_eq_false c4
  clear c4
  obtain rfl := Option.some.inj H
  go_enter Try.func33, Try.ntmps33
  go_wp2_with (first | ((with_reducible refine G2 2 rfl ?_); refine BY 2 #[.bool a0_0, .slice A0_1 l0_1.length c0_1, .slice A0_2 l0_2.length c0_2, .slice A0_3 l0_3.length c0_3, .slice A0_4 l0_4.length c0_4, .int .i64 a0_5] 39 HB ?_; clear HB; intro gb189 w11 BK189 GW189 HB; obtain ⟨hcz12_0, hcz12_1, hcz12_2, hcz12_3, hcz12_4, hcz12_5, hfz12_0, hfz12_1, hfz12_2, hfz12_3, hfz12_4, hfz12_5⟩ := bk6 BK189.out) | ((with_reducible refine G1 69 rfl ?_); refine GC (some 8) Try.func69 #[.agg #[.bool a0_0, .slice A0_1 l0_1.length c0_1, .slice A0_2 l0_2.length c0_2, .slice A0_3 l0_3.length c0_3, .slice A0_4 l0_4.length c0_4, .int .i64 a0_5], .int .i64 a1] ?_; (with_reducible refine MB (spec_FindTransaction.calls k a0_0 _ _ l0_1 _ _ l0_2 _ _ l0_3 _ _ l0_4 a0_5 a1 t190 _ (CC HR0_1 HB) HC0_1.out (CC HR0_2 HB) HC0_2.out (CC HR0_3 HB) HC0_3.out (CC HR0_4 HB) HC0_4.out A3.out) ?_); intro w13 hb; replace BK189 := BV BK189 hb; replace HB := BW HB hb; (try clear hb)))
  go_ret
  exact QT (BT HB.out)
 rw [if_pos c4] at H
 have c4b0 : decide (0 ≤ t190) = true := decide_eq_true c4
 clear c4
 replace H := HI H
 obtain ⟨c5, H⟩ := H
 have c5b0 := decide_eq_true c5
 clear c5
 replace H := HI H
 obtain ⟨c6, H⟩ := H
 have c6b0 := decide_eq_true c6
 clear c6
 obtain rfl := Option.some.inj H
 go_enter Try.func33, Try.ntmps33
 go_wp2_with (first | ((with_reducible refine G2 2 rfl ?_); refine BY 2 #[.bool a0_0, .slice A0_1 l0_1.length c0_1, .slice A0_2 l0_2.length c0_2, .slice A0_3 l0_3.length c0_3, .slice A0_4 l0_4.length c0_4, .int .i64 a0_5] 39 HB ?_; clear HB; intro gb189 w7 BK189 GW189 HB; obtain ⟨hcz8_0, hcz8_1, hcz8_2, hcz8_3, hcz8_4, hcz8_5, hfz8_0, hfz8_1, hfz8_2, hfz8_3, hfz8_4, hfz8_5⟩ := bk6 BK189.out) | ((with_reducible refine G1 69 rfl ?_); refine GC (some 8) Try.func69 #[.agg #[.bool a0_0, .slice A0_1 l0_1.length c0_1, .slice A0_2 l0_2.length c0_2, .slice A0_3 l0_3.length c0_3, .slice A0_4 l0_4.length c0_4, .int .i64 a0_5], .int .i64 a1] ?_; (with_reducible refine MB (spec_FindTransaction.calls k a0_0 _ _ l0_1 _ _ l0_2 _ _ l0_3 _ _ l0_4 a0_5 a1 t190 _ (CC HR0_1 HB) HC0_1.out (CC HR0_2 HB) HC0_2.out (CC HR0_3 HB) HC0_3.out (CC HR0_4 HB) HC0_4.out A3.out) ?_); intro w9 hb; replace BK189 := BV BK189 hb; replace HB := BW HB hb; (try clear hb); obtain ⟨hcz10_0, hcz10_1, hcz10_2, hcz10_3, hcz10_4, hcz10_5, hfz10_0, hfz10_1, hfz10_2, hfz10_3, hfz10_4, hfz10_5⟩ := bk6 BK189.out; have p191 : 0 ≤ (t190 : Int) := DT; have q191 : t190 < (l0_2.length : Int) := DT; obtain ⟨ad191, A191_7, c191_7, A191_8, c191_8, e191, hx191_0, hx191_1, hx191_2, hx191_3, hx191_4, hx191_5, hx191_6, hx191_7, hx191_8, hl191_7, hi191_7, hl191_8, hi191_8⟩ := at_T48 HR0_2.out t190 p191 q191; cases e191; replace hx191_0 := BD HB.out hx191_0; replace hx191_1 := BD HB.out hx191_1; replace hx191_2 := BD HB.out hx191_2; replace hx191_3 := BD HB.out hx191_3; replace hx191_4 := BD HB.out hx191_4; replace hx191_5 := BD HB.out hx191_5; replace hx191_6 := BD HB.out hx191_6; replace hx191_7 := BD HB.out hx191_7; replace hx191_8 := BD HB.out hx191_8; have HR191_7 := AM_ hi191_7; have HC191_7 := AM_ hl191_7; clear hi191_7 hl191_7; have HR191_8 := AM_ hi191_8; have HC191_8 := AM_ hl191_8; clear hi191_8 hl191_8; replace p191 := eq_true p191; replace q191 := eq_true q191))
 go_ret
 exact QT (BT HB.out)

end Go.Proofs.Ytdgknikgfjhohaa.PFnExactIsValidEngine
