-- Printed by wip/myprint.py.
import Derived.Test.YtdgknikgfjhohaaPFnExactIsValidEnginex2
namespace Go.Proofs.Ytdgknikgfjhohaa.PFnExactIsValidEngine
open Go.RowKit Go.Proofs.YtdgknikgfjhohaaW.PrintWords Go.Proofs.YtdgknikgfjhohaaW.PrintLast Go.Proofs.YtdgknikgfjhohaaW.PrintMore
attribute [local go_sem] max2_int min2_int max_two min_two max_three min_three max_four min_four
set_option maxHeartbeats 8000000
set_option maxRecDepth 100000
set_option linter.unusedVariables false
set_option linter.unusedSimpArgs false

/-! ### spec_LastStamp: function 30 -/
mutual
def spec_LastStamp.l0 : Nat → Int → Int → List (List (S52)) → Option (Int)
 | 0, _, _, _ => none
 | k + 1, x3, x4, x151000 => if x4 < (x151000.length : Int) then ((spec_IsValidStore.f k x151000).bind fun t151 => (spec_LastStamp.j1 k x3 x4 t151 x151000)) else (spec_LastStamp.j1 k x3 x4 false x151000)
def spec_LastStamp.j1 : Nat → Int → Int → Bool → List (List (S52)) → Option (Int)
 | 0, _, _, _, _ => none
 | k + 1, x3, x4, x14, x151000 => if x14 = true then (spec_LastStamp.l1 k x3 x4 0 x151000) else (some x3)
def spec_LastStamp.l1 : Nat → Int → Int → Int → List (List (S52)) → Option (Int)
 | 0, _, _, _, _ => none
 | k + 1, x3, x4, x5, x151000 => if 0 ≤ x4 then (if x4 < (x151000.length : Int) then (if x5 < ((rd_L11 x151000 x4).length : Int) then (if 0 ≤ x5 then (spec_LastStamp.l1 k (mx (mx x3 ((rd_T52 (rd_L11 x151000 x4) x5).f2)) ((rd_T52 (rd_L11 x151000 x4) x5).f3)) x4 (wrap64 (x5 + 1)) x151000) else (none)) else (spec_LastStamp.l0 k x3 (wrap64 (x4 + 1)) x151000)) else (none)) else (none)
end
def spec_LastStamp.f (k : Nat) (l0_0 : List (List (S52))) : Option (Int) := spec_LastStamp.l0 k 0 0 l0_0
theorem spec_LastStamp.mono_l : ∀ k, (∀ y0 y1 y2, LeO (spec_LastStamp.l0 k y0 y1 y2) (spec_LastStamp.l0 (k + 1) y0 y1 y2)) ∧ (∀ y0 y1 y2 y3, LeO (spec_LastStamp.j1 k y0 y1 y2 y3) (spec_LastStamp.j1 (k + 1) y0 y1 y2 y3)) ∧ (∀ y0 y1 y2 y3, LeO (spec_LastStamp.l1 k y0 y1 y2 y3) (spec_LastStamp.l1 (k + 1) y0 y1 y2 y3))
 | 0 => ⟨fun _ _ _ r h => by simp [spec_LastStamp.l0] at h, fun _ _ _ _ r h => by simp [spec_LastStamp.j1] at h, fun _ _ _ _ r h => by simp [spec_LastStamp.l1] at h⟩
 | k + 1 => by
  obtain ⟨ih0, ih1, ih2⟩ := spec_LastStamp.mono_l k
  refine ⟨?_, ?_, ?_⟩
  all_goals intros; first | unfold spec_LastStamp.l0 | unfold spec_LastStamp.j1 | unfold spec_LastStamp.l1
  all_goals repeat' (with_reducible first | exact ih0 .. | exact ih1 .. | exact ih2 .. | exact spec_IsValidStore.mono .. | exact LeO.refl _ | exact LeO.none _ | refine LeO.ite ?_ ?_ | refine LeO.bind ?_ (fun _ => ?_))
theorem spec_LastStamp.mono : ∀ a0 k, LeO (spec_LastStamp.f k a0) (spec_LastStamp.f (k + 1) a0) := by
 intro a0 k
 obtain ⟨ih0, ih1, ih2⟩ := spec_LastStamp.mono_l k
 unfold spec_LastStamp.f
 repeat' (with_reducible first | exact ih0 .. | exact ih1 .. | exact ih2 .. | exact spec_IsValidStore.mono .. | exact LeO.refl _ | exact LeO.none _ | refine LeO.ite ?_ ?_ | refine LeO.bind ?_ (fun _ => ?_))
theorem spec_LastStamp.calls (k : Nat) (A0_0 : Option Addr) (c0_0 : Nat) (l0_0 : List (List (S52))) (r : Int) (w : World) (hr0_0 : Kd.C (Kd.slice 52 k52) w A0_0 l0_0.length l0_0) (hc0_0 : l0_0.length ≤ c0_0) (h : spec_LastStamp.f k l0_0 = some r) :
  Calls Try.prog 30 #[.agg #[.slice A0_0 l0_0.length c0_0]] w fun e w' => e = .returned (.int .i64 r) ∧ Below w.heap.size w w' := by
 have hu34 := Try.underlying34
 have HR0_0 := AM_ hr0_0
 have HC0_0 := AM_ hc0_0
 clear hr0_0 hc0_0
 have HB := AM_ (Below.refl w.heap.size w)
 unfold spec_LastStamp.f at h
 have H := h
 clear h
 have H' := AM_ H
 clear H
 go_enter Try.func30, Try.ntmps30
 go_wp2_with (first | ((with_reducible refine G2 1 rfl ?_); refine BY 1 #[.slice A0_0 l0_0.length c0_0] 34 HB ?_; clear HB; intro gb150 w2 BK150 GW150 HB))
 repeat (go_quiet (first | ((with_reducible refine G2 1 rfl ?_); refine BY 1 #[.slice A0_0 l0_0.length c0_0] 34 HB ?_; clear HB; intro gb150 w2 BK150 GW150 HB)); try go_wp2_with (first | ((with_reducible refine G2 1 rfl ?_); refine BY 1 #[.slice A0_0 l0_0.length c0_0] 34 HB ?_; clear HB; intro gb150 w2 BK150 GW150 HB)))
 go_loopg [3, 4] k (fun kq v3 v4 w' => ∃ (x3_1 : Int) (x4_1 : Int), v3 = .int .i64 x3_1 ∧ v4 = .int .i64 x4_1 ∧ Aside0 (spec_LastStamp.l0 kq x3_1 x4_1 l0_0 = some r) ∧ Aside0 (kq ≤ k) ∧ Aside0 (w'.heap[gb150]? = some (.cells #[(.slice A0_0 l0_0.length c0_0)] 34 (0, 0))) ∧ Aside0 (Below w.heap.size w w'))
 case atStart => exact ⟨(0), (0), (by first | rfl | (simp; done) | (simp [*]; done)), (by first | rfl | (simp; done) | (simp [*]; done)), H', ⟨Nat.le_refl _⟩, ⟨BH BK150.out⟩, ⟨BT HB.out⟩⟩
 case round =>
  clear H'
  obtain ⟨x3_1, x4_1, rfl, rfl, HA, HK1, BK150, HB⟩ := hrel
  cases gk with
  | zero => exact absurd HA.out (by simp [spec_LastStamp.l0])
  | succ k1 =>
   have H := HA.out
   clear HA
   simp only [spec_LastStamp.l0] at H
   have HC3 := AM_ H
   clear H
   go_upto_region 3 with (fail)
   repeat (go_quiet (fail); go_upto_region 3 with (fail))
   go_cut [14] (fun v14 wc => ∃ (kq : Nat) (x14_2 : Bool), v14 = .bool x14_2 ∧ Aside0 (spec_LastStamp.j1 kq x3_1 x4_1 x14_2 l0_0 = some r) ∧ Aside0 (kq ≤ k1) ∧ Aside0 (wc.heap[gb150]? = some (.cells #[(.slice A0_0 l0_0.length c0_0)] 34 (0, 0))) ∧ Aside0 (Below w.heap.size w wc))
   case first =>
    have H := HC3.out
    clear HC3
    by_cases c4 : x4_1 < (l0_0.length : Int)
    rotate_left
    ·rw [if_neg c4] at H
     have c4b0 := decide_eq_false c4
     clear c4
     (first | rw [c4b0] | (simp only [i64_w, i32_w]; rw [c4b0]) | skip)
     have H' := AM_ H
     clear H
     obtain ⟨hcz8_0, hfz8_0⟩ := bk1 BK150.out
     go_wp2
     repeat (go_quiet (fail); try go_wp2)
     go_meet
     case rel => exact ⟨_, (false), (by first | rfl | (simp; done) | (simp [*]; done)), H', ⟨by have := HK1.out; first | omega | exact Nat.le_refl _⟩, ⟨BH BK150.out⟩, ⟨BT HB.out⟩⟩
    rw [if_pos c4] at H
    have c4b0 := decide_eq_true c4
    clear c4
    (first | rw [c4b0] | (simp only [i64_w, i32_w]; rw [c4b0]) | skip)
    obtain ⟨t151, A5, H⟩ := OB H
    have H' := AM_ H
    clear H
    obtain ⟨hcz6_0, hfz6_0⟩ := bk1 BK150.out
    go_wp2_with (first | (go_at_call 26; (with_reducible refine (spec_IsValidStore.calls k1 _ _ l0_0 t151 _ ?side1 ?side2 A5.out).mono ?_); (case side1 => exact CB HR0_0.out HB.out); (case side2 => exact HC0_0.out); rintro e w7 ⟨rfl, hb⟩; replace BK150 := BV BK150 hb; replace HB := BW HB hb; (try clear hb)))
    repeat (go_quiet (first | (go_at_call 26; (with_reducible refine (spec_IsValidStore.calls k1 _ _ l0_0 t151 _ ?side1 ?side2 A5.out).mono ?_); (case side1 => exact CB HR0_0.out HB.out); (case side2 => exact HC0_0.out); rintro e w7 ⟨rfl, hb⟩; replace BK150 := BV BK150 hb; replace HB := BW HB hb; (try clear hb))); try go_wp2_with (first | (go_at_call 26; (with_reducible refine (spec_IsValidStore.calls k1 _ _ l0_0 t151 _ ?side1 ?side2 A5.out).mono ?_); (case side1 => exact CB HR0_0.out HB.out); (case side2 => exact HC0_0.out); rintro e w7 ⟨rfl, hb⟩; replace BK150 := BV BK150 hb; replace HB := BW HB hb; (try clear hb))))
    go_meet
    case rel => exact ⟨_, (t151), (by first | rfl | (simp; done) | (simp [*]; done)), H', ⟨by have := HK1.out; first | omega | exact Nat.le_refl _⟩, ⟨BH BK150.out⟩, ⟨BT HB.out⟩⟩
   case rest =>
    clear HC3
    try clear c4
    try clear c4b0
    try clear hcz6_0
    try clear hcz8_0
    try clear hfz6_0
    try clear hfz8_0
    obtain ⟨kq, x14_2, rfl, HA, HJ2, BK150, HB⟩ := hcut
    cases kq with
    | zero => exact absurd HA.out (by simp [spec_LastStamp.j1])
    | succ kj2 =>
     have H := HA.out
     clear HA
     simp only [spec_LastStamp.j1] at H
     by_cases c9 : x14_2 = true
     rotate_left
     ·replace c9 := Bool.eq_false_iff.mpr c9
      subst c9
      replace H := HF H
      obtain rfl := Option.some.inj H
      go_wp2
      repeat (go_quiet (fail); try go_wp2)
      go_ret
      exact QT (BT HB.out)
     subst c9
     replace H := HT H
     have H' := AM_ H
     clear H
     go_wp2
     repeat (go_quiet (fail); try go_wp2)
     go_loopg [3, 5] kj2 (fun kq v3 v5 w' => ∃ (x3_3 : Int) (x5_3 : Int), v3 = .int .i64 x3_3 ∧ v5 = .int .i64 x5_3 ∧ Aside0 (spec_LastStamp.l1 kq x3_3 x4_1 x5_3 l0_0 = some r) ∧ Aside0 (kq ≤ kj2) ∧ Aside0 (w'.heap[gb150]? = some (.cells #[(.slice A0_0 l0_0.length c0_0)] 34 (0, 0))) ∧ Aside0 (Below w.heap.size w w'))
     case atStart => exact ⟨(x3_1), (0), (by first | rfl | (simp; done) | (simp [*]; done)), (by first | rfl | (simp; done) | (simp [*]; done)), H', ⟨Nat.le_refl _⟩, ⟨BH BK150.out⟩, ⟨BT HB.out⟩⟩
     case round =>
      clear H'
      try clear c4
      try clear c4b0
      try clear c9
      try clear hcz6_0
      try clear hcz8_0
      try clear hfz6_0
      try clear hfz8_0
      obtain ⟨x3_3, x5_3, rfl, rfl, HA, HK3, BK150, HB⟩ := hrel
      cases gk with
      | zero => exact absurd HA.out (by simp [spec_LastStamp.l1])
      | succ k3 =>
       have H := HA.out
       clear HA
       simp only [spec_LastStamp.l1] at H
       replace H := HI H
       obtain ⟨c10, H⟩ := H
       have c10b0 := decide_eq_true c10
       clear c10
       replace H := HI H
       obtain ⟨c11, H⟩ := H
       have c11b0 := decide_eq_true c11
       clear c11
       by_cases c12 : x5_3 < ((rd_L11 l0_0 x4_1).length : Int)
       rotate_left
       ·rw [if_neg c12] at H
        have c12b0 := decide_eq_false c12
        clear c12
        have H' := AM_ H
        clear H
        obtain ⟨hcz17_0, hfz17_0⟩ := bk1 BK150.out
        have p152 : 0 ≤ (x4_1 : Int) := DT
        have q152 : x4_1 < (l0_0.length : Int) := DT
        obtain ⟨ad152, A152_0, c152_0, e152, hx152_0, hl152_0, hi152_0⟩ := at_L11 HR0_0.out x4_1 p152 q152
        cases e152
        replace hx152_0 := BC HB.out hx152_0
        have HR152_0 := AM_ hi152_0
        have HC152_0 := AM_ hl152_0
        clear hi152_0 hl152_0
        replace p152 := eq_true p152
        replace q152 := eq_true q152
        go_wp2
        repeat (go_quiet (fail); try go_wp2)
        go_roundg k3
        case measure => have := HK1.out; have := HJ2.out; have := HK3.out; omega
        case rel => exact ⟨(x3_3), (wrap64 (x4_1 + 1)), (by first | rfl | (simp; done) | (simp [*]; done)), (by first | rfl | (simp; done) | (simp [*]; done)), H', ⟨by have := HK1.out; have := HJ2.out; have := HK3.out; omega⟩, ⟨BH BK150.out⟩, ⟨BT HB.out⟩⟩
       rw [if_pos c12] at H
       have c12b0 := decide_eq_true c12
       clear c12
       replace H := HI H
       obtain ⟨c13, H⟩ := H
       have c13b0 := decide_eq_true c13
       clear c13
       obtain ⟨ji14, hji14⟩ : ∃ j_ : Int, (mx x3_3 ((rd_T52 (rd_L11 l0_0 x4_1) x5_3).f2)) = j_ := ⟨_, rfl⟩
       replace H : (spec_LastStamp.l1 k3 (mx (ji14) ((rd_T52 (rd_L11 l0_0 x4_1) x5_3).f3)) x4_1 (wrap64 (x5_3 + 1)) l0_0) = some r := by first | (rw [hji14] at H; exact H) | (simp only [hji14] at H ⊢; exact H)
       have hji14_ : (if x3_3 < ((rd_T52 (rd_L11 l0_0 x4_1) x5_3).f2) then ((rd_T52 (rd_L11 l0_0 x4_1) x5_3).f2) else x3_3) = ji14 := hji14
       obtain ⟨ji15, hji15⟩ : ∃ j_ : Int, (mx (ji14) ((rd_T52 (rd_L11 l0_0 x4_1) x5_3).f3)) = j_ := ⟨_, rfl⟩
       replace H : (spec_LastStamp.l1 k3 ji15 x4_1 (wrap64 (x5_3 + 1)) l0_0) = some r := by first | (rw [hji15] at H; exact H) | (simp only [hji15] at H ⊢; exact H)
       have hji15_ : (if (ji14) < ((rd_T52 (rd_L11 l0_0 x4_1) x5_3).f3) then ((rd_T52 (rd_L11 l0_0 x4_1) x5_3).f3) else (ji14)) = ji15 := hji15
       have H' := AM_ H
       clear H
       obtain ⟨hcz16_0, hfz16_0⟩ := bk1 BK150.out
       have p152 : 0 ≤ (x4_1 : Int) := DT
       have q152 : x4_1 < (l0_0.length : Int) := DT
       obtain ⟨ad152, A152_0, c152_0, e152, hx152_0, hl152_0, hi152_0⟩ := at_L11 HR0_0.out x4_1 p152 q152
       cases e152
       replace hx152_0 := BC HB.out hx152_0
       have HR152_0 := AM_ hi152_0
       have HC152_0 := AM_ hl152_0
       clear hi152_0 hl152_0
       replace p152 := eq_true p152
       replace q152 := eq_true q152
       have p153 : 0 ≤ (x4_1 : Int) := DT
       have q153 : x4_1 < (l0_0.length : Int) := DT
       obtain ⟨ad153, A153_0, c153_0, e153, hx153_0, hl153_0, hi153_0⟩ := at_L11 HR0_0.out x4_1 p153 q153
       obtain rfl : ad152 = ad153 := (by injection e153)
       replace hx153_0 := BC HB.out hx153_0
       have HR153_0 := AM_ hi153_0
       have HC153_0 := AM_ hl153_0
       clear hi153_0 hl153_0
       replace p153 := eq_true p153
       replace q153 := eq_true q153
       have ea_ := Option.some.inj (hx152_0.symm.trans hx153_0)
       injection ea_ with ea_ en_ ec_
       subst ea_
       subst ec_
       clear en_
       have p154 : 0 ≤ (x5_3 : Int) := DT
       have q154 : x5_3 < ((rd_L11 l0_0 x4_1).length : Int) := DT
       obtain ⟨ad154, e154, hx154_0, hx154_1, hx154_2, hx154_3, hx154_4⟩ := at_T52 HR153_0.out x5_3 p154 q154
       cases e154
       replace hx154_0 := BC HB.out hx154_0
       replace hx154_1 := BC HB.out hx154_1
       replace hx154_2 := BC HB.out hx154_2
       replace hx154_3 := BC HB.out hx154_3
       replace hx154_4 := BC HB.out hx154_4
       replace p154 := eq_true p154
       replace q154 := eq_true q154
       have p155 : 0 ≤ (x4_1 : Int) := DT
       have q155 : x4_1 < (l0_0.length : Int) := DT
       obtain ⟨ad155, A155_0, c155_0, e155, hx155_0, hl155_0, hi155_0⟩ := at_L11 HR0_0.out x4_1 p155 q155
       obtain rfl : ad152 = ad155 := (by injection e155)
       replace hx155_0 := BC HB.out hx155_0
       have HR155_0 := AM_ hi155_0
       have HC155_0 := AM_ hl155_0
       clear hi155_0 hl155_0
       replace p155 := eq_true p155
       replace q155 := eq_true q155
       have ea_ := Option.some.inj (hx152_0.symm.trans hx155_0)
       injection ea_ with ea_ en_ ec_
       subst ea_
       subst ec_
       clear en_
       have p156 : 0 ≤ (x5_3 : Int) := DT
       have q156 : x5_3 < ((rd_L11 l0_0 x4_1).length : Int) := DT
       obtain ⟨ad156, e156, hx156_0, hx156_1, hx156_2, hx156_3, hx156_4⟩ := at_T52 HR155_0.out x5_3 p156 q156
       cases e156
       replace hx156_0 := BC HB.out hx156_0
       replace hx156_1 := BC HB.out hx156_1
       replace hx156_2 := BC HB.out hx156_2
       replace hx156_3 := BC HB.out hx156_3
       replace hx156_4 := BC HB.out hx156_4
       replace p156 := eq_true p156
       replace q156 := eq_true q156
       go_wp2
       repeat (go_quiet (fail); try go_wp2)
       go_roundg k3
       case measure => have := HK1.out; have := HJ2.out; have := HK3.out; omega
       case rel => exact ⟨(ji15), (wrap64 (x5_3 + 1)), (by first | rfl | (simp; done) | (simp only [← hji15] <;> (first | rfl | simp)) | (simp [*]; done)), (by first | rfl | (simp; done) | (simp [*]; done)), H', ⟨by have := HK1.out; have := HJ2.out; have := HK3.out; omega⟩, ⟨BH BK150.out⟩, ⟨BT HB.out⟩⟩

/-! ### spec_l5Before: function 67 -/
def spec_l5Before.f (a0_0 : Int) (a0_1 : Int) (a1_0 : Int) (a1_1 : Int) : Option (Bool) := if a0_0 < a1_0 then (some true) else (if a0_0 = a1_0 then (some (decide (a0_1 < a1_1))) else (some false))
theorem spec_l5Before.calls (a0_0 : Int) (a0_1 : Int) (a1_0 : Int) (a1_1 : Int) (r : Bool) (w : World) (h : spec_l5Before.f a0_0 a0_1 a1_0 a1_1 = some r) :
  Calls Try.prog 67 #[.agg #[.int .i64 a0_0, .int .i64 a0_1], .agg #[.int .i64 a1_0, .int .i64 a1_1]] w fun e w' => e = .returned (.bool r) ∧ Below w.heap.size w w' := by
 have hu116 := Try.underlying116
 have HB := AM_ (Below.refl w.heap.size w)
 unfold spec_l5Before.f at h
 have H := h
 clear h
 by_cases c3 : a0_0 < a1_0
 ·rw [if_pos c3] at H
  have c3b0 := decide_eq_true c3
  clear c3
  obtain rfl := Option.some.inj H
  go_enter Try.func67, Try.ntmps67
  go_wp2_with (first | ((with_reducible refine G2 2 rfl ?_); refine BY 2 #[.int .i64 a0_0, .int .i64 a0_1] 116 HB ?_; clear HB; intro gb157 w4 BK157 GW157 HB) | ((with_reducible refine G2 3 rfl ?_); refine BZ 3 #[.int .i64 a1_0, .int .i64 a1_1] 116 HB ?_; clear HB; intro gb158 w5 hg hb BK158 GW158 HB; have NB157_158 := NP BK157 hg; have NB158_157 := NQ BK157 hg; replace BK157 := BV BK157 hb; clear hb hg; have hnb6 := NB157_158.out; have hnc6 := NB158_157.out; obtain ⟨hcz7_0, hcz7_1, hfz7_0, hfz7_1⟩ := bk2 BK157.out; obtain ⟨hcz8_0, hcz8_1, hfz8_0, hfz8_1⟩ := bk2 BK158.out))
  go_ret
  exact QT (BT HB.out)
 rw [if_neg c3] at H
 have c3b0 := decide_eq_false c3
 clear c3
 by_cases c9 : a0_0 = a1_0
 rotate_left
 ·rw [if_neg c9] at H
  have c9b0 : (a0_0 == a1_0) = false := beq_eq_false_iff_ne.mpr c9
  have c9b1 : (a0_0 != a1_0) = true := bne_iff_ne.mpr c9
  obtain rfl := Option.some.inj H
  go_enter Try.func67, Try.ntmps67
  go_wp2_with (first | ((with_reducible refine G2 2 rfl ?_); refine BY 2 #[.int .i64 a0_0, .int .i64 a0_1] 116 HB ?_; clear HB; intro gb157 w15 BK157 GW157 HB) | ((with_reducible refine G2 3 rfl ?_); refine BZ 3 #[.int .i64 a1_0, .int .i64 a1_1] 116 HB ?_; clear HB; intro gb158 w16 hg hb BK158 GW158 HB; have NB157_158 := NP BK157 hg; have NB158_157 := NQ BK157 hg; replace BK157 := BV BK157 hb; clear hb hg; have hnb17 := NB157_158.out; have hnc17 := NB158_157.out; obtain ⟨hcz18_0, hcz18_1, hfz18_0, hfz18_1⟩ := bk2 BK157.out; obtain ⟨hcz19_0, hcz19_1, hfz19_0, hfz19_1⟩ := bk2 BK158.out))
  go_ret
  exact QT (BT HB.out)
 rw [if_pos c9] at H
 have c9b0 : (a0_0 == a1_0) = true := beq_iff_eq.mpr c9
 have c9b1 : (a0_0 != a1_0) = false := bne_eq_false_iff_eq.mpr c9
 clear c9
 obtain rfl := Option.some.inj H
 go_enter Try.func67, Try.ntmps67
 go_wp2_with (first | ((with_reducible refine G2 2 rfl ?_); refine BY 2 #[.int .i64 a0_0, .int .i64 a0_1] 116 HB ?_; clear HB; intro gb157 w10 BK157 GW157 HB) | ((with_reducible refine G2 3 rfl ?_); refine BZ 3 #[.int .i64 a1_0, .int .i64 a1_1] 116 HB ?_; clear HB; intro gb158 w11 hg hb BK158 GW158 HB; have NB157_158 := NP BK157 hg; have NB158_157 := NQ BK157 hg; replace BK157 := BV BK157 hb; clear hb hg; have hnb12 := NB157_158.out; have hnc12 := NB158_157.out; obtain ⟨hcz13_0, hcz13_1, hfz13_0, hfz13_1⟩ := bk2 BK157.out; obtain ⟨hcz14_0, hcz14_1, hfz14_0, hfz14_1⟩ := bk2 BK158.out))
 go_ret
 exact QT (BT HB.out)

end Go.Proofs.Ytdgknikgfjhohaa.PFnExactIsValidEngine
