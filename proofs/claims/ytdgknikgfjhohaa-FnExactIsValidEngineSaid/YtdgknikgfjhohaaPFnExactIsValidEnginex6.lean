-- Printed by wip/myprint.py.
import Derived.Test.YtdgknikgfjhohaaPFnExactIsValidEnginex5
namespace Go.Proofs.Ytdgknikgfjhohaa.PFnExactIsValidEngine
open Go.RowKit Go.Proofs.YtdgknikgfjhohaaW.PrintWords Go.Proofs.YtdgknikgfjhohaaW.PrintLast Go.Proofs.YtdgknikgfjhohaaW.PrintMore
set_option maxHeartbeats 8000000
set_option maxRecDepth 100000
set_option linter.unusedVariables false
set_option linter.unusedSimpArgs false

/-! ### spec_IsValidTransaction: function 31 -/
mutual
def spec_IsValidTransaction.l0 : Nat → Int → Int → Int → Int → Int → Int → Int → Int → List (S116) → List (S103) → Option (Bool)
 | 0, _, _, _, _, _, _, _, _, _, _ => none
 | k + 1, x3, x160000, x160001, x160002, x160003, x160004, x160005, x160006, x160007, x160008 => if x3 < (x160007.length : Int) then (if 0 ≤ x3 then ((spec_l1In.f ((rd_T116 x160007 x3).f0) 0 5).bind fun t162 => (if t162 = true then ((spec_l1In.f ((rd_T116 x160007 x3).f1) 0 999).bind fun t163 => (if t163 = true then (if x3 > 0 then (if 0 ≤ (wrap64 (x3 - 1)) then (if (wrap64 (x3 - 1)) < (x160007.length : Int) then ((spec_l5Before.f ((rd_T116 x160007 (wrap64 (x3 - 1))).f0) ((rd_T116 x160007 (wrap64 (x3 - 1))).f1) ((rd_T116 x160007 x3).f0) ((rd_T116 x160007 x3).f1)).bind fun t165 => (spec_IsValidTransaction.j1 k x3 (!t165) x160000 x160001 x160002 x160003 x160004 x160005 x160006 x160007 x160008)) else (none)) else (none)) else (spec_IsValidTransaction.j1 k x3 false x160000 x160001 x160002 x160003 x160004 x160005 x160006 x160007 x160008)) else (spec_IsValidTransaction.j1 k x3 true x160000 x160001 x160002 x160003 x160004 x160005 x160006 x160007 x160008))) else (spec_IsValidTransaction.j1 k x3 true x160000 x160001 x160002 x160003 x160004 x160005 x160006 x160007 x160008))) else (none)) else (spec_IsValidTransaction.l1 k 0 x160000 x160001 x160002 x160003 x160004 x160005 x160006 x160007 x160008)
def spec_IsValidTransaction.j1 : Nat → Int → Bool → Int → Int → Int → Int → Int → Int → Int → List (S116) → List (S103) → Option (Bool)
 | 0, _, _, _, _, _, _, _, _, _, _, _ => none
 | k + 1, x3, x43, x160000, x160001, x160002, x160003, x160004, x160005, x160006, x160007, x160008 => if x43 = true then (some false) else (spec_IsValidTransaction.l0 k (wrap64 (x3 + 1)) x160000 x160001 x160002 x160003 x160004 x160005 x160006 x160007 x160008)
def spec_IsValidTransaction.l1 : Nat → Int → Int → Int → Int → Int → Int → Int → Int → List (S116) → List (S103) → Option (Bool)
 | 0, _, _, _, _, _, _, _, _, _, _ => none
 | k + 1, x5, x160000, x160001, x160002, x160003, x160004, x160005, x160006, x160007, x160008 => if x5 < (x160008.length : Int) then (if 0 ≤ x5 then ((spec_l1In.f ((rd_T103 x160008 x5).f0) 0 5).bind fun t168 => (if t168 = true then ((spec_l1In.f ((rd_T103 x160008 x5).f1) (-1) 99).bind fun t169 => (if t169 = true then (if x5 > 0 then (if 0 ≤ (wrap64 (x5 - 1)) then (if (wrap64 (x5 - 1)) < (x160008.length : Int) then (spec_IsValidTransaction.j3 k x5 (decide (((rd_T103 x160008 (wrap64 (x5 - 1))).f0) ≥ ((rd_T103 x160008 x5).f0))) x160000 x160001 x160002 x160003 x160004 x160005 x160006 x160007 x160008) else (none)) else (none)) else (spec_IsValidTransaction.j3 k x5 false x160000 x160001 x160002 x160003 x160004 x160005 x160006 x160007 x160008)) else (spec_IsValidTransaction.j3 k x5 true x160000 x160001 x160002 x160003 x160004 x160005 x160006 x160007 x160008))) else (spec_IsValidTransaction.j3 k x5 true x160000 x160001 x160002 x160003 x160004 x160005 x160006 x160007 x160008))) else (none)) else ((spec_l1In.f x160000 1 9).bind fun t171 => (if t171 = true then ((spec_l1In.f x160001 1 4).bind fun t172 => (if t172 = true then ((spec_l1In.f x160003 0 999).bind fun t173 => (spec_IsValidTransaction.j4 k (!t173) x160000 x160001 x160002 x160003 x160004 x160005 x160006 x160007 x160008)) else (spec_IsValidTransaction.j4 k true x160000 x160001 x160002 x160003 x160004 x160005 x160006 x160007 x160008))) else (spec_IsValidTransaction.j4 k true x160000 x160001 x160002 x160003 x160004 x160005 x160006 x160007 x160008)))
def spec_IsValidTransaction.j3 : Nat → Int → Bool → Int → Int → Int → Int → Int → Int → Int → List (S116) → List (S103) → Option (Bool)
 | 0, _, _, _, _, _, _, _, _, _, _, _ => none
 | k + 1, x5, x81, x160000, x160001, x160002, x160003, x160004, x160005, x160006, x160007, x160008 => if x81 = true then (some false) else (spec_IsValidTransaction.l1 k (wrap64 (x5 + 1)) x160000 x160001 x160002 x160003 x160004 x160005 x160006 x160007 x160008)
def spec_IsValidTransaction.j4 : Nat → Bool → Int → Int → Int → Int → Int → Int → Int → List (S116) → List (S103) → Option (Bool)
 | 0, _, _, _, _, _, _, _, _, _, _ => none
 | k + 1, x97, x160000, x160001, x160002, x160003, x160004, x160005, x160006, x160007, x160008 => if x97 = true then (some false) else ((spec_l1In.f x160002 1 3).bind fun t174 => (if t174 = true then ((spec_l1In.f x160004 0 999).bind fun t175 => (if t175 = true then ((spec_l1In.f x160005 1 1000).bind fun t176 => (if t176 = true then (if ((x160002 == 2) == (decide (x160006 > 0))) = true then ((spec_l1In.f x160006 0 999).bind fun t177 => (if t177 = true then (some (decide ((x160007.length : Int) ≤ 60))) else (some false))) else (some false)) else (some false))) else (some false))) else (some false)))
end
def spec_IsValidTransaction.f (k : Nat) (a0_0 : Int) (a0_1 : Int) (a0_2 : Int) (a0_3 : Int) (a0_4 : Int) (a0_5 : Int) (a0_6 : Int) (l0_7 : List (S116)) (l0_8 : List (S103)) : Option (Bool) := spec_IsValidTransaction.l0 k 0 a0_0 a0_1 a0_2 a0_3 a0_4 a0_5 a0_6 l0_7 l0_8
theorem spec_IsValidTransaction.mono_l : ∀ k, (∀ y0 y1 y2 y3 y4 y5 y6 y7 y8 y9, LeO (spec_IsValidTransaction.l0 k y0 y1 y2 y3 y4 y5 y6 y7 y8 y9) (spec_IsValidTransaction.l0 (k + 1) y0 y1 y2 y3 y4 y5 y6 y7 y8 y9)) ∧ (∀ y0 y1 y2 y3 y4 y5 y6 y7 y8 y9 y10, LeO (spec_IsValidTransaction.j1 k y0 y1 y2 y3 y4 y5 y6 y7 y8 y9 y10) (spec_IsValidTransaction.j1 (k + 1) y0 y1 y2 y3 y4 y5 y6 y7 y8 y9 y10)) ∧ (∀ y0 y1 y2 y3 y4 y5 y6 y7 y8 y9, LeO (spec_IsValidTransaction.l1 k y0 y1 y2 y3 y4 y5 y6 y7 y8 y9) (spec_IsValidTransaction.l1 (k + 1) y0 y1 y2 y3 y4 y5 y6 y7 y8 y9)) ∧ (∀ y0 y1 y2 y3 y4 y5 y6 y7 y8 y9 y10, LeO (spec_IsValidTransaction.j3 k y0 y1 y2 y3 y4 y5 y6 y7 y8 y9 y10) (spec_IsValidTransaction.j3 (k + 1) y0 y1 y2 y3 y4 y5 y6 y7 y8 y9 y10)) ∧ (∀ y0 y1 y2 y3 y4 y5 y6 y7 y8 y9, LeO (spec_IsValidTransaction.j4 k y0 y1 y2 y3 y4 y5 y6 y7 y8 y9) (spec_IsValidTransaction.j4 (k + 1) y0 y1 y2 y3 y4 y5 y6 y7 y8 y9))
 | 0 => ⟨fun _ _ _ _ _ _ _ _ _ _ r h => by simp [spec_IsValidTransaction.l0] at h, fun _ _ _ _ _ _ _ _ _ _ _ r h => by simp [spec_IsValidTransaction.j1] at h, fun _ _ _ _ _ _ _ _ _ _ r h => by simp [spec_IsValidTransaction.l1] at h, fun _ _ _ _ _ _ _ _ _ _ _ r h => by simp [spec_IsValidTransaction.j3] at h, fun _ _ _ _ _ _ _ _ _ _ r h => by simp [spec_IsValidTransaction.j4] at h⟩
 | k + 1 => by
  obtain ⟨ih0, ih1, ih2, ih3, ih4⟩ := spec_IsValidTransaction.mono_l k
  refine ⟨?_, ?_, ?_, ?_, ?_⟩
  all_goals intros; first | unfold spec_IsValidTransaction.l0 | unfold spec_IsValidTransaction.j1 | unfold spec_IsValidTransaction.l1 | unfold spec_IsValidTransaction.j3 | unfold spec_IsValidTransaction.j4
  all_goals repeat' (with_reducible first | exact ih0 .. | exact ih1 .. | exact ih2 .. | exact ih3 .. | exact ih4 .. | exact LeO.refl _ | exact LeO.none _ | refine LeO.ite ?_ ?_ | refine LeO.bind ?_ (fun _ => ?_))
theorem spec_IsValidTransaction.mono : ∀ a0 a1 a2 a3 a4 a5 a6 a7 a8 k, LeO (spec_IsValidTransaction.f k a0 a1 a2 a3 a4 a5 a6 a7 a8) (spec_IsValidTransaction.f (k + 1) a0 a1 a2 a3 a4 a5 a6 a7 a8) := by
 intro a0 a1 a2 a3 a4 a5 a6 a7 a8 k
 obtain ⟨ih0, ih1, ih2, ih3, ih4⟩ := spec_IsValidTransaction.mono_l k
 unfold spec_IsValidTransaction.f
 repeat' (with_reducible first | exact ih0 .. | exact ih1 .. | exact ih2 .. | exact ih3 .. | exact ih4 .. | exact LeO.refl _ | exact LeO.none _ | refine LeO.ite ?_ ?_ | refine LeO.bind ?_ (fun _ => ?_))
def spec_IsValidTransaction.T5 : Bool × List (List Nat × List Nat) := (true, [([], []), ([0], [0]), ([1], [1]), ([2], [2]), ([3, 2], [3]), ([4], [4]), ([5, 4], [4, 5]), ([6, 4, 4], [4, 6]), ([7, 4], [4, 7]), ([4, 8], [4, 8]), ([9, 7], [9]), ([10], [10]), ([11, 10], [10, 11]), ([12, 10, 10], [10, 12]), ([13], [13]), ([14, 13], [13, 14]), ([13], [13]), ([16, 13], [13, 16]), ([15, 17, 13], [13, 15, 17]), ([18, 13], [13, 18]), ([13], [13]), ([19, 20, 13, 13], [13, 19, 20]), ([21, 13], [13, 21]), ([13, 22, 10], [10, 13, 22]), ([10, 23], [10, 23])])
def spec_IsValidTransaction.B5 : List Nat := [0, 1, 3, 7, 15, 31, 63, 127, 255, 511, 1023, 2047, 4095, 8191, 16383, 32767, 16383, 81919, 262143, 524287, 16383, 2097151, 4194303, 8388607, 16777215]
theorem spec_IsValidTransaction.tab5 : rtab .any (opsOf Try.f31 5) = spec_IsValidTransaction.T5 := by kernel_rfl
theorem spec_IsValidTransaction.bits5 : waitsOk spec_IsValidTransaction.T5.2 spec_IsValidTransaction.B5 = true := by kernel_rfl
def spec_IsValidTransaction.T11 : Bool × List (List Nat × List Nat) := (true, [([], []), ([0], [0]), ([1], [1]), ([2], [2]), ([3, 2], [3]), ([4], [4]), ([5, 4], [4, 5]), ([6, 4, 4], [4, 6]), ([7, 4], [4, 7]), ([4, 8], [4, 8]), ([9, 7], [9]), ([10], [10]), ([11, 10], [10, 11]), ([12, 10, 10], [10, 12]), ([13], [13]), ([14, 13], [13, 14]), ([13], [13]), ([16, 13], [13, 16]), ([15, 17, 13], [13, 15, 17]), ([18, 13], [13, 18]), ([19, 13], [13, 19]), ([13], [13]), ([21, 13], [13, 21]), ([20, 22, 13], [13, 20, 22]), ([13, 23, 10], [10, 13, 23]), ([10, 24], [10, 24])])
def spec_IsValidTransaction.B11 : List Nat := [0, 1, 3, 7, 15, 31, 63, 127, 255, 511, 1023, 2047, 4095, 8191, 16383, 32767, 16383, 81919, 262143, 524287, 1048575, 16383, 2113535, 8388607, 16777215, 33554431]
theorem spec_IsValidTransaction.tab11 : rtab .any (opsOf Try.f31 11) = spec_IsValidTransaction.T11 := by kernel_rfl
theorem spec_IsValidTransaction.bits11 : waitsOk spec_IsValidTransaction.T11.2 spec_IsValidTransaction.B11 = true := by kernel_rfl
theorem spec_IsValidTransaction.calls (k : Nat) (a0_0 : Int) (a0_1 : Int) (a0_2 : Int) (a0_3 : Int) (a0_4 : Int) (a0_5 : Int) (a0_6 : Int) (A0_7 : Option Addr) (c0_7 : Nat) (l0_7 : List (S116)) (A0_8 : Option Addr) (c0_8 : Nat) (l0_8 : List (S103)) (r : Bool) (w : World) (hr0_7 : Kd.C k116 w A0_7 l0_7.length l0_7) (hc0_7 : l0_7.length ≤ c0_7) (hr0_8 : Kd.C k103 w A0_8 l0_8.length l0_8) (hc0_8 : l0_8.length ≤ c0_8) (h : spec_IsValidTransaction.f k a0_0 a0_1 a0_2 a0_3 a0_4 a0_5 a0_6 l0_7 l0_8 = some r) :
  Calls Try.prog 31 #[.agg #[.int .i64 a0_0, .int .i64 a0_1, .int .i64 a0_2, .int .i64 a0_3, .int .i64 a0_4, .int .i64 a0_5, .int .i64 a0_6, .slice A0_7 l0_7.length c0_7, .slice A0_8 l0_8.length c0_8]] w fun e w' => e = .returned (.bool r) ∧ Below w.heap.size w w' := by
 have hu48 := Try.underlying48
 have hu116 := Try.underlying116
 have hu103 := Try.underlying103
 have HR0_7 := AM_ hr0_7
 have HC0_7 := AM_ hc0_7
 clear hr0_7 hc0_7
 have HR0_8 := AM_ hr0_8
 have HC0_8 := AM_ hc0_8
 clear hr0_8 hc0_8
 have HB := AM_ (Below.refl w.heap.size w)
 unfold spec_IsValidTransaction.f at h
 have H := h
 clear h
 have H' := AM_ H
 clear H
 go_enter Try.func31, Try.ntmps31
 go_wp2_with (first | ((with_reducible refine G2 1 rfl ?_); (try (refine gate_guard (by rfl) ?_; dsimp only)); refine BY 1 #[.int .i64 a0_0, .int .i64 a0_1, .int .i64 a0_2, .int .i64 a0_3, .int .i64 a0_4, .int .i64 a0_5, .int .i64 a0_6, .slice A0_7 l0_7.length c0_7, .slice A0_8 l0_8.length c0_8] 48 HB ?_; clear HB; intro gb159 w2 BK159 GW159 HB))
 go_loopg [3] k (fun kq v3 w' => ∃ (x3_1 : Int), v3 = .int .i64 x3_1 ∧ Aside0 (spec_IsValidTransaction.l0 kq x3_1 a0_0 a0_1 a0_2 a0_3 a0_4 a0_5 a0_6 l0_7 l0_8 = some r) ∧ Aside0 (kq ≤ k) ∧ Aside0 (w'.heap[gb159]? = some (.cells #[.int .i64 a0_0, .int .i64 a0_1, .int .i64 a0_2, .int .i64 a0_3, .int .i64 a0_4, .int .i64 a0_5, .int .i64 a0_6, (.slice A0_7 l0_7.length c0_7), (.slice A0_8 l0_8.length c0_8)] 48 (0, 0))) ∧ Aside0 (Below w.heap.size w w'))
 case atStart => exact ⟨(0), (by first | rfl | (simp; done) | (simp [*]; done)), H', ⟨Nat.le_refl _⟩, ⟨BH BK159.out⟩, ⟨BT HB.out⟩⟩
 case round =>
  clear H'
  obtain ⟨x3_1, rfl, HA, HK1, BK159, HB⟩ := hrel
  cases gk with
  | zero => exact absurd HA.out (by simp [spec_IsValidTransaction.l0])
  | succ k1 =>
   have H := HA.out
   clear HA
   simp only [spec_IsValidTransaction.l0] at H
   by_cases c3 : x3_1 < (l0_7.length : Int)
   ·rw [if_pos c3] at H
    have c3b0 := decide_eq_true c3
    clear c3
    replace H := HI H
    obtain ⟨c4, H⟩ := H
    have c4b0 := decide_eq_true c4
    clear c4
    have HC5 := AM_ H
    clear H
    obtain ⟨hcz6_0, hcz6_1, hcz6_2, hcz6_3, hcz6_4, hcz6_5, hcz6_6, hcz6_7, hcz6_8, hfz6_0, hfz6_1, hfz6_2, hfz6_3, hfz6_4, hfz6_5, hfz6_6, hfz6_7, hfz6_8⟩ := bk9 BK159.out
    have p160 : 0 ≤ (x3_1 : Int) := DT
    have q160 : x3_1 < (l0_7.length : Int) := DT
    obtain ⟨ad160, e160, hx160_0, hx160_1⟩ := at_T116 HR0_7.out x3_1 p160 q160
    cases e160
    replace hx160_0 := BC HB.out hx160_0
    replace hx160_1 := BC HB.out hx160_1
    replace p160 := eq_true p160
    replace q160 := eq_true q160
    go_upto_region 5 with (first | ((with_reducible refine G2 4 rfl ?_); (try (refine gate_guard (by rfl) ?_; dsimp only)); refine BZ 4 #[.int .i64 0, .int .i64 0] 116 HB ?_; clear HB; intro gb161 w7 hg hb BK161 GW161 HB; have NB159_161 := NP BK159 hg; have NB161_159 := NQ BK159 hg; replace BK159 := BV BK159 hb; clear hb hg; have hnb8 := NB161_159.out; have hnc8 := NB159_161.out; obtain ⟨hcz9_0, hcz9_1, hfz9_0, hfz9_1⟩ := bk2 BK161.out))
    (try simp only [pA, pS, pZ, pK])
    go_cut [43] (fun v43 wc => ∃ (kq : Nat) (x43_4 : Bool), v43 = .bool x43_4 ∧ Aside0 (spec_IsValidTransaction.j1 kq x3_1 x43_4 a0_0 a0_1 a0_2 a0_3 a0_4 a0_5 a0_6 l0_7 l0_8 = some r) ∧ Aside0 (kq ≤ k1) ∧ Aside0 (wc.heap[gb159]? = some (.cells #[.int .i64 a0_0, .int .i64 a0_1, .int .i64 a0_2, .int .i64 a0_3, .int .i64 a0_4, .int .i64 a0_5, .int .i64 a0_6, (.slice (some ad160) l0_7.length c0_7), (.slice A0_8 l0_8.length c0_8)] 48 (0, 0))) ∧ Aside0 (wc.heap[gb161]? = some (.cells #[.int .i64 ((rd_T116 l0_7 x3_1).f0), .int .i64 ((rd_T116 l0_7 x3_1).f1)] 116 (0, 0))) ∧ Aside0 (Below w.heap.size w wc))
    case first =>
     have H := HC5.out
     clear HC5
     obtain ⟨t162, A10, H⟩ := OB H
     by_cases c11 : t162 = true
     rotate_left
     ·replace c11 := Bool.eq_false_iff.mpr c11
      subst c11
      replace H := HF H
      have H' := AM_ H
      clear H
      try go_wp2
      generalize hW_ : (w7.setCell ⟨gb161, 0, none⟩ (.int .i64 ((rd_T116 l0_7 x3_1).f0))).setCell ⟨gb161, 1, none⟩ (.int .i64 ((rd_T116 l0_7 x3_1).f1)) = w26
      have n0_ : Aside0 (w26.heap[gb159]? = some (.cells #[.int .i64 a0_0, .int .i64 a0_1, .int .i64 a0_2, .int .i64 a0_3, .int .i64 a0_4, .int .i64 a0_5, .int .i64 a0_6, .slice (some ad160) l0_7.length c0_7, .slice A0_8 l0_8.length c0_8] 48 (0, 0))) := by subst hW_; exact ⟨BG BK159.out NB159_161.out⟩
      have n1_ : Aside0 (w26.heap[gb161]? = some (.cells #[.int .i64 ((rd_T116 l0_7 x3_1).f0), .int .i64 ((rd_T116 l0_7 x3_1).f1)] 116 (0, 0))) := by subst hW_; exact ⟨BQ BK161.out⟩
      have n2_ : Aside0 (Below w.heap.size w w26) := by subst hW_; exact ⟨BT HB.out⟩
      (try clear BK159)
      (try clear BK161)
      (try clear HB)
      clear hW_
      have BK159 := n0_
      have BK161 := n1_
      have HB := n2_
      clear n0_ n1_ n2_
      replace BK159 := BD1 BK159
      replace BK161 := BD1 BK161
      replace HB := BD2 HB
      refine start_ (n := 25) (S := fun w' => w'.cell? ⟨gb161, 0, none⟩ = some (.int .i64 ((rd_T116 l0_7 x3_1).f0)) ∧ w'.cell? ⟨gb161, 1, none⟩ = some (.int .i64 ((rd_T116 l0_7 x3_1).f1))) (ds := []) (lo 0 25) (by kernel_rfl) rfl rfl ⟨bc BK161.out 0, bc BK161.out 1⟩ (fun hHeld => ?_); refine with_tabW spec_IsValidTransaction.tab5 spec_IsValidTransaction.bits5 (fun HT_ HW_ => ?_)
      generalize w26.drew = w27 at BK159 BK161 HB hHeld ⊢
      iterate 2 first | refine PS HT_ ?_ | refine TS HT_ HW_ hHeld ?_
      refine OS HT_ (fun K hK => ?_)
      refine GO Try.func29 #[.int .i64 ((rd_T116 l0_7 x3_1).f0), .int .i64 0, .int .i64 5] ?_
      with_reducible refine MQ (spec_l1In.calls ((rd_T116 l0_7 x3_1).f0) 0 5 false _ A10.out) ?_
      intro nd
      refine hK.out _ _ ⟨bc BK161.out 0, bc BK161.out 1⟩ (fun hHeld => ?_)
      clear hK K
      refine NM 21 ?_
      iterate 22 first | refine PS HT_ ?_ | refine PT HT_ ?_
      refine done_ (done_of HT_.out (by kernel_rfl)) ?_
      try go_wp2
      go_meet
      case rel => exact ⟨_, (true), (by first | rfl | (simp; done) | (simp [*]; done)), H', ⟨by have := HK1.out; first | omega | exact Nat.le_refl _⟩, ⟨BH BK159.out⟩, ⟨BH BK161.out⟩, ⟨BT HB.out⟩⟩
     subst c11
     replace H := HT H
     obtain ⟨t163, A12, H⟩ := OB H
     by_cases c13 : t163 = true
     rotate_left
     ·replace c13 := Bool.eq_false_iff.mpr c13
      subst c13
      replace H := HF H
      have H' := AM_ H
      clear H
      try go_wp2
      generalize hW_ : (w7.setCell ⟨gb161, 0, none⟩ (.int .i64 ((rd_T116 l0_7 x3_1).f0))).setCell ⟨gb161, 1, none⟩ (.int .i64 ((rd_T116 l0_7 x3_1).f1)) = w24
      have n0_ : Aside0 (w24.heap[gb159]? = some (.cells #[.int .i64 a0_0, .int .i64 a0_1, .int .i64 a0_2, .int .i64 a0_3, .int .i64 a0_4, .int .i64 a0_5, .int .i64 a0_6, .slice (some ad160) l0_7.length c0_7, .slice A0_8 l0_8.length c0_8] 48 (0, 0))) := by subst hW_; exact ⟨BG BK159.out NB159_161.out⟩
      have n1_ : Aside0 (w24.heap[gb161]? = some (.cells #[.int .i64 ((rd_T116 l0_7 x3_1).f0), .int .i64 ((rd_T116 l0_7 x3_1).f1)] 116 (0, 0))) := by subst hW_; exact ⟨BQ BK161.out⟩
      have n2_ : Aside0 (Below w.heap.size w w24) := by subst hW_; exact ⟨BT HB.out⟩
      (try clear BK159)
      (try clear BK161)
      (try clear HB)
      clear hW_
      have BK159 := n0_
      have BK161 := n1_
      have HB := n2_
      clear n0_ n1_ n2_
      replace BK159 := BD1 BK159
      replace BK161 := BD1 BK161
      replace HB := BD2 HB
      refine start_ (n := 25) (S := fun w' => w'.cell? ⟨gb161, 0, none⟩ = some (.int .i64 ((rd_T116 l0_7 x3_1).f0)) ∧ w'.cell? ⟨gb161, 1, none⟩ = some (.int .i64 ((rd_T116 l0_7 x3_1).f1))) (ds := []) (lo 0 25) (by kernel_rfl) rfl rfl ⟨bc BK161.out 0, bc BK161.out 1⟩ (fun hHeld => ?_); refine with_tabW spec_IsValidTransaction.tab5 spec_IsValidTransaction.bits5 (fun HT_ HW_ => ?_)
      generalize w24.drew = w25 at BK159 BK161 HB hHeld ⊢
      iterate 2 first | refine PS HT_ ?_ | refine TS HT_ HW_ hHeld ?_
      refine OS HT_ (fun K hK => ?_)
      refine GO Try.func29 #[.int .i64 ((rd_T116 l0_7 x3_1).f0), .int .i64 0, .int .i64 5] ?_
      with_reducible refine MQ (spec_l1In.calls ((rd_T116 l0_7 x3_1).f0) 0 5 true _ A10.out) ?_
      intro nd
      refine hK.out _ _ ⟨bc BK161.out 0, bc BK161.out 1⟩ (fun hHeld => ?_)
      clear hK K
      refine NM 21 ?_
      iterate 4 first | refine PS HT_ ?_ | refine TS HT_ HW_ hHeld ?_
      refine OS HT_ (fun K hK => ?_)
      refine GO Try.func29 #[.int .i64 ((rd_T116 l0_7 x3_1).f1), .int .i64 0, .int .i64 999] ?_
      with_reducible refine MQ (spec_l1In.calls ((rd_T116 l0_7 x3_1).f1) 0 999 false _ A12.out) ?_
      intro nd
      refine hK.out _ _ ⟨bc BK161.out 0, bc BK161.out 1⟩ (fun hHeld => ?_)
      clear hK K
      refine NM 26 ?_
      iterate 17 first | refine PS HT_ ?_ | refine PT HT_ ?_
      refine done_ (done_of HT_.out (by kernel_rfl)) ?_
      try go_wp2
      go_meet
      case rel => exact ⟨_, (true), (by first | rfl | (simp; done) | (simp [*]; done)), H', ⟨by have := HK1.out; first | omega | exact Nat.le_refl _⟩, ⟨BH BK159.out⟩, ⟨BH BK161.out⟩, ⟨BT HB.out⟩⟩
     subst c13
     replace H := HT H
     by_cases c14 : x3_1 > 0
     rotate_left
     ·rw [if_neg c14] at H
      have c14b0 : decide (0 < x3_1) = false := decide_eq_false c14
      clear c14
      (first | rw [c14b0] | (simp only [i64_w, i32_w]; rw [c14b0]) | skip)
      have H' := AM_ H
      clear H
      try go_wp2
      generalize hW_ : (w7.setCell ⟨gb161, 0, none⟩ (.int .i64 ((rd_T116 l0_7 x3_1).f0))).setCell ⟨gb161, 1, none⟩ (.int .i64 ((rd_T116 l0_7 x3_1).f1)) = w22
      have n0_ : Aside0 (w22.heap[gb159]? = some (.cells #[.int .i64 a0_0, .int .i64 a0_1, .int .i64 a0_2, .int .i64 a0_3, .int .i64 a0_4, .int .i64 a0_5, .int .i64 a0_6, .slice (some ad160) l0_7.length c0_7, .slice A0_8 l0_8.length c0_8] 48 (0, 0))) := by subst hW_; exact ⟨BG BK159.out NB159_161.out⟩
      have n1_ : Aside0 (w22.heap[gb161]? = some (.cells #[.int .i64 ((rd_T116 l0_7 x3_1).f0), .int .i64 ((rd_T116 l0_7 x3_1).f1)] 116 (0, 0))) := by subst hW_; exact ⟨BQ BK161.out⟩
      have n2_ : Aside0 (Below w.heap.size w w22) := by subst hW_; exact ⟨BT HB.out⟩
      (try clear BK159)
      (try clear BK161)
      (try clear HB)
      clear hW_
      have BK159 := n0_
      have BK161 := n1_
      have HB := n2_
      clear n0_ n1_ n2_
      replace BK159 := BD1 BK159
      replace BK161 := BD1 BK161
      replace HB := BD2 HB
      refine start_ (n := 25) (S := fun w' => w'.cell? ⟨gb161, 0, none⟩ = some (.int .i64 ((rd_T116 l0_7 x3_1).f0)) ∧ w'.cell? ⟨gb161, 1, none⟩ = some (.int .i64 ((rd_T116 l0_7 x3_1).f1))) (ds := []) (lo 0 25) (by kernel_rfl) rfl rfl ⟨bc BK161.out 0, bc BK161.out 1⟩ (fun hHeld => ?_); refine with_tabW spec_IsValidTransaction.tab5 spec_IsValidTransaction.bits5 (fun HT_ HW_ => ?_)
      generalize w22.drew = w23 at BK159 BK161 HB hHeld ⊢
      iterate 2 first | refine PS HT_ ?_ | refine TS HT_ HW_ hHeld ?_
      refine OS HT_ (fun K hK => ?_)
      refine GO Try.func29 #[.int .i64 ((rd_T116 l0_7 x3_1).f0), .int .i64 0, .int .i64 5] ?_
      with_reducible refine MQ (spec_l1In.calls ((rd_T116 l0_7 x3_1).f0) 0 5 true _ A10.out) ?_
      intro nd
      refine hK.out _ _ ⟨bc BK161.out 0, bc BK161.out 1⟩ (fun hHeld => ?_)
      clear hK K
      refine NM 21 ?_
      iterate 4 first | refine PS HT_ ?_ | refine TS HT_ HW_ hHeld ?_
      refine OS HT_ (fun K hK => ?_)
      refine GO Try.func29 #[.int .i64 ((rd_T116 l0_7 x3_1).f1), .int .i64 0, .int .i64 999] ?_
      with_reducible refine MQ (spec_l1In.calls ((rd_T116 l0_7 x3_1).f1) 0 999 true _ A12.out) ?_
      intro nd
      refine hK.out _ _ ⟨bc BK161.out 0, bc BK161.out 1⟩ (fun hHeld => ?_)
      clear hK K
      refine NM 26 ?_
      iterate 17 first | refine PS HT_ ?_ | refine PT HT_ ?_
      refine done_ (done_of HT_.out (by kernel_rfl)) ?_
      try go_wp2
      go_meet
      case rel => exact ⟨_, (false), (by first | rfl | (simp; done) | (simp [*]; done)), H', ⟨by have := HK1.out; first | omega | exact Nat.le_refl _⟩, ⟨BH BK159.out⟩, ⟨BH BK161.out⟩, ⟨BT HB.out⟩⟩
     rw [if_pos c14] at H
     have c14b0 : decide (0 < x3_1) = true := decide_eq_true c14
     clear c14
     (first | rw [c14b0] | (simp only [i64_w, i32_w]; rw [c14b0]) | skip)
     obtain ⟨ji15, hji15⟩ : ∃ j_ : Int, (wrap64 (x3_1 - 1)) = j_ := ⟨_, rfl⟩
     replace H : (if 0 ≤ (ji15) then (if (ji15) < (l0_7.length : Int) then ((spec_l5Before.f ((rd_T116 l0_7 (ji15)).f0) ((rd_T116 l0_7 (ji15)).f1) ((rd_T116 l0_7 x3_1).f0) ((rd_T116 l0_7 x3_1).f1)).bind fun t165 => (spec_IsValidTransaction.j1 k1 x3_1 (!t165) a0_0 a0_1 a0_2 a0_3 a0_4 a0_5 a0_6 l0_7 l0_8)) else (none)) else (none)) = some r := by first | (rw [hji15] at H; exact H) | (simp only [hji15] at H ⊢; exact H)
     (try rw [hji15] at A10)
     (try rw [hji15] at A12)
     have hji15w : (IntKind.i64.wrap (x3_1 - 1)) = ji15 := (i64_w _).trans hji15
     replace H := HI H
     obtain ⟨c16, H⟩ := H
     have c16b0 := decide_eq_true c16
     clear c16
     replace H := HI H
     obtain ⟨c17, H⟩ := H
     have c17b0 := decide_eq_true c17
     clear c17
     obtain ⟨t165, A18, H⟩ := OB H
     have H' := AM_ H
     clear H
     try go_wp2
     generalize hW_ : (w7.setCell ⟨gb161, 0, none⟩ (.int .i64 ((rd_T116 l0_7 x3_1).f0))).setCell ⟨gb161, 1, none⟩ (.int .i64 ((rd_T116 l0_7 x3_1).f1)) = w19
     have n0_ : Aside0 (w19.heap[gb159]? = some (.cells #[.int .i64 a0_0, .int .i64 a0_1, .int .i64 a0_2, .int .i64 a0_3, .int .i64 a0_4, .int .i64 a0_5, .int .i64 a0_6, .slice (some ad160) l0_7.length c0_7, .slice A0_8 l0_8.length c0_8] 48 (0, 0))) := by subst hW_; exact ⟨BG BK159.out NB159_161.out⟩
     have n1_ : Aside0 (w19.heap[gb161]? = some (.cells #[.int .i64 ((rd_T116 l0_7 x3_1).f0), .int .i64 ((rd_T116 l0_7 x3_1).f1)] 116 (0, 0))) := by subst hW_; exact ⟨BQ BK161.out⟩
     have n2_ : Aside0 (Below w.heap.size w w19) := by subst hW_; exact ⟨BT HB.out⟩
     (try clear BK159)
     (try clear BK161)
     (try clear HB)
     clear hW_
     have BK159 := n0_
     have BK161 := n1_
     have HB := n2_
     clear n0_ n1_ n2_
     replace BK159 := BD1 BK159
     replace BK161 := BD1 BK161
     replace HB := BD2 HB
     have p164 : 0 ≤ ((ji15) : Int) := DT
     have q164 : (ji15) < (l0_7.length : Int) := DT
     obtain ⟨ad164, e164, hx164_0, hx164_1⟩ := at_T116 HR0_7.out (ji15) p164 q164
     have hw164_1 := hx164_1
     have hw164_0 := hx164_0
     obtain rfl : ad160 = ad164 := (by injection e164)
     replace hx164_0 := BC HB.out hx164_0
     replace hx164_1 := BC HB.out hx164_1
     replace p164 := eq_true p164
     replace q164 := eq_true q164
     refine start_ (n := 25) (S := fun w' => w'.cell? ⟨gb161, 0, none⟩ = some (.int .i64 ((rd_T116 l0_7 x3_1).f0)) ∧ w'.cell? ⟨gb161, 1, none⟩ = some (.int .i64 ((rd_T116 l0_7 x3_1).f1)) ∧ w'.cell? ⟨gb159, 0, none⟩ = some (.int .i64 a0_0) ∧ w'.cell? ⟨gb159, 1, none⟩ = some (.int .i64 a0_1) ∧ w'.cell? ⟨gb159, 2, none⟩ = some (.int .i64 a0_2) ∧ w'.cell? ⟨gb159, 3, none⟩ = some (.int .i64 a0_3) ∧ w'.cell? ⟨gb159, 4, none⟩ = some (.int .i64 a0_4) ∧ w'.cell? ⟨gb159, 5, none⟩ = some (.int .i64 a0_5) ∧ w'.cell? ⟨gb159, 6, none⟩ = some (.int .i64 a0_6) ∧ w'.cell? ⟨gb159, 7, none⟩ = some (.slice (some ad160) l0_7.length c0_7) ∧ w'.cell? ⟨gb159, 8, none⟩ = some (.slice A0_8 l0_8.length c0_8) ∧ w'.cell? (ad160.add (((ji15)).toNat * 2)) = some (.int .i64 ((rd_T116 l0_7 (ji15)).f0)) ∧ w'.cell? ⟨(ad160.add (((ji15)).toNat * 2)).block, (ad160.add (((ji15)).toNat * 2)).off + 1, none⟩ = some (.int .i64 ((rd_T116 l0_7 (ji15)).f1))) (ds := []) (lo 0 25) (by kernel_rfl) rfl rfl ⟨bc BK161.out 0, bc BK161.out 1, bc BK159.out 0, bc BK159.out 1, bc BK159.out 2, bc BK159.out 3, bc BK159.out 4, bc BK159.out 5, bc BK159.out 6, bc BK159.out 7, bc BK159.out 8, (BD HB.out hw164_0), (BD HB.out hw164_1)⟩ (fun hHeld => ?_); refine with_tabW spec_IsValidTransaction.tab5 spec_IsValidTransaction.bits5 (fun HT_ HW_ => ?_)
     generalize w19.drew = w20 at BK159 BK161 HB hx164_0 hx164_1 hHeld ⊢
     iterate 2 first | refine PS HT_ ?_ | refine TS HT_ HW_ hHeld ?_
     refine OS HT_ (fun K hK => ?_)
     refine GO Try.func29 #[.int .i64 ((rd_T116 l0_7 x3_1).f0), .int .i64 0, .int .i64 5] ?_
     with_reducible refine MQ (spec_l1In.calls ((rd_T116 l0_7 x3_1).f0) 0 5 true _ A10.out) ?_
     intro nd
     refine hK.out _ _ ⟨bc BK161.out 0, bc BK161.out 1, bc BK159.out 0, bc BK159.out 1, bc BK159.out 2, bc BK159.out 3, bc BK159.out 4, bc BK159.out 5, bc BK159.out 6, bc BK159.out 7, bc BK159.out 8, (BD HB.out hw164_0), (BD HB.out hw164_1)⟩ (fun hHeld => ?_)
     clear hK K
     refine NM 21 ?_
     iterate 4 first | refine PS HT_ ?_ | refine TS HT_ HW_ hHeld ?_
     refine OS HT_ (fun K hK => ?_)
     refine GO Try.func29 #[.int .i64 ((rd_T116 l0_7 x3_1).f1), .int .i64 0, .int .i64 999] ?_
     with_reducible refine MQ (spec_l1In.calls ((rd_T116 l0_7 x3_1).f1) 0 999 true _ A12.out) ?_
     intro nd
     refine hK.out _ _ ⟨bc BK161.out 0, bc BK161.out 1, bc BK159.out 0, bc BK159.out 1, bc BK159.out 2, bc BK159.out 3, bc BK159.out 4, bc BK159.out 5, bc BK159.out 6, bc BK159.out 7, bc BK159.out 8, (BD HB.out hw164_0), (BD HB.out hw164_1)⟩ (fun hHeld => ?_)
     clear hK K
     refine NM 26 ?_
     iterate 7 refine PS HT_ ?_
     refine PV 16 (some 35) (bs 98303 25) HT_ ?_
     refine PV 17 (some 36) (bs 229375 25) HT_ ?_
     refine TX 15 (some 34) (lo 18 25) HT_ HW_ hHeld ?_
     iterate 3 first | refine PS HT_ ?_ | refine TS HT_ HW_ hHeld ?_
     refine OS HT_ (fun K hK => ?_)
     refine goes_ Try.func67 (by kernel_rfl) rfl #[.agg #[.int .i64 ((rd_T116 l0_7 (ji15)).f0), .int .i64 ((rd_T116 l0_7 (ji15)).f1)], .agg #[.int .i64 ((rd_T116 l0_7 x3_1).f0), .int .i64 ((rd_T116 l0_7 x3_1).f1)]] (by rfl) rfl rfl (by (try simp only [List.map_toArray, List.map_cons, List.map_nil]); first | done | (simp only [hji15]; rfl) | rfl | (simp only [List.length_drop, List.length_take]; rfl)) ?_
     with_reducible refine (spec_l5Before.calls ((rd_T116 l0_7 (ji15)).f0) ((rd_T116 l0_7 (ji15)).f1) ((rd_T116 l0_7 x3_1).f0) ((rd_T116 l0_7 x3_1).f1) t165 _ A18.out).mono ?_
     rintro e w21 ⟨rfl, hb⟩
     refine ⟨_, rfl, ?_⟩
     replace BK159 := BV BK159 hb
     replace BK161 := BV BK161 hb
     replace HB := BW HB hb
     (try clear hb)
     refine hK.out _ _ ⟨bc BK161.out 0, bc BK161.out 1, bc BK159.out 0, bc BK159.out 1, bc BK159.out 2, bc BK159.out 3, bc BK159.out 4, bc BK159.out 5, bc BK159.out 6, bc BK159.out 7, bc BK159.out 8, (BD HB.out hw164_0), (BD HB.out hw164_1)⟩ (fun hHeld => ?_)
     clear hK K
     refine NM 40 ?_
     iterate 3 refine PS HT_ ?_
     refine done_ (done_of HT_.out (by kernel_rfl)) ?_
     try go_wp2
     go_meet
     case rel => exact ⟨_, (!t165), (by first | rfl | (simp; done) | (simp [*]; done)), H', ⟨by have := HK1.out; first | omega | exact Nat.le_refl _⟩, ⟨BH BK159.out⟩, ⟨BH BK161.out⟩, ⟨BT HB.out⟩⟩
    case rest =>
     clear HC5
     try clear c11
     try clear c13
     try clear c14
     try clear c14b0
     try clear c16
     try clear c17
     obtain ⟨kq, x43_4, rfl, HA, HJ4, BK159, BK161, HB⟩ := hcut
     cases kq with
     | zero => exact absurd HA.out (by simp [spec_IsValidTransaction.j1])
     | succ kj4 =>
      have H := HA.out
      clear HA
      simp only [spec_IsValidTransaction.j1] at H
      by_cases c28 : x43_4 = true
      ·subst c28
       replace H := HT H
       obtain rfl := Option.some.inj H
       go_wp2
       go_ret
       exact QT (BT HB.out)
      replace c28 := Bool.eq_false_iff.mpr c28
      subst c28
      replace H := HF H
      have H' := AM_ H
      clear H
      go_wp2
      go_roundg kj4
      case measure => have := HK1.out; have := HJ4.out; omega
      case rel => exact ⟨(wrap64 (x3_1 + 1)), (by first | rfl | (simp; done) | (simp [*]; done)), H', ⟨by have := HK1.out; have := HJ4.out; omega⟩, ⟨BH BK159.out⟩, ⟨BT HB.out⟩⟩
   rw [if_neg c3] at H
   have c3b0 := decide_eq_false c3
   clear c3
   have H' := AM_ H
   clear H
   obtain ⟨hcz29_0, hcz29_1, hcz29_2, hcz29_3, hcz29_4, hcz29_5, hcz29_6, hcz29_7, hcz29_8, hfz29_0, hfz29_1, hfz29_2, hfz29_3, hfz29_4, hfz29_5, hfz29_6, hfz29_7, hfz29_8⟩ := bk9 BK159.out
   go_wp2
   go_loopg [5] k1 (fun kq v5 w' => ∃ (x5_2 : Int), v5 = .int .i64 x5_2 ∧ Aside0 (spec_IsValidTransaction.l1 kq x5_2 a0_0 a0_1 a0_2 a0_3 a0_4 a0_5 a0_6 l0_7 l0_8 = some r) ∧ Aside0 (kq ≤ k1) ∧ Aside0 (w'.heap[gb159]? = some (.cells #[.int .i64 a0_0, .int .i64 a0_1, .int .i64 a0_2, .int .i64 a0_3, .int .i64 a0_4, .int .i64 a0_5, .int .i64 a0_6, (.slice A0_7 l0_7.length c0_7), (.slice A0_8 l0_8.length c0_8)] 48 (0, 0))) ∧ Aside0 (Below w.heap.size w w'))
   case atStart => exact ⟨(0), (by first | rfl | (simp; done) | (simp [*]; done)), H', ⟨Nat.le_refl _⟩, ⟨BH BK159.out⟩, ⟨BT HB.out⟩⟩
   case round =>
    clear H'
    try clear c3
    try clear c3b0
    try clear c4
    try clear c11
    try clear c13
    try clear c14
    try clear c14b0
    try clear c16
    try clear c17
    try clear c28
    try clear hcz29_0
    try clear hcz29_1
    try clear hcz29_2
    try clear hcz29_3
    try clear hcz29_4
    try clear hcz29_5
    try clear hcz29_6
    try clear hcz29_7
    try clear hcz29_8
    try clear hfz29_0
    try clear hfz29_1
    try clear hfz29_2
    try clear hfz29_3
    try clear hfz29_4
    try clear hfz29_5
    try clear hfz29_6
    try clear hfz29_7
    try clear hfz29_8
    obtain ⟨x5_2, rfl, HA, HK2, BK159, HB⟩ := hrel
    cases gk with
    | zero => exact absurd HA.out (by simp [spec_IsValidTransaction.l1])
    | succ k2 =>
     have H := HA.out
     clear HA
     simp only [spec_IsValidTransaction.l1] at H
     by_cases c30 : x5_2 < (l0_8.length : Int)
     rotate_left
     ·rw [if_neg c30] at H
      have c30b0 := decide_eq_false c30
      clear c30
      have HC54 := AM_ H
      clear H
      obtain ⟨hcz55_0, hcz55_1, hcz55_2, hcz55_3, hcz55_4, hcz55_5, hcz55_6, hcz55_7, hcz55_8, hfz55_0, hfz55_1, hfz55_2, hfz55_3, hfz55_4, hfz55_5, hfz55_6, hfz55_7, hfz55_8⟩ := bk9 BK159.out
      go_upto_region 13 with (fail)
      go_cut [97] (fun v97 wc => ∃ (kq : Nat) (x97_53 : Bool), v97 = .bool x97_53 ∧ Aside0 (spec_IsValidTransaction.j4 kq x97_53 a0_0 a0_1 a0_2 a0_3 a0_4 a0_5 a0_6 l0_7 l0_8 = some r) ∧ Aside0 (kq ≤ k2) ∧ Aside0 (wc.heap[gb159]? = some (.cells #[.int .i64 a0_0, .int .i64 a0_1, .int .i64 a0_2, .int .i64 a0_3, .int .i64 a0_4, .int .i64 a0_5, .int .i64 a0_6, (.slice A0_7 l0_7.length c0_7), (.slice A0_8 l0_8.length c0_8)] 48 (0, 0))) ∧ Aside0 (Below w.heap.size w wc))
      case first =>
       have H := HC54.out
       clear HC54
       obtain ⟨t171, A56, H⟩ := OB H
       by_cases c57 : t171 = true
       rotate_left
       ·replace c57 := Bool.eq_false_iff.mpr c57
        subst c57
        replace H := HF H
        have H' := AM_ H
        clear H
        obtain ⟨hcz63_0, hcz63_1, hcz63_2, hcz63_3, hcz63_4, hcz63_5, hcz63_6, hcz63_7, hcz63_8, hfz63_0, hfz63_1, hfz63_2, hfz63_3, hfz63_4, hfz63_5, hfz63_6, hfz63_7, hfz63_8⟩ := bk9 BK159.out
        go_wp2_with (first | ((with_reducible refine G1 29 rfl ?_); refine GC (some 84) Try.func29 #[.int .i64 a0_0, .int .i64 1, .int .i64 9] ?_; (with_reducible refine MQ (spec_l1In.calls a0_0 1 9 false _ A56.out) ?_); intro nd))
        go_meet
        case rel => exact ⟨_, (true), (by first | rfl | (simp; done) | (simp [*]; done)), H', ⟨by have := HK1.out; have := HK2.out; first | omega | exact Nat.le_refl _⟩, ⟨BH BK159.out⟩, ⟨BT HB.out⟩⟩
       subst c57
       replace H := HT H
       obtain ⟨t172, A58, H⟩ := OB H
       by_cases c59 : t172 = true
       rotate_left
       ·replace c59 := Bool.eq_false_iff.mpr c59
        subst c59
        replace H := HF H
        have H' := AM_ H
        clear H
        obtain ⟨hcz62_0, hcz62_1, hcz62_2, hcz62_3, hcz62_4, hcz62_5, hcz62_6, hcz62_7, hcz62_8, hfz62_0, hfz62_1, hfz62_2, hfz62_3, hfz62_4, hfz62_5, hfz62_6, hfz62_7, hfz62_8⟩ := bk9 BK159.out
        go_wp2_with (first | ((with_reducible refine G1 29 rfl ?_); refine GC (some 84) Try.func29 #[.int .i64 a0_0, .int .i64 1, .int .i64 9] ?_; (with_reducible refine MQ (spec_l1In.calls a0_0 1 9 true _ A56.out) ?_); intro nd) | (go_at_call 29; (with_reducible refine (spec_l1In.calls a0_1 1 4 false _ A58.out).mono ?_); rintro e w' ⟨rfl, ⟨nd, rfl⟩⟩))
        go_meet
        case rel => exact ⟨_, (true), (by first | rfl | (simp; done) | (simp [*]; done)), H', ⟨by have := HK1.out; have := HK2.out; first | omega | exact Nat.le_refl _⟩, ⟨BH BK159.out⟩, ⟨BT HB.out⟩⟩
       subst c59
       replace H := HT H
       obtain ⟨t173, A60, H⟩ := OB H
       have H' := AM_ H
       clear H
       obtain ⟨hcz61_0, hcz61_1, hcz61_2, hcz61_3, hcz61_4, hcz61_5, hcz61_6, hcz61_7, hcz61_8, hfz61_0, hfz61_1, hfz61_2, hfz61_3, hfz61_4, hfz61_5, hfz61_6, hfz61_7, hfz61_8⟩ := bk9 BK159.out
       go_wp2_with (first | ((with_reducible refine G1 29 rfl ?_); refine GC (some 84) Try.func29 #[.int .i64 a0_0, .int .i64 1, .int .i64 9] ?_; (with_reducible refine MQ (spec_l1In.calls a0_0 1 9 true _ A56.out) ?_); intro nd) | (go_at_call 29; (with_reducible refine (spec_l1In.calls a0_1 1 4 true _ A58.out).mono ?_); rintro e w' ⟨rfl, ⟨nd, rfl⟩⟩) | (go_at_call 29; (with_reducible refine (spec_l1In.calls a0_3 0 999 t173 _ A60.out).mono ?_); rintro e w' ⟨rfl, ⟨nd, rfl⟩⟩))
       go_meet
       case rel => exact ⟨_, (!t173), (by first | rfl | (simp; done) | (simp [*]; done)), H', ⟨by have := HK1.out; have := HK2.out; first | omega | exact Nat.le_refl _⟩, ⟨BH BK159.out⟩, ⟨BT HB.out⟩⟩
      case rest =>
       clear HC54
       try clear c3
       try clear c4
       try clear c30
       try clear c30b0
       try clear c57
       try clear c59
       try clear hcz55_0
       try clear hcz55_1
       try clear hcz55_2
       try clear hcz55_3
       try clear hcz55_4
       try clear hcz55_5
       try clear hcz55_6
       try clear hcz55_7
       try clear hcz55_8
       try clear hcz61_0
       try clear hcz61_1
       try clear hcz61_2
       try clear hcz61_3
       try clear hcz61_4
       try clear hcz61_5
       try clear hcz61_6
       try clear hcz61_7
       try clear hcz61_8
       try clear hcz62_0
       try clear hcz62_1
       try clear hcz62_2
       try clear hcz62_3
       try clear hcz62_4
       try clear hcz62_5
       try clear hcz62_6
       try clear hcz62_7
       try clear hcz62_8
       try clear hcz63_0
       try clear hcz63_1
       try clear hcz63_2
       try clear hcz63_3
       try clear hcz63_4
       try clear hcz63_5
       try clear hcz63_6
       try clear hcz63_7
       try clear hcz63_8
       try clear hfz55_0
       try clear hfz55_1
       try clear hfz55_2
       try clear hfz55_3
       try clear hfz55_4
       try clear hfz55_5
       try clear hfz55_6
       try clear hfz55_7
       try clear hfz55_8
       try clear hfz61_0
       try clear hfz61_1
       try clear hfz61_2
       try clear hfz61_3
       try clear hfz61_4
       try clear hfz61_5
       try clear hfz61_6
       try clear hfz61_7
       try clear hfz61_8
       try clear hfz62_0
       try clear hfz62_1
       try clear hfz62_2
       try clear hfz62_3
       try clear hfz62_4
       try clear hfz62_5
       try clear hfz62_6
       try clear hfz62_7
       try clear hfz62_8
       try clear hfz63_0
       try clear hfz63_1
       try clear hfz63_2
       try clear hfz63_3
       try clear hfz63_4
       try clear hfz63_5
       try clear hfz63_6
       try clear hfz63_7
       try clear hfz63_8
       obtain ⟨kq, x97_53, rfl, HA, HJ53, BK159, HB⟩ := hcut
       cases kq with
       | zero => exact absurd HA.out (by simp [spec_IsValidTransaction.j4])
       | succ kj53 =>
        have H := HA.out
        clear HA
        simp only [spec_IsValidTransaction.j4] at H
        by_cases c64 : x97_53 = true
        ·subst c64
         replace H := HT H
         obtain rfl := Option.some.inj H
         go_wp2
         go_ret
         exact QT (BT HB.out)
        replace c64 := Bool.eq_false_iff.mpr c64
        subst c64
        replace H := HF H
        obtain ⟨t174, A65, H⟩ := OB H
        by_cases c66 : t174 = true
        rotate_left
        ·replace c66 := Bool.eq_false_iff.mpr c66
         subst c66
         replace H := HF H
         obtain rfl := Option.some.inj H
         obtain ⟨hcz79_0, hcz79_1, hcz79_2, hcz79_3, hcz79_4, hcz79_5, hcz79_6, hcz79_7, hcz79_8, hfz79_0, hfz79_1, hfz79_2, hfz79_3, hfz79_4, hfz79_5, hfz79_6, hfz79_7, hfz79_8⟩ := bk9 BK159.out
         go_wp2_with (first | ((with_reducible refine G1 29 rfl ?_); refine GC (some 100) Try.func29 #[.int .i64 a0_2, .int .i64 1, .int .i64 3] ?_; (with_reducible refine MQ (spec_l1In.calls a0_2 1 3 false _ A65.out) ?_); intro nd))
         go_ret
         exact QT (BT HB.out)
        subst c66
        replace H := HT H
        obtain ⟨t175, A67, H⟩ := OB H
        by_cases c68 : t175 = true
        rotate_left
        ·replace c68 := Bool.eq_false_iff.mpr c68
         subst c68
         replace H := HF H
         obtain rfl := Option.some.inj H
         obtain ⟨hcz78_0, hcz78_1, hcz78_2, hcz78_3, hcz78_4, hcz78_5, hcz78_6, hcz78_7, hcz78_8, hfz78_0, hfz78_1, hfz78_2, hfz78_3, hfz78_4, hfz78_5, hfz78_6, hfz78_7, hfz78_8⟩ := bk9 BK159.out
         go_wp2_with (first | ((with_reducible refine G1 29 rfl ?_); refine GC (some 100) Try.func29 #[.int .i64 a0_2, .int .i64 1, .int .i64 3] ?_; (with_reducible refine MQ (spec_l1In.calls a0_2 1 3 true _ A65.out) ?_); intro nd) | (go_at_call 29; (with_reducible refine (spec_l1In.calls a0_4 0 999 false _ A67.out).mono ?_); rintro e w' ⟨rfl, ⟨nd, rfl⟩⟩))
         go_ret
         exact QT (BT HB.out)
        subst c68
        replace H := HT H
        obtain ⟨t176, A69, H⟩ := OB H
        by_cases c70 : t176 = true
        rotate_left
        ·replace c70 := Bool.eq_false_iff.mpr c70
         subst c70
         replace H := HF H
         obtain rfl := Option.some.inj H
         obtain ⟨hcz77_0, hcz77_1, hcz77_2, hcz77_3, hcz77_4, hcz77_5, hcz77_6, hcz77_7, hcz77_8, hfz77_0, hfz77_1, hfz77_2, hfz77_3, hfz77_4, hfz77_5, hfz77_6, hfz77_7, hfz77_8⟩ := bk9 BK159.out
         go_wp2_with (first | ((with_reducible refine G1 29 rfl ?_); refine GC (some 100) Try.func29 #[.int .i64 a0_2, .int .i64 1, .int .i64 3] ?_; (with_reducible refine MQ (spec_l1In.calls a0_2 1 3 true _ A65.out) ?_); intro nd) | (go_at_call 29; (with_reducible refine (spec_l1In.calls a0_4 0 999 true _ A67.out).mono ?_); rintro e w' ⟨rfl, ⟨nd, rfl⟩⟩) | (go_at_call 29; (with_reducible refine (spec_l1In.calls a0_5 1 1000 false _ A69.out).mono ?_); rintro e w' ⟨rfl, ⟨nd, rfl⟩⟩))
         go_ret
         exact QT (BT HB.out)
        subst c70
        replace H := HT H
        by_cases c71 : ((a0_2 == 2) == (decide (a0_6 > 0))) = true
        rotate_left
        ·rw [if_neg c71] at H
         have c71b0 : ((a0_2 == 2) == (decide (a0_6 > 0))) = false := by simpa using c71
         (try (have c71b1 : decide ((a0_2 == 2) = (decide (a0_6 > 0))) = false := by simpa using c71))
         (try (have c71b2 : ((a0_2 == 2) == (decide (a0_6 > 0))) = false := by simpa using c71))
         (try (have c71b3 : ¬ ((a0_2 == 2) = (decide (a0_6 > 0))) := by simpa using c71))
         clear c71
         obtain rfl := Option.some.inj H
         obtain ⟨hcz76_0, hcz76_1, hcz76_2, hcz76_3, hcz76_4, hcz76_5, hcz76_6, hcz76_7, hcz76_8, hfz76_0, hfz76_1, hfz76_2, hfz76_3, hfz76_4, hfz76_5, hfz76_6, hfz76_7, hfz76_8⟩ := bk9 BK159.out
         go_wp2_with (first | ((with_reducible refine G1 29 rfl ?_); refine GC (some 100) Try.func29 #[.int .i64 a0_2, .int .i64 1, .int .i64 3] ?_; (with_reducible refine MQ (spec_l1In.calls a0_2 1 3 true _ A65.out) ?_); intro nd) | (go_at_call 29; (with_reducible refine (spec_l1In.calls a0_4 0 999 true _ A67.out).mono ?_); rintro e w' ⟨rfl, ⟨nd, rfl⟩⟩) | (go_at_call 29; (with_reducible refine (spec_l1In.calls a0_5 1 1000 true _ A69.out).mono ?_); rintro e w' ⟨rfl, ⟨nd, rfl⟩⟩))
         go_ret
         exact QT (BT HB.out)
        rw [if_pos c71] at H
        have c71b0 : ((a0_2 == 2) == (decide (a0_6 > 0))) = true := c71
        (try (have c71b1 : decide ((a0_2 == 2) = (decide (a0_6 > 0))) = true := by simpa using c71))
        (try (have c71b2 : ((a0_2 == 2) == (decide (a0_6 > 0))) = true := by simpa using c71))
        clear c71
        obtain ⟨t177, A72, H⟩ := OB H
        by_cases c73 : t177 = true
        ·subst c73
         replace H := HT H
         obtain rfl := Option.some.inj H
         obtain ⟨hcz74_0, hcz74_1, hcz74_2, hcz74_3, hcz74_4, hcz74_5, hcz74_6, hcz74_7, hcz74_8, hfz74_0, hfz74_1, hfz74_2, hfz74_3, hfz74_4, hfz74_5, hfz74_6, hfz74_7, hfz74_8⟩ := bk9 BK159.out
         go_wp2_with (first | ((with_reducible refine G1 29 rfl ?_); refine GC (some 100) Try.func29 #[.int .i64 a0_2, .int .i64 1, .int .i64 3] ?_; (with_reducible refine MQ (spec_l1In.calls a0_2 1 3 true _ A65.out) ?_); intro nd) | (go_at_call 29; (with_reducible refine (spec_l1In.calls a0_4 0 999 true _ A67.out).mono ?_); rintro e w' ⟨rfl, ⟨nd, rfl⟩⟩) | (go_at_call 29; (with_reducible refine (spec_l1In.calls a0_5 1 1000 true _ A69.out).mono ?_); rintro e w' ⟨rfl, ⟨nd, rfl⟩⟩) | (go_at_call 29; (with_reducible refine (spec_l1In.calls a0_6 0 999 true _ A72.out).mono ?_); rintro e w' ⟨rfl, ⟨nd, rfl⟩⟩))
         go_ret
         exact QT (BT HB.out)
        replace c73 := Bool.eq_false_iff.mpr c73
        subst c73
        replace H := HF H
        obtain rfl := Option.some.inj H
        obtain ⟨hcz75_0, hcz75_1, hcz75_2, hcz75_3, hcz75_4, hcz75_5, hcz75_6, hcz75_7, hcz75_8, hfz75_0, hfz75_1, hfz75_2, hfz75_3, hfz75_4, hfz75_5, hfz75_6, hfz75_7, hfz75_8⟩ := bk9 BK159.out
        go_wp2_with (first | ((with_reducible refine G1 29 rfl ?_); refine GC (some 100) Try.func29 #[.int .i64 a0_2, .int .i64 1, .int .i64 3] ?_; (with_reducible refine MQ (spec_l1In.calls a0_2 1 3 true _ A65.out) ?_); intro nd) | (go_at_call 29; (with_reducible refine (spec_l1In.calls a0_4 0 999 true _ A67.out).mono ?_); rintro e w' ⟨rfl, ⟨nd, rfl⟩⟩) | (go_at_call 29; (with_reducible refine (spec_l1In.calls a0_5 1 1000 true _ A69.out).mono ?_); rintro e w' ⟨rfl, ⟨nd, rfl⟩⟩) | (go_at_call 29; (with_reducible refine (spec_l1In.calls a0_6 0 999 false _ A72.out).mono ?_); rintro e w' ⟨rfl, ⟨nd, rfl⟩⟩))
        go_ret
        exact QT (BT HB.out)
     rw [if_pos c30] at H
     have c30b0 := decide_eq_true c30
     clear c30
     replace H := HI H
     obtain ⟨c31, H⟩ := H
     have c31b0 := decide_eq_true c31
     clear c31
     have HC32 := AM_ H
     clear H
     obtain ⟨hcz33_0, hcz33_1, hcz33_2, hcz33_3, hcz33_4, hcz33_5, hcz33_6, hcz33_7, hcz33_8, hfz33_0, hfz33_1, hfz33_2, hfz33_3, hfz33_4, hfz33_5, hfz33_6, hfz33_7, hfz33_8⟩ := bk9 BK159.out
     have p166 : 0 ≤ (x5_2 : Int) := DT
     have q166 : x5_2 < (l0_8.length : Int) := DT
     obtain ⟨ad166, e166, hx166_0, hx166_1⟩ := at_T103 HR0_8.out x5_2 p166 q166
     cases e166
     replace hx166_0 := BC HB.out hx166_0
     replace hx166_1 := BC HB.out hx166_1
     replace p166 := eq_true p166
     replace q166 := eq_true q166
     go_upto_region 11 with (first | ((with_reducible refine G2 6 rfl ?_); (try (refine gate_guard (by rfl) ?_; dsimp only)); refine BZ 6 #[.int .i64 0, .int .i64 0] 103 HB ?_; clear HB; intro gb167 w34 hg hb BK167 GW167 HB; have NB159_167 := NP BK159 hg; have NB167_159 := NQ BK159 hg; replace BK159 := BV BK159 hb; clear hb hg; have hnb35 := NB167_159.out; have hnc35 := NB159_167.out; obtain ⟨hcz36_0, hcz36_1, hfz36_0, hfz36_1⟩ := bk2 BK167.out))
     (try simp only [pA, pS, pZ, pK])
     go_cut [81] (fun v81 wc => ∃ (kq : Nat) (x81_31 : Bool), v81 = .bool x81_31 ∧ Aside0 (spec_IsValidTransaction.j3 kq x5_2 x81_31 a0_0 a0_1 a0_2 a0_3 a0_4 a0_5 a0_6 l0_7 l0_8 = some r) ∧ Aside0 (kq ≤ k2) ∧ Aside0 (wc.heap[gb159]? = some (.cells #[.int .i64 a0_0, .int .i64 a0_1, .int .i64 a0_2, .int .i64 a0_3, .int .i64 a0_4, .int .i64 a0_5, .int .i64 a0_6, (.slice A0_7 l0_7.length c0_7), (.slice (some ad166) l0_8.length c0_8)] 48 (0, 0))) ∧ Aside0 (wc.heap[gb167]? = some (.cells #[.int .i64 ((rd_T103 l0_8 x5_2).f0), .int .i64 ((rd_T103 l0_8 x5_2).f1)] 103 (0, 0))) ∧ Aside0 (Below w.heap.size w wc))
     case first =>
      have H := HC32.out
      clear HC32
      obtain ⟨t168, A37, H⟩ := OB H
      by_cases c38 : t168 = true
      rotate_left
      ·replace c38 := Bool.eq_false_iff.mpr c38
       subst c38
       replace H := HF H
       have H' := AM_ H
       clear H
       try go_wp2
       generalize hW_ : (w34.setCell ⟨gb167, 0, none⟩ (.int .i64 ((rd_T103 l0_8 x5_2).f0))).setCell ⟨gb167, 1, none⟩ (.int .i64 ((rd_T103 l0_8 x5_2).f1)) = w51
       have n0_ : Aside0 (w51.heap[gb159]? = some (.cells #[.int .i64 a0_0, .int .i64 a0_1, .int .i64 a0_2, .int .i64 a0_3, .int .i64 a0_4, .int .i64 a0_5, .int .i64 a0_6, .slice A0_7 l0_7.length c0_7, .slice (some ad166) l0_8.length c0_8] 48 (0, 0))) := by subst hW_; exact ⟨BG BK159.out NB159_167.out⟩
       have n1_ : Aside0 (w51.heap[gb167]? = some (.cells #[.int .i64 ((rd_T103 l0_8 x5_2).f0), .int .i64 ((rd_T103 l0_8 x5_2).f1)] 103 (0, 0))) := by subst hW_; exact ⟨BQ BK167.out⟩
       have n2_ : Aside0 (Below w.heap.size w w51) := by subst hW_; exact ⟨BT HB.out⟩
       (try clear BK159)
       (try clear BK167)
       (try clear HB)
       clear hW_
       have BK159 := n0_
       have BK167 := n1_
       have HB := n2_
       clear n0_ n1_ n2_
       replace BK159 := BD1 BK159
       replace BK167 := BD1 BK167
       replace HB := BD2 HB
       refine start_ (n := 26) (S := fun w' => w'.cell? ⟨gb167, 0, none⟩ = some (.int .i64 ((rd_T103 l0_8 x5_2).f0)) ∧ w'.cell? ⟨gb167, 1, none⟩ = some (.int .i64 ((rd_T103 l0_8 x5_2).f1))) (ds := []) (lo 0 26) (by kernel_rfl) rfl rfl ⟨bc BK167.out 0, bc BK167.out 1⟩ (fun hHeld => ?_); refine with_tabW spec_IsValidTransaction.tab11 spec_IsValidTransaction.bits11 (fun HT_ HW_ => ?_)
       generalize w51.drew = w52 at BK159 BK167 HB hHeld ⊢
       iterate 2 first | refine PS HT_ ?_ | refine TS HT_ HW_ hHeld ?_
       refine OS HT_ (fun K hK => ?_)
       refine GO Try.func29 #[.int .i64 ((rd_T103 l0_8 x5_2).f0), .int .i64 0, .int .i64 5] ?_
       with_reducible refine MQ (spec_l1In.calls ((rd_T103 l0_8 x5_2).f0) 0 5 false _ A37.out) ?_
       intro nd
       refine hK.out _ _ ⟨bc BK167.out 0, bc BK167.out 1⟩ (fun hHeld => ?_)
       clear hK K
       refine NM 58 ?_
       iterate 23 first | refine PS HT_ ?_ | refine PT HT_ ?_
       refine done_ (done_of HT_.out (by kernel_rfl)) ?_
       try go_wp2
       go_meet
       case rel => exact ⟨_, (true), (by first | rfl | (simp; done) | (simp [*]; done)), H', ⟨by have := HK1.out; have := HK2.out; first | omega | exact Nat.le_refl _⟩, ⟨BH BK159.out⟩, ⟨BH BK167.out⟩, ⟨BT HB.out⟩⟩
      subst c38
      replace H := HT H
      obtain ⟨t169, A39, H⟩ := OB H
      by_cases c40 : t169 = true
      rotate_left
      ·replace c40 := Bool.eq_false_iff.mpr c40
       subst c40
       replace H := HF H
       have H' := AM_ H
       clear H
       try go_wp2
       generalize hW_ : (w34.setCell ⟨gb167, 0, none⟩ (.int .i64 ((rd_T103 l0_8 x5_2).f0))).setCell ⟨gb167, 1, none⟩ (.int .i64 ((rd_T103 l0_8 x5_2).f1)) = w49
       have n0_ : Aside0 (w49.heap[gb159]? = some (.cells #[.int .i64 a0_0, .int .i64 a0_1, .int .i64 a0_2, .int .i64 a0_3, .int .i64 a0_4, .int .i64 a0_5, .int .i64 a0_6, .slice A0_7 l0_7.length c0_7, .slice (some ad166) l0_8.length c0_8] 48 (0, 0))) := by subst hW_; exact ⟨BG BK159.out NB159_167.out⟩
       have n1_ : Aside0 (w49.heap[gb167]? = some (.cells #[.int .i64 ((rd_T103 l0_8 x5_2).f0), .int .i64 ((rd_T103 l0_8 x5_2).f1)] 103 (0, 0))) := by subst hW_; exact ⟨BQ BK167.out⟩
       have n2_ : Aside0 (Below w.heap.size w w49) := by subst hW_; exact ⟨BT HB.out⟩
       (try clear BK159)
       (try clear BK167)
       (try clear HB)
       clear hW_
       have BK159 := n0_
       have BK167 := n1_
       have HB := n2_
       clear n0_ n1_ n2_
       replace BK159 := BD1 BK159
       replace BK167 := BD1 BK167
       replace HB := BD2 HB
       refine start_ (n := 26) (S := fun w' => w'.cell? ⟨gb167, 0, none⟩ = some (.int .i64 ((rd_T103 l0_8 x5_2).f0)) ∧ w'.cell? ⟨gb167, 1, none⟩ = some (.int .i64 ((rd_T103 l0_8 x5_2).f1))) (ds := []) (lo 0 26) (by kernel_rfl) rfl rfl ⟨bc BK167.out 0, bc BK167.out 1⟩ (fun hHeld => ?_); refine with_tabW spec_IsValidTransaction.tab11 spec_IsValidTransaction.bits11 (fun HT_ HW_ => ?_)
       generalize w49.drew = w50 at BK159 BK167 HB hHeld ⊢
       iterate 2 first | refine PS HT_ ?_ | refine TS HT_ HW_ hHeld ?_
       refine OS HT_ (fun K hK => ?_)
       refine GO Try.func29 #[.int .i64 ((rd_T103 l0_8 x5_2).f0), .int .i64 0, .int .i64 5] ?_
       with_reducible refine MQ (spec_l1In.calls ((rd_T103 l0_8 x5_2).f0) 0 5 true _ A37.out) ?_
       intro nd
       refine hK.out _ _ ⟨bc BK167.out 0, bc BK167.out 1⟩ (fun hHeld => ?_)
       clear hK K
       refine NM 58 ?_
       iterate 4 first | refine PS HT_ ?_ | refine TS HT_ HW_ hHeld ?_
       refine OS HT_ (fun K hK => ?_)
       refine GO Try.func29 #[.int .i64 ((rd_T103 l0_8 x5_2).f1), .int .i64 (-1), .int .i64 99] ?_
       with_reducible refine MQ (spec_l1In.calls ((rd_T103 l0_8 x5_2).f1) (-1) 99 false _ A39.out) ?_
       intro nd
       refine hK.out _ _ ⟨bc BK167.out 0, bc BK167.out 1⟩ (fun hHeld => ?_)
       clear hK K
       refine NM 63 ?_
       iterate 18 first | refine PS HT_ ?_ | refine PT HT_ ?_
       refine done_ (done_of HT_.out (by kernel_rfl)) ?_
       try go_wp2
       go_meet
       case rel => exact ⟨_, (true), (by first | rfl | (simp; done) | (simp [*]; done)), H', ⟨by have := HK1.out; have := HK2.out; first | omega | exact Nat.le_refl _⟩, ⟨BH BK159.out⟩, ⟨BH BK167.out⟩, ⟨BT HB.out⟩⟩
      subst c40
      replace H := HT H
      by_cases c41 : x5_2 > 0
      rotate_left
      ·rw [if_neg c41] at H
       have c41b0 : decide (0 < x5_2) = false := decide_eq_false c41
       clear c41
       (first | rw [c41b0] | (simp only [i64_w, i32_w]; rw [c41b0]) | skip)
       have H' := AM_ H
       clear H
       try go_wp2
       generalize hW_ : (w34.setCell ⟨gb167, 0, none⟩ (.int .i64 ((rd_T103 l0_8 x5_2).f0))).setCell ⟨gb167, 1, none⟩ (.int .i64 ((rd_T103 l0_8 x5_2).f1)) = w47
       have n0_ : Aside0 (w47.heap[gb159]? = some (.cells #[.int .i64 a0_0, .int .i64 a0_1, .int .i64 a0_2, .int .i64 a0_3, .int .i64 a0_4, .int .i64 a0_5, .int .i64 a0_6, .slice A0_7 l0_7.length c0_7, .slice (some ad166) l0_8.length c0_8] 48 (0, 0))) := by subst hW_; exact ⟨BG BK159.out NB159_167.out⟩
       have n1_ : Aside0 (w47.heap[gb167]? = some (.cells #[.int .i64 ((rd_T103 l0_8 x5_2).f0), .int .i64 ((rd_T103 l0_8 x5_2).f1)] 103 (0, 0))) := by subst hW_; exact ⟨BQ BK167.out⟩
       have n2_ : Aside0 (Below w.heap.size w w47) := by subst hW_; exact ⟨BT HB.out⟩
       (try clear BK159)
       (try clear BK167)
       (try clear HB)
       clear hW_
       have BK159 := n0_
       have BK167 := n1_
       have HB := n2_
       clear n0_ n1_ n2_
       replace BK159 := BD1 BK159
       replace BK167 := BD1 BK167
       replace HB := BD2 HB
       refine start_ (n := 26) (S := fun w' => w'.cell? ⟨gb167, 0, none⟩ = some (.int .i64 ((rd_T103 l0_8 x5_2).f0)) ∧ w'.cell? ⟨gb167, 1, none⟩ = some (.int .i64 ((rd_T103 l0_8 x5_2).f1))) (ds := []) (lo 0 26) (by kernel_rfl) rfl rfl ⟨bc BK167.out 0, bc BK167.out 1⟩ (fun hHeld => ?_); refine with_tabW spec_IsValidTransaction.tab11 spec_IsValidTransaction.bits11 (fun HT_ HW_ => ?_)
       generalize w47.drew = w48 at BK159 BK167 HB hHeld ⊢
       iterate 2 first | refine PS HT_ ?_ | refine TS HT_ HW_ hHeld ?_
       refine OS HT_ (fun K hK => ?_)
       refine GO Try.func29 #[.int .i64 ((rd_T103 l0_8 x5_2).f0), .int .i64 0, .int .i64 5] ?_
       with_reducible refine MQ (spec_l1In.calls ((rd_T103 l0_8 x5_2).f0) 0 5 true _ A37.out) ?_
       intro nd
       refine hK.out _ _ ⟨bc BK167.out 0, bc BK167.out 1⟩ (fun hHeld => ?_)
       clear hK K
       refine NM 58 ?_
       iterate 4 first | refine PS HT_ ?_ | refine TS HT_ HW_ hHeld ?_
       refine OS HT_ (fun K hK => ?_)
       refine GO Try.func29 #[.int .i64 ((rd_T103 l0_8 x5_2).f1), .int .i64 (-1), .int .i64 99] ?_
       with_reducible refine MQ (spec_l1In.calls ((rd_T103 l0_8 x5_2).f1) (-1) 99 true _ A39.out) ?_
       intro nd
       refine hK.out _ _ ⟨bc BK167.out 0, bc BK167.out 1⟩ (fun hHeld => ?_)
       clear hK K
       refine NM 63 ?_
       iterate 18 first | refine PS HT_ ?_ | refine PT HT_ ?_
       refine done_ (done_of HT_.out (by kernel_rfl)) ?_
       try go_wp2
       go_meet
       case rel => exact ⟨_, (false), (by first | rfl | (simp; done) | (simp [*]; done)), H', ⟨by have := HK1.out; have := HK2.out; first | omega | exact Nat.le_refl _⟩, ⟨BH BK159.out⟩, ⟨BH BK167.out⟩, ⟨BT HB.out⟩⟩
      rw [if_pos c41] at H
      have c41b0 : decide (0 < x5_2) = true := decide_eq_true c41
      clear c41
      (first | rw [c41b0] | (simp only [i64_w, i32_w]; rw [c41b0]) | skip)
      obtain ⟨ji42, hji42⟩ : ∃ j_ : Int, (wrap64 (x5_2 - 1)) = j_ := ⟨_, rfl⟩
      replace H : (if 0 ≤ (ji42) then (if (ji42) < (l0_8.length : Int) then (spec_IsValidTransaction.j3 k2 x5_2 (decide (((rd_T103 l0_8 (ji42)).f0) ≥ ((rd_T103 l0_8 x5_2).f0))) a0_0 a0_1 a0_2 a0_3 a0_4 a0_5 a0_6 l0_7 l0_8) else (none)) else (none)) = some r := by first | (rw [hji42] at H; exact H) | (simp only [hji42] at H ⊢; exact H)
      (try rw [hji42] at A37)
      (try rw [hji42] at A39)
      have hji42w : (IntKind.i64.wrap (x5_2 - 1)) = ji42 := (i64_w _).trans hji42
      replace H := HI H
      obtain ⟨c43, H⟩ := H
      have c43b0 := decide_eq_true c43
      clear c43
      replace H := HI H
      obtain ⟨c44, H⟩ := H
      have c44b0 := decide_eq_true c44
      clear c44
      have H' := AM_ H
      clear H
      try go_wp2
      generalize hW_ : (w34.setCell ⟨gb167, 0, none⟩ (.int .i64 ((rd_T103 l0_8 x5_2).f0))).setCell ⟨gb167, 1, none⟩ (.int .i64 ((rd_T103 l0_8 x5_2).f1)) = w45
      have n0_ : Aside0 (w45.heap[gb159]? = some (.cells #[.int .i64 a0_0, .int .i64 a0_1, .int .i64 a0_2, .int .i64 a0_3, .int .i64 a0_4, .int .i64 a0_5, .int .i64 a0_6, .slice A0_7 l0_7.length c0_7, .slice (some ad166) l0_8.length c0_8] 48 (0, 0))) := by subst hW_; exact ⟨BG BK159.out NB159_167.out⟩
      have n1_ : Aside0 (w45.heap[gb167]? = some (.cells #[.int .i64 ((rd_T103 l0_8 x5_2).f0), .int .i64 ((rd_T103 l0_8 x5_2).f1)] 103 (0, 0))) := by subst hW_; exact ⟨BQ BK167.out⟩
      have n2_ : Aside0 (Below w.heap.size w w45) := by subst hW_; exact ⟨BT HB.out⟩
      (try clear BK159)
      (try clear BK167)
      (try clear HB)
      clear hW_
      have BK159 := n0_
      have BK167 := n1_
      have HB := n2_
      clear n0_ n1_ n2_
      replace BK159 := BD1 BK159
      replace BK167 := BD1 BK167
      replace HB := BD2 HB
      have p170 : 0 ≤ ((ji42) : Int) := DT
      have q170 : (ji42) < (l0_8.length : Int) := DT
      obtain ⟨ad170, e170, hx170_0, hx170_1⟩ := at_T103 HR0_8.out (ji42) p170 q170
      have hw170_1 := hx170_1
      have hw170_0 := hx170_0
      obtain rfl : ad166 = ad170 := (by injection e170)
      replace hx170_0 := BC HB.out hx170_0
      replace hx170_1 := BC HB.out hx170_1
      replace p170 := eq_true p170
      replace q170 := eq_true q170
      refine start_ (n := 26) (S := fun w' => w'.cell? ⟨gb167, 0, none⟩ = some (.int .i64 ((rd_T103 l0_8 x5_2).f0)) ∧ w'.cell? ⟨gb167, 1, none⟩ = some (.int .i64 ((rd_T103 l0_8 x5_2).f1)) ∧ w'.cell? ⟨gb159, 0, none⟩ = some (.int .i64 a0_0) ∧ w'.cell? ⟨gb159, 1, none⟩ = some (.int .i64 a0_1) ∧ w'.cell? ⟨gb159, 2, none⟩ = some (.int .i64 a0_2) ∧ w'.cell? ⟨gb159, 3, none⟩ = some (.int .i64 a0_3) ∧ w'.cell? ⟨gb159, 4, none⟩ = some (.int .i64 a0_4) ∧ w'.cell? ⟨gb159, 5, none⟩ = some (.int .i64 a0_5) ∧ w'.cell? ⟨gb159, 6, none⟩ = some (.int .i64 a0_6) ∧ w'.cell? ⟨gb159, 7, none⟩ = some (.slice A0_7 l0_7.length c0_7) ∧ w'.cell? ⟨gb159, 8, none⟩ = some (.slice (some ad166) l0_8.length c0_8) ∧ w'.cell? (ad166.add (((ji42)).toNat * 2)) = some (.int .i64 ((rd_T103 l0_8 (ji42)).f0)) ∧ w'.cell? ⟨(ad166.add (((ji42)).toNat * 2)).block, (ad166.add (((ji42)).toNat * 2)).off + 1, none⟩ = some (.int .i64 ((rd_T103 l0_8 (ji42)).f1))) (ds := []) (lo 0 26) (by kernel_rfl) rfl rfl ⟨bc BK167.out 0, bc BK167.out 1, bc BK159.out 0, bc BK159.out 1, bc BK159.out 2, bc BK159.out 3, bc BK159.out 4, bc BK159.out 5, bc BK159.out 6, bc BK159.out 7, bc BK159.out 8, (BD HB.out hw170_0), (BD HB.out hw170_1)⟩ (fun hHeld => ?_); refine with_tabW spec_IsValidTransaction.tab11 spec_IsValidTransaction.bits11 (fun HT_ HW_ => ?_)
      generalize w45.drew = w46 at BK159 BK167 HB hx170_0 hx170_1 hHeld ⊢
      iterate 2 first | refine PS HT_ ?_ | refine TS HT_ HW_ hHeld ?_
      refine OS HT_ (fun K hK => ?_)
      refine GO Try.func29 #[.int .i64 ((rd_T103 l0_8 x5_2).f0), .int .i64 0, .int .i64 5] ?_
      with_reducible refine MQ (spec_l1In.calls ((rd_T103 l0_8 x5_2).f0) 0 5 true _ A37.out) ?_
      intro nd
      refine hK.out _ _ ⟨bc BK167.out 0, bc BK167.out 1, bc BK159.out 0, bc BK159.out 1, bc BK159.out 2, bc BK159.out 3, bc BK159.out 4, bc BK159.out 5, bc BK159.out 6, bc BK159.out 7, bc BK159.out 8, (BD HB.out hw170_0), (BD HB.out hw170_1)⟩ (fun hHeld => ?_)
      clear hK K
      refine NM 58 ?_
      iterate 4 first | refine PS HT_ ?_ | refine TS HT_ HW_ hHeld ?_
      refine OS HT_ (fun K hK => ?_)
      refine GO Try.func29 #[.int .i64 ((rd_T103 l0_8 x5_2).f1), .int .i64 (-1), .int .i64 99] ?_
      with_reducible refine MQ (spec_l1In.calls ((rd_T103 l0_8 x5_2).f1) (-1) 99 true _ A39.out) ?_
      intro nd
      refine hK.out _ _ ⟨bc BK167.out 0, bc BK167.out 1, bc BK159.out 0, bc BK159.out 1, bc BK159.out 2, bc BK159.out 3, bc BK159.out 4, bc BK159.out 5, bc BK159.out 6, bc BK159.out 7, bc BK159.out 8, (BD HB.out hw170_0), (BD HB.out hw170_1)⟩ (fun hHeld => ?_)
      clear hK K
      refine NM 63 ?_
      iterate 7 refine PS HT_ ?_
      refine PV 16 (some 72) (bs 98303 26) HT_ ?_
      refine PV 17 (some 73) (bs 229375 26) HT_ ?_
      refine PV 21 (some 77) (bs 2326527 26) HT_ ?_
      refine TX 15 (some 71) (bs 2359295 26) HT_ HW_ hHeld ?_
      refine PV 18 (some 74) (bs 2621439 26) HT_ ?_
      refine PV 19 (some 75) (bs 3145727 26) HT_ ?_
      refine TX 20 (some 76) (lo 22 26) HT_ HW_ hHeld ?_
      iterate 4 first | refine PS HT_ ?_ | refine TS HT_ HW_ hHeld ?_
      refine done_ (done_of HT_.out (by kernel_rfl)) ?_
      try go_wp2
      go_meet
      case rel => exact ⟨_, (decide (((rd_T103 l0_8 (ji42)).f0) ≥ ((rd_T103 l0_8 x5_2).f0))), (by first | rfl | (simp; done) | (simp only [← hji42] <;> (first | rfl | simp)) | (simp [*]; done)), H', ⟨by have := HK1.out; have := HK2.out; first | omega | exact Nat.le_refl _⟩, ⟨BH BK159.out⟩, ⟨BH BK167.out⟩, ⟨BT HB.out⟩⟩
     case rest =>
      clear HC32
      try clear c3
      try clear c4
      try clear c38
      try clear c40
      try clear c41
      try clear c41b0
      try clear c43
      try clear c44
      obtain ⟨kq, x81_31, rfl, HA, HJ31, BK159, BK167, HB⟩ := hcut
      cases kq with
      | zero => exact absurd HA.out (by simp [spec_IsValidTransaction.j3])
      | succ kj31 =>
       have H := HA.out
       clear HA
       simp only [spec_IsValidTransaction.j3] at H
       by_cases c53 : x81_31 = true
       ·subst c53
        replace H := HT H
        obtain rfl := Option.some.inj H
        go_wp2
        go_ret
        exact QT (BT HB.out)
       replace c53 := Bool.eq_false_iff.mpr c53
       subst c53
       replace H := HF H
       have H' := AM_ H
       clear H
       go_wp2
       go_roundg kj31
       case measure => have := HK1.out; have := HK2.out; have := HJ31.out; omega
       case rel => exact ⟨(wrap64 (x5_2 + 1)), (by first | rfl | (simp; done) | (simp [*]; done)), H', ⟨by have := HK1.out; have := HK2.out; have := HJ31.out; omega⟩, ⟨BH BK159.out⟩, ⟨BT HB.out⟩⟩

end Go.Proofs.Ytdgknikgfjhohaa.PFnExactIsValidEngine
