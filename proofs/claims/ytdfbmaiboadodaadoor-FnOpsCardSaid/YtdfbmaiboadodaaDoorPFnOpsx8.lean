-- Printed by a program of mine (wip/myprint.py), which runs the printer of the kit with contracts of mine beside it.
import Derived.Test.YtdfbmaiboadodaaDoorPFnOpsx0
import Derived.Test.YtdfbmaiboadodaaDoorPFnOpsx1
import Derived.Test.YtdfbmaiboadodaaDoorPFnOpsx7
namespace Go.Proofs.YtdfbmaiboadodaaDoor.PFnOps
open Go.RowKit Go.Proofs.YtdfbmaiboadodaaDoorW.PrintWords Go.Proofs.YtdfbmaiboadodaaDoorW.PrintLast Go.Proofs.YtdfbmaiboadodaaDoorW.PrintMore
attribute [local go_sem] max2_int min2_int max_two min_two max_three min_three max_four min_four   -- for this text's walks alone
set_option linter.unusedVariables false
set_option linter.unusedSimpArgs false

attribute [local go_sem high] eqA25
/-! ### spec_IsValidOp: function 9 -/
mutual
def spec_IsValidOp.j1 : Nat → Int → Int → Int → Int → Int → Int → Int → Int → Int → Int → Option (Bool)
 | 0, _, _, _, _, _, _, _, _, _, _ => none
 | k + 1, x5, x7, x284002, x284003, x284004, x284005, x285002, x285003, x285004, x285005 => if (!(x285002 == x284002) || (!(x285003 == x284003) || (!(x285004 == x284004) || (!(x285005 == x284005))))) = true then (spec_IsValidOp.j2 k x5 true x284002 x284003 x284004 x284005) else ((spec_l1In.f x7 1 9).bind fun t285 => (if t285 = true then ((spec_l1In.f x284003 0 5).bind fun t286 => (if t286 = true then ((spec_l1In.f x284005 (-1) 99).bind fun t287 => (spec_IsValidOp.j2 k x5 (!t287) x284002 x284003 x284004 x284005)) else (spec_IsValidOp.j2 k x5 true x284002 x284003 x284004 x284005))) else (spec_IsValidOp.j2 k x5 true x284002 x284003 x284004 x284005)))
def spec_IsValidOp.j2 : Nat → Int → Bool → Int → Int → Int → Int → Option (Bool)
 | 0, _, _, _, _, _, _ => none
 | k + 1, x5, x60, x284002, x284003, x284004, x284005 => if x60 = true then (some false) else (if x5 = 1 then ((spec_l1In.f x284002 1 4).bind fun t288 => (if t288 = true then (if x5 = 4 then ((spec_l1In.f x284004 x284003 5).bind fun t289 => (some t289)) else (some true)) else (some false))) else (if x5 = 4 then ((spec_l1In.f x284004 x284003 5).bind fun t290 => (some t290)) else (some true)))
def spec_IsValidOp.j0 : Nat → Int → Int → Bool → Int → Int → Int → Int → Int → Option (Bool)
 | 0, _, _, _, _, _, _, _, _ => none
 | k + 1, x5, x7, x37, x284002, x284003, x284004, x284005, x285002 => if x37 = true then (spec_IsValidOp.j1 k x5 x7 x284002 x284003 x284004 x284005 x285002 x285002 x285002 x285002) else (some false)
end
def spec_IsValidOp.f (k : Nat) (a0_0 : Int) (a0_1 : Int) (a0_2 : Int) (a0_3 : Int) (a0_4 : Int) (a0_5 : Int) : Option (Bool) := if a0_0 = 1 then (spec_IsValidOp.j1 k a0_0 a0_1 a0_2 a0_3 a0_4 a0_5 a0_2 0 0 0) else (if a0_0 = 2 then (spec_IsValidOp.j1 k a0_0 a0_1 a0_2 a0_3 a0_4 a0_5 0 a0_3 0 0) else (if a0_0 = 3 then (spec_IsValidOp.j1 k a0_0 a0_1 a0_2 a0_3 a0_4 a0_5 0 a0_3 0 a0_5) else (if a0_0 = 4 then (spec_IsValidOp.j1 k a0_0 a0_1 a0_2 a0_3 a0_4 a0_5 0 a0_3 a0_4 0) else (if a0_0 = 5 then (spec_IsValidOp.j0 k a0_0 a0_1 (a0_0 == 5) a0_2 a0_3 a0_4 a0_5 0) else (spec_IsValidOp.j0 k a0_0 a0_1 (a0_0 == 6) a0_2 a0_3 a0_4 a0_5 0)))))
theorem spec_IsValidOp.mono_l : ∀ k, (∀ y0 y1 y2 y3 y4 y5 y6 y7 y8 y9, LeO (spec_IsValidOp.j1 k y0 y1 y2 y3 y4 y5 y6 y7 y8 y9) (spec_IsValidOp.j1 (k + 1) y0 y1 y2 y3 y4 y5 y6 y7 y8 y9)) ∧ (∀ y0 y1 y2 y3 y4 y5, LeO (spec_IsValidOp.j2 k y0 y1 y2 y3 y4 y5) (spec_IsValidOp.j2 (k + 1) y0 y1 y2 y3 y4 y5)) ∧ (∀ y0 y1 y2 y3 y4 y5 y6 y7, LeO (spec_IsValidOp.j0 k y0 y1 y2 y3 y4 y5 y6 y7) (spec_IsValidOp.j0 (k + 1) y0 y1 y2 y3 y4 y5 y6 y7))
 | 0 => ⟨fun _ _ _ _ _ _ _ _ _ _ r h => by simp [spec_IsValidOp.j1] at h, fun _ _ _ _ _ _ r h => by simp [spec_IsValidOp.j2] at h, fun _ _ _ _ _ _ _ _ r h => by simp [spec_IsValidOp.j0] at h⟩
 | k + 1 => by
  obtain ⟨ih0, ih1, ih2⟩ := spec_IsValidOp.mono_l k
  refine ⟨?_, ?_, ?_⟩
  ·intro y0 y1 y2 y3 y4 y5 y6 y7 y8 y9
   unfold spec_IsValidOp.j1
   repeat' first
   | (with_reducible exact ih0 _ _ _ _ _ _ _ _ _ _)
   | (with_reducible exact ih1 _ _ _ _ _ _)
   | (with_reducible exact ih2 _ _ _ _ _ _ _ _)
   | (with_reducible exact LeO.refl _)
   | (with_reducible exact LeO.none _)
   | (with_reducible refine LeO.ite ?_ ?_)
   | (with_reducible refine LeO.bind ?_ (fun _ => ?_))
   | exact ih0 _ _ _ _ _ _ _ _ _ _
   | exact ih1 _ _ _ _ _ _
   | exact ih2 _ _ _ _ _ _ _ _
   | exact LeO.none _
   | refine LeO.ite ?_ ?_
   | refine LeO.bind ?_ (fun _ => ?_)
  ·intro y0 y1 y2 y3 y4 y5
   unfold spec_IsValidOp.j2
   repeat' first
   | (with_reducible exact ih0 _ _ _ _ _ _ _ _ _ _)
   | (with_reducible exact ih1 _ _ _ _ _ _)
   | (with_reducible exact ih2 _ _ _ _ _ _ _ _)
   | (with_reducible exact LeO.refl _)
   | (with_reducible exact LeO.none _)
   | (with_reducible refine LeO.ite ?_ ?_)
   | (with_reducible refine LeO.bind ?_ (fun _ => ?_))
   | exact ih0 _ _ _ _ _ _ _ _ _ _
   | exact ih1 _ _ _ _ _ _
   | exact ih2 _ _ _ _ _ _ _ _
   | exact LeO.none _
   | refine LeO.ite ?_ ?_
   | refine LeO.bind ?_ (fun _ => ?_)
  ·intro y0 y1 y2 y3 y4 y5 y6 y7
   unfold spec_IsValidOp.j0
   repeat' first
   | (with_reducible exact ih0 _ _ _ _ _ _ _ _ _ _)
   | (with_reducible exact ih1 _ _ _ _ _ _)
   | (with_reducible exact ih2 _ _ _ _ _ _ _ _)
   | (with_reducible exact LeO.refl _)
   | (with_reducible exact LeO.none _)
   | (with_reducible refine LeO.ite ?_ ?_)
   | (with_reducible refine LeO.bind ?_ (fun _ => ?_))
   | exact ih0 _ _ _ _ _ _ _ _ _ _
   | exact ih1 _ _ _ _ _ _
   | exact ih2 _ _ _ _ _ _ _ _
   | exact LeO.none _
   | refine LeO.ite ?_ ?_
   | refine LeO.bind ?_ (fun _ => ?_)
theorem spec_IsValidOp.mono : ∀ a0 a1 a2 a3 a4 a5 k, LeO (spec_IsValidOp.f k a0 a1 a2 a3 a4 a5) (spec_IsValidOp.f (k + 1) a0 a1 a2 a3 a4 a5) := by
 intro a0 a1 a2 a3 a4 a5 k
 obtain ⟨ih0, ih1, ih2⟩ := spec_IsValidOp.mono_l k
 unfold spec_IsValidOp.f
 repeat' first
   | (with_reducible exact ih0 _ _ _ _ _ _ _ _ _ _)
   | (with_reducible exact ih1 _ _ _ _ _ _)
   | (with_reducible exact ih2 _ _ _ _ _ _ _ _)
   | (with_reducible exact LeO.refl _)
   | (with_reducible exact LeO.none _)
   | (with_reducible refine LeO.ite ?_ ?_)
   | (with_reducible refine LeO.bind ?_ (fun _ => ?_))
   | exact ih0 _ _ _ _ _ _ _ _ _ _
   | exact ih1 _ _ _ _ _ _
   | exact ih2 _ _ _ _ _ _ _ _
   | exact LeO.none _
   | refine LeO.ite ?_ ?_
   | refine LeO.bind ?_ (fun _ => ?_)
set_option maxHeartbeats 8000000 in
set_option maxRecDepth 100000 in
theorem spec_IsValidOp.calls (k : Nat) (a0_0 : Int) (a0_1 : Int) (a0_2 : Int) (a0_3 : Int) (a0_4 : Int) (a0_5 : Int) (r : Bool) (w : World) (h : spec_IsValidOp.f k a0_0 a0_1 a0_2 a0_3 a0_4 a0_5 = some r) :
  Calls Tryd.prog 9 #[.agg #[.int .i64 a0_0, .int .i64 a0_1, .int .i64 a0_2, .int .i64 a0_3, .int .i64 a0_4, .int .i64 a0_5]] w fun e w' => e = .returned (.bool r) ∧ Below w.heap.size w w' := by
 have hu25 := Tryd.underlying25
 have HB := AM_ (Below.refl w.heap.size w)
 have H : (if a0_0 = 1 then (spec_IsValidOp.j1 k a0_0 a0_1 a0_2 a0_3 a0_4 a0_5 a0_2 0 0 0) else (if a0_0 = 2 then (spec_IsValidOp.j1 k a0_0 a0_1 a0_2 a0_3 a0_4 a0_5 0 a0_3 0 0) else (if a0_0 = 3 then (spec_IsValidOp.j1 k a0_0 a0_1 a0_2 a0_3 a0_4 a0_5 0 a0_3 0 a0_5) else (if a0_0 = 4 then (spec_IsValidOp.j1 k a0_0 a0_1 a0_2 a0_3 a0_4 a0_5 0 a0_3 a0_4 0) else (if a0_0 = 5 then (spec_IsValidOp.j0 k a0_0 a0_1 (a0_0 == 5) a0_2 a0_3 a0_4 a0_5 0) else (spec_IsValidOp.j0 k a0_0 a0_1 (a0_0 == 6) a0_2 a0_3 a0_4 a0_5 0)))))) = some r := h
 clear h
 have HC2 := AM_ H
 clear H
 go_enter Tryd.func9, Tryd.ntmps9
 go_upto_block 0 with (first | ((with_reducible refine gate_dst (N := 1) rfl ?_); refine box_event ?hg (N := 1) ?hd (cs := #[.int .i64 a0_0, .int .i64 a0_1, .int .i64 a0_2, .int .i64 a0_3, .int .i64 a0_4, .int .i64 a0_5]) (t := 25) ?hr ?_; (case hd => rfl); (case hg => rfl); (case hr => first | (go_simp; done) | (go_simp; rfl)); intro gb283 hg w3 hbox hb; have BK283 := AM_ (hbox); have GW283 := AM_ ((GS HB.out hg)); have GE283 := AM_ ((GS HB.out hg)); replace HB := AM_ (below_step (BT HB.out) hb); clear hb hbox hg; obtain ⟨hcz4_0, hcz4_1, hcz4_2, hcz4_3, hcz4_4, hcz4_5, hfz4_0, hfz4_1, hfz4_2, hfz4_3, hfz4_4, hfz4_5⟩ := bk6 BK283.out) | ((with_reducible refine gate_dst (N := 3) rfl ?_); refine box_event ?hg (N := 3) ?hd (cs := #[.int .i64 0, .int .i64 0, .int .i64 0, .int .i64 0, .int .i64 0, .int .i64 0]) (t := 25) ?hr ?_; (case hd => rfl); (case hg => rfl); (case hr => first | (go_simp; done) | (go_simp; rfl)); intro gb284 hg w5 hbox hb; have BK284 := AM_ (hbox); have GW284 := AM_ ((GS HB.out hg)); have GE284 := AM_ ((GS HB.out hg)); replace HB := AM_ (below_step (BT HB.out) hb); have NB283_284 := AM_ ((NL BK283.out hg)); have NB284_283 := AM_ ((NG BK283.out hg)); replace BK283 := AM_ (BB BK283.out hb); clear hb hbox hg; have hnb6 := NB284_283.out; have hnc6 := NB283_284.out; obtain ⟨hcz7_0, hcz7_1, hcz7_2, hcz7_3, hcz7_4, hcz7_5, hfz7_0, hfz7_1, hfz7_2, hfz7_3, hfz7_4, hfz7_5⟩ := bk6 BK284.out; obtain ⟨hcz8_0, hcz8_1, hcz8_2, hcz8_3, hcz8_4, hcz8_5, hfz8_0, hfz8_1, hfz8_2, hfz8_3, hfz8_4, hfz8_5⟩ := bk6 BK283.out))
 (try simp only [pA, pS, pZ, pK])
 go_cut [] (fun wc => ∃ (kq : Nat) (x285002_1 : Int) (x285003_1 : Int) (x285004_1 : Int) (x285005_1 : Int), Aside0 (spec_IsValidOp.j1 kq a0_0 a0_1 a0_2 a0_3 a0_4 a0_5 x285002_1 x285003_1 x285004_1 x285005_1 = some r) ∧ Aside0 (kq ≤ k) ∧ Aside0 (wc.heap[gb283]? = some (.cells #[.int .i64 a0_0, .int .i64 a0_1, .int .i64 a0_2, .int .i64 a0_3, .int .i64 a0_4, .int .i64 a0_5] 25 (0, 0))) ∧ Aside0 (wc.heap[gb284]? = some (.cells #[.int .i64 a0_0, .int .i64 a0_1, .int .i64 x285002_1, .int .i64 x285003_1, .int .i64 x285004_1, .int .i64 x285005_1] 25 (0, 0))) ∧ Aside0 (Below w.heap.size w wc))
 case first =>
  have H := HC2.out
  clear HC2
  by_cases c9 : a0_0 = 1
  ·rw [if_pos c9] at H
   have c9b0 : (a0_0 == 1) = true := beq_iff_eq.mpr c9
   have c9b1 : (a0_0 != 1) = false := bne_eq_false_iff_eq.mpr c9
   clear c9
   (first | rw [c9b0] | (simp only [i64_w, i32_w]; rw [c9b0]) | skip)
   have H' := AM_ H
   clear H
   have hnb10 := NB283_284.out
   have hnc10 := NB284_283.out
   obtain ⟨hcz11_0, hcz11_1, hcz11_2, hcz11_3, hcz11_4, hcz11_5, hfz11_0, hfz11_1, hfz11_2, hfz11_3, hfz11_4, hfz11_5⟩ := bk6 BK283.out
   obtain ⟨hcz12_0, hcz12_1, hcz12_2, hcz12_3, hcz12_4, hcz12_5, hfz12_0, hfz12_1, hfz12_2, hfz12_3, hfz12_4, hfz12_5⟩ := bk6 BK284.out
   go_wp2
   go_meet
   case rel => exact ⟨_, (a0_2), (0), (0), (0), H', ⟨by first | omega | exact Nat.le_refl _⟩, ⟨BG BK283.out NB283_284.out⟩, ⟨BQ BK284.out⟩, ⟨BT HB.out⟩⟩
  rw [if_neg c9] at H
  have c9b0 : (a0_0 == 1) = false := beq_eq_false_iff_ne.mpr c9
  have c9b1 : (a0_0 != 1) = true := bne_iff_ne.mpr c9
  (first | rw [c9b0] | (simp only [i64_w, i32_w]; rw [c9b0]) | skip)
  by_cases c13 : a0_0 = 2
  ·rw [if_pos c13] at H
   have c13b0 : (a0_0 == 2) = true := beq_iff_eq.mpr c13
   have c13b1 : (a0_0 != 2) = false := bne_eq_false_iff_eq.mpr c13
   clear c13
   have H' := AM_ H
   clear H
   have hnb14 := NB283_284.out
   have hnc14 := NB284_283.out
   obtain ⟨hcz15_0, hcz15_1, hcz15_2, hcz15_3, hcz15_4, hcz15_5, hfz15_0, hfz15_1, hfz15_2, hfz15_3, hfz15_4, hfz15_5⟩ := bk6 BK283.out
   obtain ⟨hcz16_0, hcz16_1, hcz16_2, hcz16_3, hcz16_4, hcz16_5, hfz16_0, hfz16_1, hfz16_2, hfz16_3, hfz16_4, hfz16_5⟩ := bk6 BK284.out
   go_wp2
   go_meet
   case rel => exact ⟨_, (0), (a0_3), (0), (0), H', ⟨by first | omega | exact Nat.le_refl _⟩, ⟨BG BK283.out NB283_284.out⟩, ⟨BQ BK284.out⟩, ⟨BT HB.out⟩⟩
  rw [if_neg c13] at H
  have c13b0 : (a0_0 == 2) = false := beq_eq_false_iff_ne.mpr c13
  have c13b1 : (a0_0 != 2) = true := bne_iff_ne.mpr c13
  by_cases c17 : a0_0 = 3
  ·rw [if_pos c17] at H
   have c17b0 : (a0_0 == 3) = true := beq_iff_eq.mpr c17
   have c17b1 : (a0_0 != 3) = false := bne_eq_false_iff_eq.mpr c17
   clear c17
   have H' := AM_ H
   clear H
   have hnb18 := NB283_284.out
   have hnc18 := NB284_283.out
   obtain ⟨hcz19_0, hcz19_1, hcz19_2, hcz19_3, hcz19_4, hcz19_5, hfz19_0, hfz19_1, hfz19_2, hfz19_3, hfz19_4, hfz19_5⟩ := bk6 BK283.out
   obtain ⟨hcz20_0, hcz20_1, hcz20_2, hcz20_3, hcz20_4, hcz20_5, hfz20_0, hfz20_1, hfz20_2, hfz20_3, hfz20_4, hfz20_5⟩ := bk6 BK284.out
   go_wp2
   go_meet
   case rel => exact ⟨_, (0), (a0_3), (0), (a0_5), H', ⟨by first | omega | exact Nat.le_refl _⟩, ⟨BG BK283.out NB283_284.out⟩, ⟨BQ BK284.out⟩, ⟨BT HB.out⟩⟩
  rw [if_neg c17] at H
  have c17b0 : (a0_0 == 3) = false := beq_eq_false_iff_ne.mpr c17
  have c17b1 : (a0_0 != 3) = true := bne_iff_ne.mpr c17
  by_cases c21 : a0_0 = 4
  ·rw [if_pos c21] at H
   have c21b0 : (a0_0 == 4) = true := beq_iff_eq.mpr c21
   have c21b1 : (a0_0 != 4) = false := bne_eq_false_iff_eq.mpr c21
   clear c21
   have H' := AM_ H
   clear H
   have hnb22 := NB283_284.out
   have hnc22 := NB284_283.out
   obtain ⟨hcz23_0, hcz23_1, hcz23_2, hcz23_3, hcz23_4, hcz23_5, hfz23_0, hfz23_1, hfz23_2, hfz23_3, hfz23_4, hfz23_5⟩ := bk6 BK283.out
   obtain ⟨hcz24_0, hcz24_1, hcz24_2, hcz24_3, hcz24_4, hcz24_5, hfz24_0, hfz24_1, hfz24_2, hfz24_3, hfz24_4, hfz24_5⟩ := bk6 BK284.out
   go_wp2
   go_meet
   case rel => exact ⟨_, (0), (a0_3), (a0_4), (0), H', ⟨by first | omega | exact Nat.le_refl _⟩, ⟨BG BK283.out NB283_284.out⟩, ⟨BQ BK284.out⟩, ⟨BT HB.out⟩⟩
  rw [if_neg c21] at H
  have c21b0 : (a0_0 == 4) = false := beq_eq_false_iff_ne.mpr c21
  have c21b1 : (a0_0 != 4) = true := bne_iff_ne.mpr c21
  have HC25 := AM_ H
  clear H
  go_upto_if 37 with (fail)
  go_cut [37] (fun v37 wc => ∃ (kq : Nat) (x37_24 : Bool), v37 = .bool x37_24 ∧ Aside0 (spec_IsValidOp.j0 kq a0_0 a0_1 x37_24 a0_2 a0_3 a0_4 a0_5 0 = some r) ∧ Aside0 (kq ≤ k) ∧ Aside0 (wc.heap[gb283]? = some (.cells #[.int .i64 a0_0, .int .i64 a0_1, .int .i64 a0_2, .int .i64 a0_3, .int .i64 a0_4, .int .i64 a0_5] 25 (0, 0))) ∧ Aside0 (wc.heap[gb284]? = some (.cells #[.int .i64 a0_0, .int .i64 a0_1, .int .i64 0, .int .i64 0, .int .i64 0, .int .i64 0] 25 (0, 0))) ∧ Aside0 (Below w.heap.size w wc))
  case first =>
   have H := HC25.out
   clear HC25
   by_cases c26 : a0_0 = 5
   rotate_left
   ·rw [if_neg c26] at H
    have c26b0 : (a0_0 == 5) = false := beq_eq_false_iff_ne.mpr c26
    have c26b1 : (a0_0 != 5) = true := bne_iff_ne.mpr c26
    (first | rw [c26b0] | (simp only [i64_w, i32_w]; rw [c26b0]) | skip)
    have H' := AM_ H
    clear H
    go_wp2
    go_meet
    case rel => exact ⟨_, ((a0_0 == 6)), (by first | rfl | (simp; done) | (simp [*]; done)), H', ⟨by first | omega | exact Nat.le_refl _⟩, ⟨BG BK283.out NB283_284.out⟩, ⟨BQ BK284.out⟩, ⟨BT HB.out⟩⟩
   rw [if_pos c26] at H
   have c26b0 : (a0_0 == 5) = true := beq_iff_eq.mpr c26
   have c26b1 : (a0_0 != 5) = false := bne_eq_false_iff_eq.mpr c26
   clear c26
   (first | rw [c26b0] | (simp only [i64_w, i32_w]; rw [c26b0]) | skip)
   have H' := AM_ H
   clear H
   go_wp2
   go_meet
   case rel => exact ⟨_, ((a0_0 == 5)), (by first | rfl | (simp; done) | (simp [*]; done)), H', ⟨by first | omega | exact Nat.le_refl _⟩, ⟨BG BK283.out NB283_284.out⟩, ⟨BQ BK284.out⟩, ⟨BT HB.out⟩⟩
  case rest =>
   clear HC25
   try clear c1
   try clear c2
   try clear p2
   try clear c6
   try clear c9
   try clear c9b0
   try clear c9b1
   try clear c10
   try clear c13
   try clear c13b0
   try clear c13b1
   try clear c14
   try clear c17
   try clear c17b0
   try clear c17b1
   try clear c18
   try clear c21
   try clear c21b0
   try clear c21b1
   try clear c22
   try clear c26
   try clear c26b0
   try clear c26b1
   try clear hcz11_0
   try clear hcz11_1
   try clear hcz11_2
   try clear hcz11_3
   try clear hcz11_4
   try clear hcz11_5
   try clear hcz12_0
   try clear hcz12_1
   try clear hcz12_2
   try clear hcz12_3
   try clear hcz12_4
   try clear hcz12_5
   try clear hcz15_0
   try clear hcz15_1
   try clear hcz15_2
   try clear hcz15_3
   try clear hcz15_4
   try clear hcz15_5
   try clear hcz16_0
   try clear hcz16_1
   try clear hcz16_2
   try clear hcz16_3
   try clear hcz16_4
   try clear hcz16_5
   try clear hcz19_0
   try clear hcz19_1
   try clear hcz19_2
   try clear hcz19_3
   try clear hcz19_4
   try clear hcz19_5
   try clear hcz20_0
   try clear hcz20_1
   try clear hcz20_2
   try clear hcz20_3
   try clear hcz20_4
   try clear hcz20_5
   try clear hcz23_0
   try clear hcz23_1
   try clear hcz23_2
   try clear hcz23_3
   try clear hcz23_4
   try clear hcz23_5
   try clear hcz24_0
   try clear hcz24_1
   try clear hcz24_2
   try clear hcz24_3
   try clear hcz24_4
   try clear hcz24_5
   try clear hcz4_0
   try clear hcz4_1
   try clear hcz4_2
   try clear hcz4_3
   try clear hcz4_4
   try clear hcz4_5
   try clear hcz7_0
   try clear hcz7_1
   try clear hcz7_2
   try clear hcz7_3
   try clear hcz7_4
   try clear hcz7_5
   try clear hcz8_0
   try clear hcz8_1
   try clear hcz8_2
   try clear hcz8_3
   try clear hcz8_4
   try clear hcz8_5
   try clear hfz11_0
   try clear hfz11_1
   try clear hfz11_2
   try clear hfz11_3
   try clear hfz11_4
   try clear hfz11_5
   try clear hfz12_0
   try clear hfz12_1
   try clear hfz12_2
   try clear hfz12_3
   try clear hfz12_4
   try clear hfz12_5
   try clear hfz15_0
   try clear hfz15_1
   try clear hfz15_2
   try clear hfz15_3
   try clear hfz15_4
   try clear hfz15_5
   try clear hfz16_0
   try clear hfz16_1
   try clear hfz16_2
   try clear hfz16_3
   try clear hfz16_4
   try clear hfz16_5
   try clear hfz19_0
   try clear hfz19_1
   try clear hfz19_2
   try clear hfz19_3
   try clear hfz19_4
   try clear hfz19_5
   try clear hfz20_0
   try clear hfz20_1
   try clear hfz20_2
   try clear hfz20_3
   try clear hfz20_4
   try clear hfz20_5
   try clear hfz23_0
   try clear hfz23_1
   try clear hfz23_2
   try clear hfz23_3
   try clear hfz23_4
   try clear hfz23_5
   try clear hfz24_0
   try clear hfz24_1
   try clear hfz24_2
   try clear hfz24_3
   try clear hfz24_4
   try clear hfz24_5
   try clear hfz4_0
   try clear hfz4_1
   try clear hfz4_2
   try clear hfz4_3
   try clear hfz4_4
   try clear hfz4_5
   try clear hfz7_0
   try clear hfz7_1
   try clear hfz7_2
   try clear hfz7_3
   try clear hfz7_4
   try clear hfz7_5
   try clear hfz8_0
   try clear hfz8_1
   try clear hfz8_2
   try clear hfz8_3
   try clear hfz8_4
   try clear hfz8_5
   obtain ⟨kq, x37_24, rfl, HA, HJ24, BK283, BK284, HB⟩ := hcut
   cases kq with
   | zero => exact absurd HA.out (by simp [spec_IsValidOp.j0])
   | succ kj24 =>
    have H := HA.out
    clear HA
    simp only [spec_IsValidOp.j0] at H
    by_cases c27 : x37_24 = true
    rotate_left
    ·replace c27 := Bool.eq_false_iff.mpr c27
     subst c27
     have H1 : (some false) = some r := by rw [if_neg (show ¬ (false = true) by decide)] at H; exact H
     clear H
     have H := H1
     clear H1
     obtain rfl := Option.some.inj H
     go_wp2
     go_ret
     exact QT (BT HB.out)
    subst c27
    have H1 : (spec_IsValidOp.j1 kj24 a0_0 a0_1 a0_2 a0_3 a0_4 a0_5 0 0 0 0) = some r := by rw [if_pos rfl] at H; exact H
    clear H
    have H := H1
    clear H1
    have H' := AM_ H
    clear H
    go_wp2
    go_meet
    case rel => exact ⟨_, (0), (0), (0), (0), H', ⟨by have := HJ24.out; first | omega | exact Nat.le_refl _⟩, ⟨BH BK283.out⟩, ⟨BH BK284.out⟩, ⟨BT HB.out⟩⟩
 case rest =>
  clear HC2
  try clear c1
  try clear c2
  try clear p2
  try clear c6
  try clear c9
  try clear c9b0
  try clear c9b1
  try clear c10
  try clear c13
  try clear c13b0
  try clear c13b1
  try clear c14
  try clear c17
  try clear c17b0
  try clear c17b1
  try clear c18
  try clear c21
  try clear c21b0
  try clear c21b1
  try clear c22
  try clear c26
  try clear c26b0
  try clear c26b1
  try clear c27
  try clear hcz11_0
  try clear hcz11_1
  try clear hcz11_2
  try clear hcz11_3
  try clear hcz11_4
  try clear hcz11_5
  try clear hcz12_0
  try clear hcz12_1
  try clear hcz12_2
  try clear hcz12_3
  try clear hcz12_4
  try clear hcz12_5
  try clear hcz15_0
  try clear hcz15_1
  try clear hcz15_2
  try clear hcz15_3
  try clear hcz15_4
  try clear hcz15_5
  try clear hcz16_0
  try clear hcz16_1
  try clear hcz16_2
  try clear hcz16_3
  try clear hcz16_4
  try clear hcz16_5
  try clear hcz19_0
  try clear hcz19_1
  try clear hcz19_2
  try clear hcz19_3
  try clear hcz19_4
  try clear hcz19_5
  try clear hcz20_0
  try clear hcz20_1
  try clear hcz20_2
  try clear hcz20_3
  try clear hcz20_4
  try clear hcz20_5
  try clear hcz23_0
  try clear hcz23_1
  try clear hcz23_2
  try clear hcz23_3
  try clear hcz23_4
  try clear hcz23_5
  try clear hcz24_0
  try clear hcz24_1
  try clear hcz24_2
  try clear hcz24_3
  try clear hcz24_4
  try clear hcz24_5
  try clear hcz4_0
  try clear hcz4_1
  try clear hcz4_2
  try clear hcz4_3
  try clear hcz4_4
  try clear hcz4_5
  try clear hcz7_0
  try clear hcz7_1
  try clear hcz7_2
  try clear hcz7_3
  try clear hcz7_4
  try clear hcz7_5
  try clear hcz8_0
  try clear hcz8_1
  try clear hcz8_2
  try clear hcz8_3
  try clear hcz8_4
  try clear hcz8_5
  try clear hfz11_0
  try clear hfz11_1
  try clear hfz11_2
  try clear hfz11_3
  try clear hfz11_4
  try clear hfz11_5
  try clear hfz12_0
  try clear hfz12_1
  try clear hfz12_2
  try clear hfz12_3
  try clear hfz12_4
  try clear hfz12_5
  try clear hfz15_0
  try clear hfz15_1
  try clear hfz15_2
  try clear hfz15_3
  try clear hfz15_4
  try clear hfz15_5
  try clear hfz16_0
  try clear hfz16_1
  try clear hfz16_2
  try clear hfz16_3
  try clear hfz16_4
  try clear hfz16_5
  try clear hfz19_0
  try clear hfz19_1
  try clear hfz19_2
  try clear hfz19_3
  try clear hfz19_4
  try clear hfz19_5
  try clear hfz20_0
  try clear hfz20_1
  try clear hfz20_2
  try clear hfz20_3
  try clear hfz20_4
  try clear hfz20_5
  try clear hfz23_0
  try clear hfz23_1
  try clear hfz23_2
  try clear hfz23_3
  try clear hfz23_4
  try clear hfz23_5
  try clear hfz24_0
  try clear hfz24_1
  try clear hfz24_2
  try clear hfz24_3
  try clear hfz24_4
  try clear hfz24_5
  try clear hfz4_0
  try clear hfz4_1
  try clear hfz4_2
  try clear hfz4_3
  try clear hfz4_4
  try clear hfz4_5
  try clear hfz7_0
  try clear hfz7_1
  try clear hfz7_2
  try clear hfz7_3
  try clear hfz7_4
  try clear hfz7_5
  try clear hfz8_0
  try clear hfz8_1
  try clear hfz8_2
  try clear hfz8_3
  try clear hfz8_4
  try clear hfz8_5
  try clear p2
  obtain ⟨kq, x285002_1, x285003_1, x285004_1, x285005_1, HA, HJ1, BK283, BK284, HB⟩ := hcut
  cases kq with
  | zero => exact absurd HA.out (by simp [spec_IsValidOp.j1])
  | succ kj1 =>
   have H := HA.out
   clear HA
   simp only [spec_IsValidOp.j1] at H
   have HC28 := AM_ H
   clear H
   go_upto_region 16 with (fail)
   go_cut [60] (fun v60 wc => ∃ (kq : Nat) (x60_27 : Bool), v60 = .bool x60_27 ∧ Aside0 (spec_IsValidOp.j2 kq a0_0 x60_27 a0_2 a0_3 a0_4 a0_5 = some r) ∧ Aside0 (kq ≤ kj1) ∧ Aside0 (wc.heap[gb283]? = some (.cells #[.int .i64 a0_0, .int .i64 a0_1, .int .i64 a0_2, .int .i64 a0_3, .int .i64 a0_4, .int .i64 a0_5] 25 (0, 0))) ∧ Aside0 (wc.heap[gb284]? = some (.cells #[.int .i64 a0_0, .int .i64 a0_1, .int .i64 x285002_1, .int .i64 x285003_1, .int .i64 x285004_1, .int .i64 x285005_1] 25 (0, 0))) ∧ Aside0 (Below w.heap.size w wc))
   case first =>
    have H := HC28.out
    clear HC28
    by_cases c29 : (!(x285002_1 == a0_2) || (!(x285003_1 == a0_3) || (!(x285004_1 == a0_4) || (!(x285005_1 == a0_5))))) = true
    ·rw [if_pos c29] at H
     have c29b0 : (!(x285002_1 == a0_2) || (!(x285003_1 == a0_3) || (!(x285004_1 == a0_4) || (!(x285005_1 == a0_5))))) = true := c29
     clear c29
     (first | rw [c29b0] | (simp only [i64_w, i32_w]; rw [c29b0]) | skip)
     have H' := AM_ H
     clear H
     have hnb30 := NB284_283.out
     have hnc30 := NB283_284.out
     obtain ⟨hcz31_0, hcz31_1, hcz31_2, hcz31_3, hcz31_4, hcz31_5, hfz31_0, hfz31_1, hfz31_2, hfz31_3, hfz31_4, hfz31_5⟩ := bk6 BK284.out
     obtain ⟨hcz32_0, hcz32_1, hcz32_2, hcz32_3, hcz32_4, hcz32_5, hfz32_0, hfz32_1, hfz32_2, hfz32_3, hfz32_4, hfz32_5⟩ := bk6 BK283.out
     go_wp2
     go_meet
     case rel => exact ⟨_, (true), (by first | rfl | (simp; done) | (simp [*]; done)), H', ⟨by have := HJ1.out; first | omega | exact Nat.le_refl _⟩, ⟨BH BK283.out⟩, ⟨BH BK284.out⟩, ⟨BT HB.out⟩⟩
    rw [if_neg c29] at H
    have c29b0 : (!(x285002_1 == a0_2) || (!(x285003_1 == a0_3) || (!(x285004_1 == a0_4) || (!(x285005_1 == a0_5))))) = false := by simpa using c29
    clear c29
    (first | rw [c29b0] | (simp only [i64_w, i32_w]; rw [c29b0]) | skip)
    replace H := Option.bind_eq_some_iff.mp H
    obtain ⟨t285, A330, H⟩ := H
    replace H : (if t285 = true then ((spec_l1In.f a0_3 0 5).bind fun t286 => (if t286 = true then ((spec_l1In.f a0_5 (-1) 99).bind fun t287 => (spec_IsValidOp.j2 kj1 a0_0 (!t287) a0_2 a0_3 a0_4 a0_5)) else (spec_IsValidOp.j2 kj1 a0_0 true a0_2 a0_3 a0_4 a0_5))) else (spec_IsValidOp.j2 kj1 a0_0 true a0_2 a0_3 a0_4 a0_5)) = some r := H
    have A33 := AM_ A330
    clear A330
    by_cases c34 : t285 = true
    rotate_left
    ·replace c34 := Bool.eq_false_iff.mpr c34
     subst c34
     have H1 : (spec_IsValidOp.j2 kj1 a0_0 true a0_2 a0_3 a0_4 a0_5) = some r := by rw [if_neg (show ¬ (false = true) by decide)] at H; exact H
     clear H
     have H := H1
     clear H1
     have H' := AM_ H
     clear H
     have hnb44 := NB284_283.out
     have hnc44 := NB283_284.out
     obtain ⟨hcz45_0, hcz45_1, hcz45_2, hcz45_3, hcz45_4, hcz45_5, hfz45_0, hfz45_1, hfz45_2, hfz45_3, hfz45_4, hfz45_5⟩ := bk6 BK284.out
     obtain ⟨hcz46_0, hcz46_1, hcz46_2, hcz46_3, hcz46_4, hcz46_5, hfz46_0, hfz46_1, hfz46_2, hfz46_3, hfz46_4, hfz46_5⟩ := bk6 BK283.out
     go_wp2_with (first | (go_at_call 28; (with_reducible refine (spec_l1In.calls a0_1 1 9 false _ A33.out).mono ?_); rintro e w' ⟨rfl, ⟨nd, rfl⟩⟩))
     go_meet
     case rel => exact ⟨_, (true), (by first | rfl | (simp; done) | (simp [*]; done)), H', ⟨by have := HJ1.out; first | omega | exact Nat.le_refl _⟩, ⟨BH BK283.out⟩, ⟨BH BK284.out⟩, ⟨BT HB.out⟩⟩
    subst c34
    have H1 : ((spec_l1In.f a0_3 0 5).bind fun t286 => (if t286 = true then ((spec_l1In.f a0_5 (-1) 99).bind fun t287 => (spec_IsValidOp.j2 kj1 a0_0 (!t287) a0_2 a0_3 a0_4 a0_5)) else (spec_IsValidOp.j2 kj1 a0_0 true a0_2 a0_3 a0_4 a0_5))) = some r := by rw [if_pos rfl] at H; exact H
    clear H
    have H := H1
    clear H1
    replace H := Option.bind_eq_some_iff.mp H
    obtain ⟨t286, A350, H⟩ := H
    replace H : (if t286 = true then ((spec_l1In.f a0_5 (-1) 99).bind fun t287 => (spec_IsValidOp.j2 kj1 a0_0 (!t287) a0_2 a0_3 a0_4 a0_5)) else (spec_IsValidOp.j2 kj1 a0_0 true a0_2 a0_3 a0_4 a0_5)) = some r := H
    have A35 := AM_ A350
    clear A350
    by_cases c36 : t286 = true
    rotate_left
    ·replace c36 := Bool.eq_false_iff.mpr c36
     subst c36
     have H1 : (spec_IsValidOp.j2 kj1 a0_0 true a0_2 a0_3 a0_4 a0_5) = some r := by rw [if_neg (show ¬ (false = true) by decide)] at H; exact H
     clear H
     have H := H1
     clear H1
     have H' := AM_ H
     clear H
     have hnb41 := NB284_283.out
     have hnc41 := NB283_284.out
     obtain ⟨hcz42_0, hcz42_1, hcz42_2, hcz42_3, hcz42_4, hcz42_5, hfz42_0, hfz42_1, hfz42_2, hfz42_3, hfz42_4, hfz42_5⟩ := bk6 BK284.out
     obtain ⟨hcz43_0, hcz43_1, hcz43_2, hcz43_3, hcz43_4, hcz43_5, hfz43_0, hfz43_1, hfz43_2, hfz43_3, hfz43_4, hfz43_5⟩ := bk6 BK283.out
     go_wp2_with (first | (go_at_call 28; (with_reducible refine (spec_l1In.calls a0_1 1 9 true _ A33.out).mono ?_); rintro e w' ⟨rfl, ⟨nd, rfl⟩⟩) | (go_at_call 28; (with_reducible refine (spec_l1In.calls a0_3 0 5 false _ A35.out).mono ?_); rintro e w' ⟨rfl, ⟨nd, rfl⟩⟩))
     go_meet
     case rel => exact ⟨_, (true), (by first | rfl | (simp; done) | (simp [*]; done)), H', ⟨by have := HJ1.out; first | omega | exact Nat.le_refl _⟩, ⟨BH BK283.out⟩, ⟨BH BK284.out⟩, ⟨BT HB.out⟩⟩
    subst c36
    have H1 : ((spec_l1In.f a0_5 (-1) 99).bind fun t287 => (spec_IsValidOp.j2 kj1 a0_0 (!t287) a0_2 a0_3 a0_4 a0_5)) = some r := by rw [if_pos rfl] at H; exact H
    clear H
    have H := H1
    clear H1
    replace H := Option.bind_eq_some_iff.mp H
    obtain ⟨t287, A370, H⟩ := H
    replace H : (spec_IsValidOp.j2 kj1 a0_0 (!t287) a0_2 a0_3 a0_4 a0_5) = some r := H
    have A37 := AM_ A370
    clear A370
    have H' := AM_ H
    clear H
    have hnb38 := NB284_283.out
    have hnc38 := NB283_284.out
    obtain ⟨hcz39_0, hcz39_1, hcz39_2, hcz39_3, hcz39_4, hcz39_5, hfz39_0, hfz39_1, hfz39_2, hfz39_3, hfz39_4, hfz39_5⟩ := bk6 BK284.out
    obtain ⟨hcz40_0, hcz40_1, hcz40_2, hcz40_3, hcz40_4, hcz40_5, hfz40_0, hfz40_1, hfz40_2, hfz40_3, hfz40_4, hfz40_5⟩ := bk6 BK283.out
    go_wp2_with (first | (go_at_call 28; (with_reducible refine (spec_l1In.calls a0_1 1 9 true _ A33.out).mono ?_); rintro e w' ⟨rfl, ⟨nd, rfl⟩⟩) | (go_at_call 28; (with_reducible refine (spec_l1In.calls a0_3 0 5 true _ A35.out).mono ?_); rintro e w' ⟨rfl, ⟨nd, rfl⟩⟩) | (go_at_call 28; (with_reducible refine (spec_l1In.calls a0_5 (-1) 99 t287 _ A37.out).mono ?_); rintro e w' ⟨rfl, ⟨nd, rfl⟩⟩))
    go_meet
    case rel => exact ⟨_, (!t287), (by first | rfl | (simp; done) | (simp [*]; done)), H', ⟨by have := HJ1.out; first | omega | exact Nat.le_refl _⟩, ⟨BH BK283.out⟩, ⟨BH BK284.out⟩, ⟨BT HB.out⟩⟩
   case rest =>
    clear HC28
    try clear c1
    try clear c2
    try clear p2
    try clear c3
    try clear c4
    try clear c6
    try clear c9
    try clear c9b0
    try clear c9b1
    try clear c10
    try clear c13
    try clear c13b0
    try clear c13b1
    try clear c14
    try clear c17
    try clear c17b0
    try clear c17b1
    try clear c18
    try clear c21
    try clear c21b0
    try clear c21b1
    try clear c22
    try clear c26
    try clear c26b0
    try clear c26b1
    try clear c27
    try clear c29
    try clear c29b0
    try clear c30
    try clear c34
    try clear c36
    try clear c38
    try clear c41
    try clear c44
    try clear hcz11_0
    try clear hcz11_1
    try clear hcz11_2
    try clear hcz11_3
    try clear hcz11_4
    try clear hcz11_5
    try clear hcz12_0
    try clear hcz12_1
    try clear hcz12_2
    try clear hcz12_3
    try clear hcz12_4
    try clear hcz12_5
    try clear hcz15_0
    try clear hcz15_1
    try clear hcz15_2
    try clear hcz15_3
    try clear hcz15_4
    try clear hcz15_5
    try clear hcz16_0
    try clear hcz16_1
    try clear hcz16_2
    try clear hcz16_3
    try clear hcz16_4
    try clear hcz16_5
    try clear hcz19_0
    try clear hcz19_1
    try clear hcz19_2
    try clear hcz19_3
    try clear hcz19_4
    try clear hcz19_5
    try clear hcz20_0
    try clear hcz20_1
    try clear hcz20_2
    try clear hcz20_3
    try clear hcz20_4
    try clear hcz20_5
    try clear hcz23_0
    try clear hcz23_1
    try clear hcz23_2
    try clear hcz23_3
    try clear hcz23_4
    try clear hcz23_5
    try clear hcz24_0
    try clear hcz24_1
    try clear hcz24_2
    try clear hcz24_3
    try clear hcz24_4
    try clear hcz24_5
    try clear hcz31_0
    try clear hcz31_1
    try clear hcz31_2
    try clear hcz31_3
    try clear hcz31_4
    try clear hcz31_5
    try clear hcz32_0
    try clear hcz32_1
    try clear hcz32_2
    try clear hcz32_3
    try clear hcz32_4
    try clear hcz32_5
    try clear hcz39_0
    try clear hcz39_1
    try clear hcz39_2
    try clear hcz39_3
    try clear hcz39_4
    try clear hcz39_5
    try clear hcz40_0
    try clear hcz40_1
    try clear hcz40_2
    try clear hcz40_3
    try clear hcz40_4
    try clear hcz40_5
    try clear hcz42_0
    try clear hcz42_1
    try clear hcz42_2
    try clear hcz42_3
    try clear hcz42_4
    try clear hcz42_5
    try clear hcz43_0
    try clear hcz43_1
    try clear hcz43_2
    try clear hcz43_3
    try clear hcz43_4
    try clear hcz43_5
    try clear hcz45_0
    try clear hcz45_1
    try clear hcz45_2
    try clear hcz45_3
    try clear hcz45_4
    try clear hcz45_5
    try clear hcz46_0
    try clear hcz46_1
    try clear hcz46_2
    try clear hcz46_3
    try clear hcz46_4
    try clear hcz46_5
    try clear hcz4_0
    try clear hcz4_1
    try clear hcz4_2
    try clear hcz4_3
    try clear hcz4_4
    try clear hcz4_5
    try clear hcz7_0
    try clear hcz7_1
    try clear hcz7_2
    try clear hcz7_3
    try clear hcz7_4
    try clear hcz7_5
    try clear hcz8_0
    try clear hcz8_1
    try clear hcz8_2
    try clear hcz8_3
    try clear hcz8_4
    try clear hcz8_5
    try clear hfz11_0
    try clear hfz11_1
    try clear hfz11_2
    try clear hfz11_3
    try clear hfz11_4
    try clear hfz11_5
    try clear hfz12_0
    try clear hfz12_1
    try clear hfz12_2
    try clear hfz12_3
    try clear hfz12_4
    try clear hfz12_5
    try clear hfz15_0
    try clear hfz15_1
    try clear hfz15_2
    try clear hfz15_3
    try clear hfz15_4
    try clear hfz15_5
    try clear hfz16_0
    try clear hfz16_1
    try clear hfz16_2
    try clear hfz16_3
    try clear hfz16_4
    try clear hfz16_5
    try clear hfz19_0
    try clear hfz19_1
    try clear hfz19_2
    try clear hfz19_3
    try clear hfz19_4
    try clear hfz19_5
    try clear hfz20_0
    try clear hfz20_1
    try clear hfz20_2
    try clear hfz20_3
    try clear hfz20_4
    try clear hfz20_5
    try clear hfz23_0
    try clear hfz23_1
    try clear hfz23_2
    try clear hfz23_3
    try clear hfz23_4
    try clear hfz23_5
    try clear hfz24_0
    try clear hfz24_1
    try clear hfz24_2
    try clear hfz24_3
    try clear hfz24_4
    try clear hfz24_5
    try clear hfz31_0
    try clear hfz31_1
    try clear hfz31_2
    try clear hfz31_3
    try clear hfz31_4
    try clear hfz31_5
    try clear hfz32_0
    try clear hfz32_1
    try clear hfz32_2
    try clear hfz32_3
    try clear hfz32_4
    try clear hfz32_5
    try clear hfz39_0
    try clear hfz39_1
    try clear hfz39_2
    try clear hfz39_3
    try clear hfz39_4
    try clear hfz39_5
    try clear hfz40_0
    try clear hfz40_1
    try clear hfz40_2
    try clear hfz40_3
    try clear hfz40_4
    try clear hfz40_5
    try clear hfz42_0
    try clear hfz42_1
    try clear hfz42_2
    try clear hfz42_3
    try clear hfz42_4
    try clear hfz42_5
    try clear hfz43_0
    try clear hfz43_1
    try clear hfz43_2
    try clear hfz43_3
    try clear hfz43_4
    try clear hfz43_5
    try clear hfz45_0
    try clear hfz45_1
    try clear hfz45_2
    try clear hfz45_3
    try clear hfz45_4
    try clear hfz45_5
    try clear hfz46_0
    try clear hfz46_1
    try clear hfz46_2
    try clear hfz46_3
    try clear hfz46_4
    try clear hfz46_5
    try clear hfz4_0
    try clear hfz4_1
    try clear hfz4_2
    try clear hfz4_3
    try clear hfz4_4
    try clear hfz4_5
    try clear hfz7_0
    try clear hfz7_1
    try clear hfz7_2
    try clear hfz7_3
    try clear hfz7_4
    try clear hfz7_5
    try clear hfz8_0
    try clear hfz8_1
    try clear hfz8_2
    try clear hfz8_3
    try clear hfz8_4
    try clear hfz8_5
    try clear p2
    obtain ⟨kq, x60_27, rfl, HA, HJ27, BK283, BK284, HB⟩ := hcut
    cases kq with
    | zero => exact absurd HA.out (by simp [spec_IsValidOp.j2])
    | succ kj27 =>
     have H := HA.out
     clear HA
     simp only [spec_IsValidOp.j2] at H
     by_cases c47 : x60_27 = true
     ·subst c47
      have H1 : (some false) = some r := by rw [if_pos rfl] at H; exact H
      clear H
      have H := H1
      clear H1
      obtain rfl := Option.some.inj H
      go_wp2
      go_ret
      exact QT (BT HB.out)
     replace c47 := Bool.eq_false_iff.mpr c47
     subst c47
     have H1 : (if a0_0 = 1 then ((spec_l1In.f a0_2 1 4).bind fun t288 => (if t288 = true then (if a0_0 = 4 then ((spec_l1In.f a0_4 a0_3 5).bind fun t289 => (some t289)) else (some true)) else (some false))) else (if a0_0 = 4 then ((spec_l1In.f a0_4 a0_3 5).bind fun t290 => (some t290)) else (some true))) = some r := by rw [if_neg (show ¬ (false = true) by decide)] at H; exact H
     clear H
     have H := H1
     clear H1
     by_cases c48 : a0_0 = 1
     rotate_left
     ·rw [if_neg c48] at H
      have c48b0 : (a0_0 == 1) = false := beq_eq_false_iff_ne.mpr c48
      have c48b1 : (a0_0 != 1) = true := bne_iff_ne.mpr c48
      by_cases c59 : a0_0 = 4
      rotate_left
      ·rw [if_neg c59] at H
       have c59b0 : (a0_0 == 4) = false := beq_eq_false_iff_ne.mpr c59
       have c59b1 : (a0_0 != 4) = true := bne_iff_ne.mpr c59
       obtain rfl := Option.some.inj H
       have hnb63 := NB283_284.out
       have hnc63 := NB284_283.out
       obtain ⟨hcz64_0, hcz64_1, hcz64_2, hcz64_3, hcz64_4, hcz64_5, hfz64_0, hfz64_1, hfz64_2, hfz64_3, hfz64_4, hfz64_5⟩ := bk6 BK283.out
       go_wp2
       go_ret
       exact QT (BT HB.out)
      rw [if_pos c59] at H
      have c59b0 : (a0_0 == 4) = true := beq_iff_eq.mpr c59
      have c59b1 : (a0_0 != 4) = false := bne_eq_false_iff_eq.mpr c59
      clear c59
      replace H := Option.bind_eq_some_iff.mp H
      obtain ⟨t290, A600, H⟩ := H
      replace H : (some t290) = some r := H
      have A60 := AM_ A600
      clear A600
      obtain rfl := Option.some.inj H
      have hnb61 := NB283_284.out
      have hnc61 := NB284_283.out
      obtain ⟨hcz62_0, hcz62_1, hcz62_2, hcz62_3, hcz62_4, hcz62_5, hfz62_0, hfz62_1, hfz62_2, hfz62_3, hfz62_4, hfz62_5⟩ := bk6 BK283.out
      go_wp2_with (first | (go_at_call 28; (with_reducible refine (spec_l1In.calls a0_4 a0_3 5 t290 _ A60.out).mono ?_); rintro e w' ⟨rfl, ⟨nd, rfl⟩⟩))
      go_ret
      exact QT (BT HB.out)
     rw [if_pos c48] at H
     have c48b0 : (a0_0 == 1) = true := beq_iff_eq.mpr c48
     have c48b1 : (a0_0 != 1) = false := bne_eq_false_iff_eq.mpr c48
     clear c48
     replace H := Option.bind_eq_some_iff.mp H
     obtain ⟨t288, A490, H⟩ := H
     replace H : (if t288 = true then (if a0_0 = 4 then ((spec_l1In.f a0_4 a0_3 5).bind fun t289 => (some t289)) else (some true)) else (some false)) = some r := H
     have A49 := AM_ A490
     clear A490
     by_cases c50 : t288 = true
     rotate_left
     ·replace c50 := Bool.eq_false_iff.mpr c50
      subst c50
      have H1 : (some false) = some r := by rw [if_neg (show ¬ (false = true) by decide)] at H; exact H
      clear H
      have H := H1
      clear H1
      obtain rfl := Option.some.inj H
      have hnb57 := NB283_284.out
      have hnc57 := NB284_283.out
      obtain ⟨hcz58_0, hcz58_1, hcz58_2, hcz58_3, hcz58_4, hcz58_5, hfz58_0, hfz58_1, hfz58_2, hfz58_3, hfz58_4, hfz58_5⟩ := bk6 BK283.out
      go_wp2_with (first | (go_at_call 28; (with_reducible refine (spec_l1In.calls a0_2 1 4 false _ A49.out).mono ?_); rintro e w' ⟨rfl, ⟨nd, rfl⟩⟩))
      go_ret
      exact QT (BT HB.out)
     subst c50
     have H1 : (if a0_0 = 4 then ((spec_l1In.f a0_4 a0_3 5).bind fun t289 => (some t289)) else (some true)) = some r := by rw [if_pos rfl] at H; exact H
     clear H
     have H := H1
     clear H1
     by_cases c51 : a0_0 = 4
     rotate_left
     ·rw [if_neg c51] at H
      have c51b0 : (a0_0 == 4) = false := beq_eq_false_iff_ne.mpr c51
      have c51b1 : (a0_0 != 4) = true := bne_iff_ne.mpr c51
      obtain rfl := Option.some.inj H
      have hnb55 := NB283_284.out
      have hnc55 := NB284_283.out
      obtain ⟨hcz56_0, hcz56_1, hcz56_2, hcz56_3, hcz56_4, hcz56_5, hfz56_0, hfz56_1, hfz56_2, hfz56_3, hfz56_4, hfz56_5⟩ := bk6 BK283.out
      go_wp2_with (first | (go_at_call 28; (with_reducible refine (spec_l1In.calls a0_2 1 4 true _ A49.out).mono ?_); rintro e w' ⟨rfl, ⟨nd, rfl⟩⟩))
      go_ret
      exact QT (BT HB.out)
     rw [if_pos c51] at H
     have c51b0 : (a0_0 == 4) = true := beq_iff_eq.mpr c51
     have c51b1 : (a0_0 != 4) = false := bne_eq_false_iff_eq.mpr c51
     clear c51
     replace H := Option.bind_eq_some_iff.mp H
     obtain ⟨t289, A520, H⟩ := H
     replace H : (some t289) = some r := H
     have A52 := AM_ A520
     clear A520
     obtain rfl := Option.some.inj H
     have hnb53 := NB283_284.out
     have hnc53 := NB284_283.out
     obtain ⟨hcz54_0, hcz54_1, hcz54_2, hcz54_3, hcz54_4, hcz54_5, hfz54_0, hfz54_1, hfz54_2, hfz54_3, hfz54_4, hfz54_5⟩ := bk6 BK283.out
     go_wp2_with (first | (go_at_call 28; (with_reducible refine (spec_l1In.calls a0_2 1 4 true _ A49.out).mono ?_); rintro e w' ⟨rfl, ⟨nd, rfl⟩⟩) | (go_at_call 28; (with_reducible refine (spec_l1In.calls a0_4 a0_3 5 t289 _ A52.out).mono ?_); rintro e w' ⟨rfl, ⟨nd, rfl⟩⟩))
     go_ret
     exact QT (BT HB.out)

end Go.Proofs.YtdfbmaiboadodaaDoor.PFnOps
