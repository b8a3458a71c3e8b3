-- Printed by wip/myprint.py.
import Derived.Test.YtdgknikgfjhohaaPFnSchemesx6
import Derived.Test.YtdgknikgfjhohaaPFnSchemesx7
import Derived.Test.YtdgknikgfjhohaaPFnSchemesx4
namespace Go.Proofs.Ytdgknikgfjhohaa.PFnSchemes
open Go.RowKit Go.Proofs.YtdgknikgfjhohaaW.PrintWords Go.Proofs.YtdgknikgfjhohaaW.PrintLast Go.Proofs.YtdgknikgfjhohaaW.PrintMore
attribute [local go_sem] max2_int min2_int max_two min_two max_three min_three max_four min_four
set_option maxHeartbeats 8000000
set_option maxRecDepth 100000
set_option linter.unusedVariables false
set_option linter.unusedSimpArgs false

/-! ### spec_l5On: function 89 -/
mutual
def spec_l5On.l0 : Nat → Int → List Int → Int → Int → List (List (S52)) → Int → Int → Int → Int → Int → Int → Int → List (S116) → Option (Int × Int × Int × Int × Int × Int × Int × (List (S116)) × (List (S103)) × Int × Int)
 | 0, _, _, _, _, _, _, _, _, _, _, _, _, _ => none
 | k + 1, x6, aj, ak, al, aa, ab, ac, ad, ae, af, ag, ah, ai => if x6 > 0 then ((spec_l1Below.f aj ak al 6).bind fun bt360 => (if bt360.1 < (aa.length : Int) then (if 0 ≤ bt360.1 then (spec_l5On.j1 k x6 bt360.1 (decide (((rd_L3 aa bt360.1).length : Int) > 0)) aj bt360.2.1 bt360.2.2 aa ab ac ad ae af ag ah ai) else (none)) else (spec_l5On.j1 k x6 bt360.1 false aj bt360.2.1 bt360.2.2 aa ab ac ad ae af ag ah ai))) else ((spec_l1Below.f aj ak al 3).bind fun bt374 => (spec_l5On.l1 k bt374.1 aj bt374.2.1 bt374.2.2 ab ac ad ae af ag ah ai ([] : List (S103))))
def spec_l5On.j1 : Nat → Int → Int → Bool → List Int → Int → Int → List (List (S52)) → Int → Int → Int → Int → Int → Int → Int → List (S116) → Option (Int × Int × Int × Int × Int × Int × Int × (List (S116)) × (List (S103)) × Int × Int)
 | 0, _, _, _, _, _, _, _, _, _, _, _, _, _, _, _ => none
 | k + 1, x6, x7, ap, aj, ak, al, aa, ab, ac, ad, ae, af, ag, ah, ai => if ap = true then (if 0 ≤ x7 then (if x7 < (aa.length : Int) then ((spec_l1Below.f aj ak al ((rd_L3 aa x7).length : Int)).bind fun bt366 => (if 0 ≤ bt366.1 then (if bt366.1 < ((rd_L3 aa x7).length : Int) then ((spec_l5PutRead.f k ai x7 ((rd_T52 (rd_L3 aa x7) bt366.1).f2)).bind fun an => (spec_l5On.l0 k (wrap64 (x6 - 1)) aj bt366.2.1 bt366.2.2 aa ab ac ad ae (mx af ((rd_T52 (rd_L3 aa x7) bt366.1).f2)) ag ah an)) else (none)) else (none))) else (none)) else (none)) else (spec_l5On.l0 k (wrap64 (x6 - 1)) aj ak al aa ab ac ad ae af ag ah ai)
def spec_l5On.l1 : Nat → Int → List Int → Int → Int → Int → Int → Int → Int → Int → Int → Int → List (S116) → List (S103) → Option (Int × Int × Int × Int × Int × Int × Int × (List (S116)) × (List (S103)) × Int × Int)
 | 0, _, _, _, _, _, _, _, _, _, _, _, _, _ => none
 | k + 1, x9, aj, ak, al, ab, ac, ad, ae, af, ag, ah, ai, am => if x9 > 0 then ((spec_l1Below.f aj ak al 6).bind fun bt377 => ((spec_l1PickInt.f aj bt377.2.1 bt377.2.2 (([(-1), 0, 7, 50, 99] : List Int))).bind fun bt383 => ((spec_l5PutWrite.f k am bt377.1 bt383.1).bind fun ao => (spec_l5On.l1 k (wrap64 (x9 - 1)) aj bt383.2.1 bt383.2.2 ab ac ad ae af ag ah ai ao)))) else (some (ab, ac, ad, ae, af, ag, ah, ai, am, ak, al))
end
def spec_l5On.f (k : Nat) (s0_0 : List Int) (s0_1 : Int) (s0_2 : Int) (aa : List (List (S52))) : Option (Int × Int × Int × Int × Int × Int × Int × (List (S116)) × (List (S103)) × Int × Int) := (spec_l1Below.f s0_0 s0_1 s0_2 6).bind fun bt347 => ((spec_l1Below.f s0_0 bt347.2.1 bt347.2.2 4).bind fun bt350 => ((spec_l1Below.f s0_0 bt350.2.1 bt350.2.2 8).bind fun bt353 => ((spec_l1Below.f s0_0 bt353.2.1 bt353.2.2 4).bind fun bt357 => (spec_l5On.l0 k bt357.1 s0_0 bt357.2.1 bt357.2.2 aa (wrap64 (1 + bt347.1)) (wrap64 (1 + bt350.1)) 1 bt353.1 0 1000 0 ([] : List (S116))))))
theorem spec_l5On.mono_l : ∀ k, (∀ y0 y1 y2 y3 y4 y5 y6 y7 y8 y9 aa ab ac, LeO (spec_l5On.l0 k y0 y1 y2 y3 y4 y5 y6 y7 y8 y9 aa ab ac) (spec_l5On.l0 (k + 1) y0 y1 y2 y3 y4 y5 y6 y7 y8 y9 aa ab ac)) ∧ (∀ y0 y1 y2 y3 y4 y5 y6 y7 y8 y9 aa ab ac ad ae, LeO (spec_l5On.j1 k y0 y1 y2 y3 y4 y5 y6 y7 y8 y9 aa ab ac ad ae) (spec_l5On.j1 (k + 1) y0 y1 y2 y3 y4 y5 y6 y7 y8 y9 aa ab ac ad ae)) ∧ (∀ y0 y1 y2 y3 y4 y5 y6 y7 y8 y9 aa ab ac, LeO (spec_l5On.l1 k y0 y1 y2 y3 y4 y5 y6 y7 y8 y9 aa ab ac) (spec_l5On.l1 (k + 1) y0 y1 y2 y3 y4 y5 y6 y7 y8 y9 aa ab ac))
 | 0 => ⟨fun _ _ _ _ _ _ _ _ _ _ _ _ _ r h => by simp [spec_l5On.l0] at h, fun _ _ _ _ _ _ _ _ _ _ _ _ _ _ _ r h => by simp [spec_l5On.j1] at h, fun _ _ _ _ _ _ _ _ _ _ _ _ _ r h => by simp [spec_l5On.l1] at h⟩
 | k + 1 => by
  obtain ⟨af, ag, ah⟩ := spec_l5On.mono_l k
  refine ⟨?_, ?_, ?_⟩
  all_goals intros; first | unfold spec_l5On.l0 | unfold spec_l5On.j1 | unfold spec_l5On.l1
  all_goals repeat' (with_reducible first | exact af .. | exact ag .. | exact ah .. | exact spec_l5PutRead.mono .. | exact spec_l5PutWrite.mono .. | exact LeO.refl _ | exact LeO.none _ | refine LeO.ite ?_ ?_ | refine LeO.bind ?_ (fun _ => ?_))
theorem spec_l5On.mono : ∀ a0 a1 a2 a3 k, LeO (spec_l5On.f k a0 a1 a2 a3) (spec_l5On.f (k + 1) a0 a1 a2 a3) := by
 intro a0 a1 a2 a3 k
 obtain ⟨aa, ab, ac⟩ := spec_l5On.mono_l k
 unfold spec_l5On.f
 repeat' (with_reducible first | exact aa .. | exact ab .. | exact ac .. | exact spec_l5PutRead.mono .. | exact spec_l5PutWrite.mono .. | exact LeO.refl _ | exact LeO.none _ | refine LeO.ite ?_ ?_ | refine LeO.bind ?_ (fun _ => ?_))
def spec_l5On.T7 : Bool × List (List Nat × List Nat) := (true, [([], []), ([0], [0]), ([], []), ([1, 2], [1, 2]), ([3], [3]), ([], []), ([], []), ([6], [6]), ([], []), ([7, 8], [7, 8]), ([9], [9]), ([10], [10]), ([5, 11], [5, 11]), ([4, 12], [4, 12]), ([13], [13]), ([], []), ([15, 14, 12, 0, 1, 2, 3, 4, 5, 6, 7, 8, 9, 10, 11, 12, 13, 14, 15], [14, 15])])
def spec_l5On.B7 : List Nat := [0, 1, 0, 7, 15, 0, 0, 64, 0, 448, 960, 1984, 4064, 8191, 16383, 0, 65535]
theorem spec_l5On.tab7 : rtab .any (opsOf Try.f89 7) = spec_l5On.T7 := by kernel_rfl
theorem spec_l5On.bits7 : waitsOk spec_l5On.T7.2 spec_l5On.B7 = true := by kernel_rfl
def spec_l5On.T13 : Bool × List (List Nat × List Nat) := (true, [([], []), ([0], [0]), ([], []), ([2], [2]), ([], []), ([], []), ([4, 5, 3], [4, 5]), ([3, 6], [3, 6]), ([1, 7, 6], [1, 7]), ([0, 1, 2, 3, 4, 5, 6, 7, 8], []), ([9, 8, 8, 0, 1, 2, 3, 4, 5, 6, 7, 8], [8, 9])])
def spec_l5On.B13 : List Nat := [0, 1, 0, 4, 0, 0, 60, 124, 255, 511, 1023]
theorem spec_l5On.tab13 : rtab .any (opsOf Try.f89 13) = spec_l5On.T13 := by kernel_rfl
theorem spec_l5On.bits13 : waitsOk spec_l5On.T13.2 spec_l5On.B13 = true := by kernel_rfl
theorem spec_l5On.calls (k : Nat) (g : Nat) (s0_0 : List Int) (s0_1 : Int) (s0_2 : Int) (bj : Option Addr) (aV : Nat) (af : List (List (S52))) (r1 : Int) (r2 : Int) (r3 : Int) (r4 : Int) (r5 : Int) (r6 : Int) (r7 : Int) (r8 : List (S116)) (r9 : List (S103)) (r10 : Int) (r11 : Int) (w0 w : World) (hI : IsS164 w0 w g s0_0 s0_1 s0_2) (hB : Below w0.heap.size w0 w) (cg : ∀ W_, KeepBut w W_ g none → Kd.C (Kd.slice 52 k52) W_ bj af.length af) (ch : af.length ≤ aV) (h : spec_l5On.f k s0_0 s0_1 s0_2 af = some (r1, r2, r3, r4, r5, r6, r7, r8, r9, r10, r11)) :
  Calls Try.prog 89 #[.pointer (some ⟨g, 0, none⟩), .agg #[.slice bj af.length aV]] w fun e w' => ∃ fm fn : Value, e = .returned (.agg #[.int .i64 r1, .int .i64 r2, .int .i64 r3, .int .i64 r4, .int .i64 r5, .int .i64 r6, .int .i64 r7, fm, fn]) ∧ Kd.R k116 116 w' w.heap.size (fun _ => True) fm r8 ∧ Kd.R k103 103 w' w.heap.size (fun _ => True) fn r9 ∧ IsS164 w0 w' g s0_0 r10 r11 ∧ Below w0.heap.size w0 w' ∧ KeepBut w w' g none := by
 have gu := Try.underlying34
 have gv := Try.underlying48
 have gw := Try.underlying52
 have fo := Try.underlying116
 have fp := Try.underlying103
 have aI := AM_ cg
 have fq := AM_ ch
 clear cg ch
 have al := AM_ hI
 have HK := AM_ (KeepBut.refl w g none)
 have HL := AM_ hB.size
 clear hI
 have HW0 := AM_ hB.size
 have HB := AM_ hB
 clear hB
 have H : ((spec_l1Below.f s0_0 s0_1 s0_2 6).bind fun bt347 => ((spec_l1Below.f s0_0 bt347.2.1 bt347.2.2 4).bind fun bt350 => ((spec_l1Below.f s0_0 bt350.2.1 bt350.2.2 8).bind fun bt353 => ((spec_l1Below.f s0_0 bt353.2.1 bt353.2.2 4).bind fun bt357 => (spec_l5On.l0 k bt357.1 s0_0 bt357.2.1 bt357.2.2 af (wrap64 (1 + bt347.1)) (wrap64 (1 + bt350.1)) 1 bt353.1 0 1000 0 ([] : List (S116))))))) = some (r1, r2, r3, r4, r5, r6, r7, r8, r9, r10, r11) := h
 clear h
 obtain ⟨⟨aK, cB, cC⟩, A3, H⟩ := OB H
 obtain ⟨⟨aL, cD, cE⟩, A4, H⟩ := OB H
 obtain ⟨⟨aM, cF, cG⟩, A5, H⟩ := OB H
 obtain ⟨⟨cH, cI, cJ⟩, A6, H⟩ := OB H
 have H' := AM_ H
 clear H
 go_enter Try.func89, Try.ntmps89
 go_wp2_with (first | ((with_reducible refine G2 3 rfl ?_); (try (refine gate_guard (by rfl) ?_; dsimp only)); refine BX 3 #[.slice bj af.length aV] 34 ?_; intro aF hg w7 hbox hb; replace HB := BW1 HB al hb; have aa := AM_ (hbox); have fr := GK HK hg; have GE345 := GE1 HW0 HK hg; replace HK := KX HK hb; have bp := NI al hg; have az := NJ al hg; replace al := IB al hb; clear hb hbox hg) | ((with_reducible refine G2 4 rfl ?_); (try (refine gate_guard (by rfl) ?_; dsimp only)); refine BX 4 #[.int .i64 0, .int .i64 0, .int .i64 0, .int .i64 0, .int .i64 0, .int .i64 0, .int .i64 0, .slice none 0 0, .slice none 0 0] 48 ?_; intro aJ hg w8 hbox hb; replace HB := BW1 HB al hb; have ad := AM_ (hbox); have fs := GK HK hg; have GE346 := GE1 HW0 HK hg; replace HK := KX HK hb; have aW := NP aa hg; have aX := NQ aa hg; replace aa := BV aa hb; have b2 := NI al hg; have aA := NJ al hg; replace al := IB al hb; clear hb hbox hg) | ((with_reducible refine G1 54 rfl ?_); refine GC (some 11) Try.func54 #[.pointer (some ⟨g, 0, none⟩), .int .i64 6] ?_; (with_reducible refine (spec_l1Below.calls g s0_0 s0_1 s0_2 6 aK cB cC w0 _ ?side1 ?side2 A3.out).mono ?_); (case side1 => exact IZ al); (case side2 => exact BZ1 HB al); rintro e w9 ⟨rfl, hi, hb, hk⟩; refine ⟨_, rfl, ?_⟩; replace aa := KB aa hk az; replace ad := KB ad hk aA; replace HK := KY HK hk; replace HB := AM_ (hb); replace al := AM_ (hi); (try clear hb)) | ((with_reducible refine G1 54 rfl ?_); refine GC (some 14) Try.func54 #[.pointer (some ⟨g, 0, none⟩), .int .i64 4] ?_; (with_reducible refine (spec_l1Below.calls g s0_0 cB cC 4 aL cD cE w0 _ ?side1 ?side2 A4.out).mono ?_); (case side1 => exact IZ al); (case side2 => exact BZ1 HB al); rintro e gI ⟨rfl, hi, hb, hk⟩; refine ⟨_, rfl, ?_⟩; replace aa := KB aa hk az; replace ad := KB ad hk aA; replace HK := KY HK hk; replace HB := AM_ (hb); replace al := AM_ (hi); (try clear hb)) | ((with_reducible refine G1 54 rfl ?_); refine GC (some 17) Try.func54 #[.pointer (some ⟨g, 0, none⟩), .int .i64 8] ?_; (with_reducible refine (spec_l1Below.calls g s0_0 cD cE 8 aM cF cG w0 _ ?side1 ?side2 A5.out).mono ?_); (case side1 => exact IZ al); (case side2 => exact BZ1 HB al); rintro e gJ ⟨rfl, hi, hb, hk⟩; refine ⟨_, rfl, ?_⟩; replace aa := KB aa hk az; replace ad := KB ad hk aA; replace HK := KY HK hk; replace HB := AM_ (hb); replace al := AM_ (hi); (try clear hb)) | ((with_reducible refine G2 5 rfl ?_); (try (refine gate_guard (by rfl) ?_; dsimp only)); refine BX 5 #[.int .i64 0, .int .i64 0, .int .i64 0, .int .i64 0, .int .i64 0, .int .i64 0, .int .i64 0, .slice none 0 0, .slice none 0 0] 48 ?_; intro ak hg gK hbox hb; replace HB := BW1 HB al hb; have ac := AM_ (hbox); have ft := GK HK hg; have GE356 := GE1 HW0 HK hg; replace HK := KX HK hb; have aB := NP aa hg; have aD := NQ aa hg; replace aa := BV aa hb; have aE := NP ad hg; have aN := NQ ad hg; replace ad := BV ad hb; have a8 := NI al hg; have aC := NJ al hg; replace al := IB al hb; clear hb hbox hg; have fu := aD.out; have fv := aB.out; have fw := aN.out; have fx := aE.out; have fy := aC.out; have fz := a8.out; obtain ⟨bq, br, bu, bv, bw, bx, bz, bA, bB, bC, bD, bE, bF, bG, bH, bI, bJ, bK⟩ := bk9 ac.out) | ((with_reducible refine G1 54 rfl ?_); refine GC (some 20) Try.func54 #[.pointer (some ⟨g, 0, none⟩), .int .i64 4] ?_; (with_reducible refine (spec_l1Below.calls g s0_0 cF cG 4 cH cI cJ w0 _ ?side1 ?side2 A6.out).mono ?_); (case side1 => exact IZ al); (case side2 => exact BZ1 HB al); rintro e gL ⟨rfl, hi, hb, hk⟩; refine ⟨_, rfl, ?_⟩; replace aa := KB aa hk az; replace ad := KB ad hk aA; replace ac := AM_ (KeepBut.blk hk (g' := ak) (o := .cells #[.int .i64 (wrap64 (1 + aK)), .int .i64 (wrap64 (1 + aL)), .int .i64 1, .int .i64 aM, .int .i64 0, .int .i64 1000, .int .i64 0, .slice none 0 0, .slice none 0 0] 48 (0, 0)) (by (with_reducible repeat (first | refine blk_drewN ?_ _ | refine blk_drew ?_ | refine blk_alloc ?_ _)); apply BP9; (with_reducible repeat (first | refine blk_drewN ?_ _ | refine blk_drew ?_ | refine blk_alloc ?_ _)); exact ac.out) aC.out (by simp)); replace HK := KY HK hk; replace HB := AM_ (hb); replace al := AM_ (hi); (try clear hb)))
 go_loopg [6] k (fun kq v6 w' => ∃ (a6 : Int) (aQ : Int) (aR : Int) (ah : Int) (an : List (S116)) (u357007 : Value), v6 = .int .i64 a6 ∧ Aside0 (spec_l5On.l0 kq a6 s0_0 aQ aR af (wrap64 (1 + aK)) (wrap64 (1 + aL)) 1 aM ah 1000 0 an = some (r1, r2, r3, r4, r5, r6, r7, r8, r9, r10, r11)) ∧ Aside0 (kq ≤ k) ∧ Aside0 (Kd.R k116 116 w' w.heap.size (fun _ => True) u357007 an) ∧ Aside0 (w'.heap[aF]? = some (.cells #[(.slice bj af.length aV)] 34 (0, 0))) ∧ Aside0 (w'.heap[aJ]? = some (.cells #[.int .i64 0, .int .i64 0, .int .i64 0, .int .i64 0, .int .i64 0, .int .i64 0, .int .i64 0, (.slice none 0 0), (.slice none 0 0)] 48 (0, 0))) ∧ Aside0 (w'.heap[ak]? = some (.cells #[.int .i64 (wrap64 (1 + aK)), .int .i64 (wrap64 (1 + aL)), .int .i64 1, .int .i64 aM, .int .i64 ah, .int .i64 1000, .int .i64 0, u357007, (.slice none 0 0)] 48 (0, 0))) ∧ Aside0 (IsS164 w0 w' g s0_0 aQ aR) ∧ Aside0 (KeepBut w w' g none) ∧ Aside0 (Below w0.heap.size w0 w'))
 case atStart => exact ⟨(cH), (cI), (cJ), (0), (([] : List (S116))), (.slice none 0 0), (by first | rfl | (simp; done) | (simp [*]; done)), H', ⟨Nat.le_refl _⟩, ⟨by first | exact Kd.R_nil _ _ _ _ _ | exact Kd.N_nil _ _ _ _ _ | exact Kd.V_nil _ _ _ _ _ | exact Kd.Q_nil _ _ _ _ _ | exact Kd.S_nil _ _ _ _ _⟩, ⟨BH aa.out⟩, ⟨BH ad.out⟩, ⟨BH ac.out⟩, ⟨IZ al⟩, ⟨KZ HK⟩, ⟨BZ1 HB al⟩⟩
 case round =>
  clear H'
  try clear bq br bu bv bw bx bz bA bB bC bD bE bF bG bH bI bJ bK
  obtain ⟨a6, aQ, aR, ah, an, u357007, rfl, HA, ci, HO_357007, aa, ad, ac, al, HK, HB⟩ := hrel
  cases gk with
  | zero => exact absurd HA.out (by simp [spec_l5On.l0])
  | succ k1 =>
   have H := HA.out
   clear HA
   simp only [spec_l5On.l0] at H
   by_cases cj : a6 > 0
   rotate_left
   ·rw [if_neg cj] at H
    have bU : decide (0 < a6) = false := decide_eq_false cj
    clear cj
    obtain ⟨⟨cK, cL, cM⟩, gx, H⟩ := OB H
    have H' := AM_ H
    clear H
    go_wp2_with (first | ((with_reducible refine G1 54 rfl ?_); refine GC (some 71) Try.func54 #[.pointer (some ⟨g, 0, none⟩), .int .i64 3] ?_; (with_reducible refine (spec_l1Below.calls g s0_0 aQ aR 3 cK cL cM w0 _ ?side1 ?side2 gx.out).mono ?_); (case side1 => exact IZ al); (case side2 => exact BZ1 HB al); rintro e gM ⟨rfl, hi, hb, hk⟩; refine ⟨_, rfl, ?_⟩; replace HO_357007 := RK1 HO_357007 al hk; replace aa := KB aa hk az; replace ad := KB ad hk aA; replace ac := KB ac hk aC; replace HK := KY HK hk; replace HB := AM_ (hb); replace al := AM_ (hi); (try clear hb)))
    go_loopg [9] k1 (fun kq v9 w' => ∃ (bm : Int) (aS : Int) (aT : Int) (am : List (S103)) (u357008 : Value), v9 = .int .i64 bm ∧ Aside0 (spec_l5On.l1 kq bm s0_0 aS aT (wrap64 (1 + aK)) (wrap64 (1 + aL)) 1 aM ah 1000 0 an am = some (r1, r2, r3, r4, r5, r6, r7, r8, r9, r10, r11)) ∧ Aside0 (kq ≤ k1) ∧ Aside0 (Kd.R k116 116 w' w.heap.size (fun _ => True) u357007 an) ∧ Aside0 (Kd.R k103 103 w' w.heap.size (fun _ => True) u357008 am) ∧ Aside0 (w'.heap[aF]? = some (.cells #[(.slice bj af.length aV)] 34 (0, 0))) ∧ Aside0 (w'.heap[aJ]? = some (.cells #[.int .i64 0, .int .i64 0, .int .i64 0, .int .i64 0, .int .i64 0, .int .i64 0, .int .i64 0, (.slice none 0 0), (.slice none 0 0)] 48 (0, 0))) ∧ Aside0 (w'.heap[ak]? = some (.cells #[.int .i64 (wrap64 (1 + aK)), .int .i64 (wrap64 (1 + aL)), .int .i64 1, .int .i64 aM, .int .i64 ah, .int .i64 1000, .int .i64 0, u357007, u357008] 48 (0, 0))) ∧ Aside0 (IsS164 w0 w' g s0_0 aS aT) ∧ Aside0 (KeepBut w w' g none) ∧ Aside0 (Below w0.heap.size w0 w'))
    case atStart => exact ⟨(cK), (cL), (cM), (([] : List (S103))), (.slice none 0 0), (by first | rfl | (simp; done) | (simp [*]; done)), H', ⟨Nat.le_refl _⟩, ⟨RT HO_357007.out⟩, ⟨by first | exact Kd.R_nil _ _ _ _ _ | exact Kd.N_nil _ _ _ _ _ | exact Kd.V_nil _ _ _ _ _ | exact Kd.Q_nil _ _ _ _ _ | exact Kd.S_nil _ _ _ _ _⟩, ⟨BH aa.out⟩, ⟨BH ad.out⟩, ⟨BH ac.out⟩, ⟨IZ al⟩, ⟨KZ HK⟩, ⟨BZ1 HB al⟩⟩
    case round =>
     clear H'
     try clear cj
     try clear bU
     obtain ⟨bm, aS, aT, am, u357008, rfl, HA, fA, HO_357007, HO_357008, aa, ad, ac, al, HK, HB⟩ := hrel
     cases gk with
     | zero => exact absurd HA.out (by simp [spec_l5On.l1])
     | succ k2 =>
      have H := HA.out
      clear HA
      simp only [spec_l5On.l1] at H
      by_cases cA : bm > 0
      rotate_left
      ·rw [if_neg cA] at H
       have cN : decide (0 < bm) = false := decide_eq_false cA
       clear cA
       simp only [Option.some.injEq, Prod.mk.injEq] at H
       obtain ⟨rfl, rfl, rfl, rfl, rfl, rfl, rfl, rfl, rfl, rfl, rfl⟩ := H
       have fB := aD.out
       have fC := aB.out
       have fD := aN.out
       have fE := aE.out
       have fF := aC.out
       have fG := a8.out
       obtain ⟨db, dc, dd, de, df, dg, dh, di, dj, dk, dl, dm, dn, dp, dq, dr, dt, du⟩ := bk9 ac.out
       have fH := aX.out
       have fI := aW.out
       have fJ := aA.out
       have fK := b2.out
       obtain ⟨dv, dw, dx, dy, dz, dA, dB, dC, dD, dE, dF, dG, dH, dI, dJ, dK, dL, dM⟩ := bk9 ad.out
       obtain ⟨eT, eU, eV⟩ := Kd.R_slice HO_357007.out
       subst eV
       obtain ⟨eW, eX, eY⟩ := Kd.R_slice HO_357008.out
       subst eY
       go_wp2
       refine bodyPost_ret (results_cell_row rfl _ _ aJ 48 #[.int .i64 (wrap64 (1 + aK)), .int .i64 (wrap64 (1 + aL)), .int .i64 1, .int .i64 aM, .int .i64 ah, .int .i64 1000, .int .i64 0, .slice eT an.length eU, .slice eW am.length eX] (0, 0) _ rfl (by (with_reducible repeat (first | refine blk_drewN ?_ _ | refine blk_drew ?_ | refine blk_alloc ?_ _)); apply BP9; (with_reducible repeat (first | refine blk_drewN ?_ _ | refine blk_drew ?_ | refine blk_alloc ?_ _)); exact ad.out) Try.underlying48 rfl (by kernel_rfl)) rfl ?_
       exact ⟨_, _, ER, by (with_reducible repeat (first | apply Kd.R_alloc | apply Kd.R_drewN | apply Kd.R_drew)); exact Kd.R_mono (RF9 (Kd.R_types HO_357007.out ad.out (by decide)) (fun _ hk => hk.2)) (fun _ hk => trivial), by (with_reducible repeat (first | apply Kd.R_alloc | apply Kd.R_drewN | apply Kd.R_drew)); exact Kd.R_mono (RF9 (Kd.R_types HO_357008.out ad.out (by decide)) (fun _ hk => hk.2)) (fun _ hk => trivial), IZ al, BZ1 HB al, KZ HK⟩
      rw [if_pos cA] at H
      have cN : decide (0 < bm) = true := DE cA
      clear cA
      obtain ⟨⟨bV, bW, bX⟩, fL, H⟩ := OB H
      obtain ⟨b3, bY⟩ : ∃ y_ : List Int, y_ = (([(-1), 0, 7, 50, 99] : List Int)) := ⟨_, rfl⟩
      rw [← bY] at H
      have bL := AM_ bY
      clear bY
      obtain ⟨⟨cn, cO, cP⟩, gy, H⟩ := OB H
      obtain ⟨co, gz, H⟩ := OB H
      have H' := AM_ H
      clear H
      obtain ⟨a9, ba, eZ⟩ := Kd.R_slice HO_357008.out
      subst eZ
      try go_wp2
      replace HO_357007 := AM_ (Kd.R_drew HO_357007.out)
      replace HO_357008 := AM_ (Kd.R_drew HO_357008.out)
      replace aa := BD1 aa
      replace ad := BD1 ad
      replace ac := BD1 ac
      replace al := AM_ (IsS164.drew al.out)
      replace HK := AM_ (keep_drew HK.out)
      replace HB := BD2 HB
      refine start_ (n := 11) (S := fun w' => w'.cell? ⟨ak, 0, none⟩ = some (.int .i64 (wrap64 (1 + aK))) ∧ w'.cell? ⟨ak, 1, none⟩ = some (.int .i64 (wrap64 (1 + aL))) ∧ w'.cell? ⟨ak, 2, none⟩ = some (.int .i64 1) ∧ w'.cell? ⟨ak, 3, none⟩ = some (.int .i64 aM) ∧ w'.cell? ⟨ak, 4, none⟩ = some (.int .i64 ah) ∧ w'.cell? ⟨ak, 5, none⟩ = some (.int .i64 1000) ∧ w'.cell? ⟨ak, 6, none⟩ = some (.int .i64 0) ∧ w'.cell? ⟨ak, 7, none⟩ = some (u357007) ∧ w'.cell? ⟨ak, 8, none⟩ = some (.slice a9 am.length ba)) (ds := [10]) (lo 0 11) (by kernel_rfl) rfl rfl (b9 ac.out) (fun ab => ?_); refine with_tabW spec_l5On.tab13 spec_l5On.bits13 (fun aO ck => ?_)
      generalize wr.drew = gN at HO_357007 HO_357008 aa ad ac al HK HB ab ⊢
      refine PS aO ?_
      refine PV 2 (some 78) (bs 5 11) aO ?_
      refine PV 4 (some 80) (bs 21 11) aO ?_
      refine TX 1 (some 77) (bs 23 11) aO ck ab ?_
      refine join_ (σ := Value) 5 (lo 6 11) (fun s_ => [(79, .int .i64 bV), (81, s_)]) (fun s_ w' => (w'.cell? ⟨ak, 0, none⟩ = some (.int .i64 (wrap64 (1 + aK))) ∧ w'.cell? ⟨ak, 1, none⟩ = some (.int .i64 (wrap64 (1 + aL))) ∧ w'.cell? ⟨ak, 2, none⟩ = some (.int .i64 1) ∧ w'.cell? ⟨ak, 3, none⟩ = some (.int .i64 aM) ∧ w'.cell? ⟨ak, 4, none⟩ = some (.int .i64 ah) ∧ w'.cell? ⟨ak, 5, none⟩ = some (.int .i64 1000) ∧ w'.cell? ⟨ak, 6, none⟩ = some (.int .i64 0) ∧ w'.cell? ⟨ak, 7, none⟩ = some (u357007) ∧ w'.cell? ⟨ak, 8, none⟩ = some (.slice a9 am.length ba)) ∧ (Kd.R (Kd.int .i64) 3 w' w.heap.size (fun _ => True) s_ b3) ∧ (Kd.R k116 116 w' w.heap.size (fun _ => True) u357007 an) ∧ (Kd.R k103 103 w' w.heap.size (fun _ => True) (.slice a9 am.length ba) am) ∧ (w'.heap[aF]? = some (.cells #[.slice bj af.length aV] 34 (0, 0))) ∧ (w'.heap[aJ]? = some (.cells #[.int .i64 0, .int .i64 0, .int .i64 0, .int .i64 0, .int .i64 0, .int .i64 0, .int .i64 0, .slice none 0 0, .slice none 0 0] 48 (0, 0))) ∧ (w'.heap[ak]? = some (.cells #[.int .i64 (wrap64 (1 + aK)), .int .i64 (wrap64 (1 + aL)), .int .i64 1, .int .i64 aM, .int .i64 ah, .int .i64 1000, .int .i64 0, u357007, .slice a9 am.length ba] 48 (0, 0))) ∧ (IsS164 w0 w' g s0_0 bW bX) ∧ (KeepBut w w' g none) ∧ (Below w0.heap.size w0 w')) ?_ ?_
      rotate_left
      ·intro hCont
       refine two_ (i := 3) (j := 5) (Ni := some 79) (Nj := some 81) (lo 5 11) (bs 55 11) rfl rfl rfl rfl (two_of aO.out (by kernel_rfl)) (by decide) (by decide) (fun K hK => ?_) (fun K hK => ?_)
       ·skip
        refine GO Try.func54 #[.pointer (some ⟨g, 0, none⟩), .int .i64 6] ?_
        with_reducible refine (spec_l1Below.calls g s0_0 aS aT 6 bV bW bX w0 _ ?side1 ?side2 fL.out).mono ?_
        (case side1 => exact IZ al)
        (case side2 => exact BZ1 HB al)
        rintro e gA ⟨rfl, hi, hb, hk⟩
        refine ⟨_, rfl, ?_⟩
        replace HO_357007 := RK1 HO_357007 al hk
        replace HO_357008 := RK1 HO_357008 al hk
        replace aa := KB aa hk az
        replace ad := KB ad hk aA
        replace ac := KB ac hk aC
        replace HK := KY HK hk
        replace HB := AM_ (hb)
        replace al := AM_ (hi)
        (try clear hb)
        (try clear hk)
        (try clear hi)
        refine hK.out _ _ (b9 ac.out) (fun ab => ?_)
        clear hK K
        refine NM 79 ?_
        refine OS aO (fun K hK => ?_)
        refine Kd.R_lit_step (Kd.int .i64) _ 3 ?hg (N := 81) ?hd (xs := ([(-1), 0, 7, 50, 99] : List Int)) (inner := [.int .i64 (-1), .int .i64 0, .int .i64 7, .int .i64 50, .int .i64 99]) (ok := fun _ => True) (okp := fun _ => True) ?hr ?hp (fun _ hk => hk) trivial (Below.refl _ _) (Nat.le_refl _) (by simp) ?_; (case hd => rfl); (case hg => rfl); (case hr => first | (go_simp; done) | (go_simp; rfl)); (case hp => exact (Reps.one (show Kd.M (Kd.int .i64) _ _ _ (-1) [.int .i64 (-1)] from rfl) (Reps.one (show Kd.M (Kd.int .i64) _ _ _ 0 [.int .i64 0] from rfl) (Reps.one (show Kd.M (Kd.int .i64) _ _ _ 7 [.int .i64 7] from rfl) (Reps.one (show Kd.M (Kd.int .i64) _ _ _ 50 [.int .i64 50] from rfl) (Reps.one (show Kd.M (Kd.int .i64) _ _ _ 99 [.int .i64 99] from rfl) (Reps.none _ _)))))))
        intro bZ gO b0 hb hg_ hnew_
        clear hg_ hnew_
        (first | rw [← bL.out] at b0 | (simp only [Int.reduceToNat] at b0; rw [← bL.out] at b0))
        replace HO_357007 := RB HO_357007 hb
        replace HO_357008 := RB HO_357008 hb
        have aG := AM_ (Kd.R_lower b0 (KS HK))
        replace aa := BV aa hb
        replace ad := BV ad hb
        replace ac := BV ac hb
        replace HK := KX HK hb
        replace HB := BW1 HB al hb
        replace al := IB al hb
        clear hb b0
        refine hK.out _ _ (b9 ac.out) (fun ab => ?_)
        clear hK K
        refine NM 81 ?_
        exact NR (hCont (bZ) _ ⟨ab, (RT aG.out), (RT HO_357007.out), (RT HO_357008.out), (BG1 aa), (BG1 ad), (BG1 ac), (IZ al), (KZ HK), (BZ1 HB al)⟩)
       ·skip
        refine Kd.R_lit_step (Kd.int .i64) _ 3 ?hg (N := 81) ?hd (xs := ([(-1), 0, 7, 50, 99] : List Int)) (inner := [.int .i64 (-1), .int .i64 0, .int .i64 7, .int .i64 50, .int .i64 99]) (ok := fun _ => True) (okp := fun _ => True) ?hr ?hp (fun _ hk => hk) trivial (Below.refl _ _) (Nat.le_refl _) (by simp) ?_; (case hd => rfl); (case hg => rfl); (case hr => first | (go_simp; done) | (go_simp; rfl)); (case hp => exact (Reps.one (show Kd.M (Kd.int .i64) _ _ _ (-1) [.int .i64 (-1)] from rfl) (Reps.one (show Kd.M (Kd.int .i64) _ _ _ 0 [.int .i64 0] from rfl) (Reps.one (show Kd.M (Kd.int .i64) _ _ _ 7 [.int .i64 7] from rfl) (Reps.one (show Kd.M (Kd.int .i64) _ _ _ 50 [.int .i64 50] from rfl) (Reps.one (show Kd.M (Kd.int .i64) _ _ _ 99 [.int .i64 99] from rfl) (Reps.none _ _)))))))
        intro bZ gA b1 hb hg_ hnew_
        clear hg_ hnew_
        (first | rw [← bL.out] at b1 | (simp only [Int.reduceToNat] at b1; rw [← bL.out] at b1))
        replace HO_357007 := RB HO_357007 hb
        replace HO_357008 := RB HO_357008 hb
        have aG := AM_ (Kd.R_lower b1 (KS HK))
        replace aa := BV aa hb
        replace ad := BV ad hb
        replace ac := BV ac hb
        replace HK := KX HK hb
        replace HB := BW1 HB al hb
        replace al := IB al hb
        clear hb b1
        refine hK.out _ _ (b9 ac.out) (fun ab => ?_)
        clear hK K
        refine NM 81 ?_
        refine one_ (i := 3) (N := some 79) (lo 6 11) rfl rfl (one_of aO.out (by kernel_rfl)) (by decide) (fun K hK => ?_)
        refine GO Try.func54 #[.pointer (some ⟨g, 0, none⟩), .int .i64 6] ?_
        with_reducible refine (spec_l1Below.calls g s0_0 aS aT 6 bV bW bX w0 _ ?side1 ?side2 fL.out).mono ?_
        (case side1 => exact IZ al)
        (case side2 => exact BZ1 HB al)
        rintro e gP ⟨rfl, hi, hb, hk⟩
        refine ⟨_, rfl, ?_⟩
        replace HO_357007 := RK1 HO_357007 al hk
        replace HO_357008 := RK1 HO_357008 al hk
        replace aa := KB aa hk az
        replace ad := KB ad hk aA
        replace ac := KB ac hk aC
        replace aG := RK1 aG al hk
        replace HK := KY HK hk
        replace HB := AM_ (hb)
        replace al := AM_ (hi)
        (try clear hb)
        (try clear hk)
        (try clear hi)
        refine hK.out _ _ (b9 ac.out) (fun ab => ?_)
        clear hK K
        refine NM 79 ?_
        exact NR (hCont (bZ) _ ⟨ab, (RT aG.out), (RT HO_357007.out), (RT HO_357008.out), (BG1 aa), (BG1 ad), (BG1 ac), (IZ al), (KZ HK), (BZ1 HB al)⟩)
      rintro bZ bi ⟨hS_, h0_, h1_, h2_, h3_, h4_, h5_, h6_, h7_, h8_⟩
      have cQ : Aside0 (Kd.R (Kd.int .i64) 3 bi w.heap.size (fun _ => True) bZ b3) := ⟨h0_⟩
      have cR : Aside0 (Kd.R k116 116 bi w.heap.size (fun _ => True) u357007 an) := ⟨h1_⟩
      have cS : Aside0 (Kd.R k103 103 bi w.heap.size (fun _ => True) (.slice a9 am.length ba) am) := ⟨h2_⟩
      have cT : Aside0 (bi.heap[aF]? = some (.cells #[.slice bj af.length aV] 34 (0, 0))) := ⟨h3_⟩
      have cU : Aside0 (bi.heap[aJ]? = some (.cells #[.int .i64 0, .int .i64 0, .int .i64 0, .int .i64 0, .int .i64 0, .int .i64 0, .int .i64 0, .slice none 0 0, .slice none 0 0] 48 (0, 0))) := ⟨h4_⟩
      have cV : Aside0 (bi.heap[ak]? = some (.cells #[.int .i64 (wrap64 (1 + aK)), .int .i64 (wrap64 (1 + aL)), .int .i64 1, .int .i64 aM, .int .i64 ah, .int .i64 1000, .int .i64 0, u357007, .slice a9 am.length ba] 48 (0, 0))) := ⟨h5_⟩
      have cW : Aside0 (IsS164 w0 bi g s0_0 bW bX) := ⟨h6_⟩
      have cX : Aside0 (KeepBut w bi g none) := ⟨h7_⟩
      have cY : Aside0 (Below w0.heap.size w0 bi) := ⟨h8_⟩
      clear HO_357007
      clear HO_357008
      clear aa
      clear ad
      clear ac
      clear al
      clear HK
      clear HB
      clear h0_ h1_ h2_ h3_ h4_ h5_ h6_ h7_ h8_
      have aG := cQ
      have HO_357007 := cR
      have HO_357008 := cS
      have aa := cT
      have ad := cU
      have ac := cV
      have al := cW
      have HK := cX
      have HB := cY
      clear cQ cR cS cT cU cV cW cX cY
      have ab : bi.cell? ⟨ak, 0, none⟩ = some (.int .i64 (wrap64 (1 + aK))) ∧ bi.cell? ⟨ak, 1, none⟩ = some (.int .i64 (wrap64 (1 + aL))) ∧ bi.cell? ⟨ak, 2, none⟩ = some (.int .i64 1) ∧ bi.cell? ⟨ak, 3, none⟩ = some (.int .i64 aM) ∧ bi.cell? ⟨ak, 4, none⟩ = some (.int .i64 ah) ∧ bi.cell? ⟨ak, 5, none⟩ = some (.int .i64 1000) ∧ bi.cell? ⟨ak, 6, none⟩ = some (.int .i64 0) ∧ bi.cell? ⟨ak, 7, none⟩ = some (u357007) ∧ bi.cell? ⟨ak, 8, none⟩ = some (.slice a9 am.length ba) := hS_
      obtain ⟨e0, e1, cZ⟩ := Kd.R_slice aG.out
      (first | subst cZ | (injection cZ with f1_ f2_ f3_; have f4_ := f1_.symm; have f5_ := f3_.symm; clear f1_ f2_ f3_; subst f4_; subst f5_))
      refine norm_ (a' := ?_) ?_ ?_
      rotate_left
      ·simp only [putAll, Act.put, List.setIfInBounds_toArray, List.set_cons_zero, List.set_cons_succ]
       rfl
      refine OS aO (fun K hK => ?_)
      refine GO Try.func98 #[.pointer (some ⟨g, 0, none⟩), .slice e0 b3.length e1] ?_
      with_reducible refine (spec_l1PickInt.calls g s0_0 bW bX _ _ b3 cn cO cP w0 _ ?side1 ?side2 (CRR aG) (Kd.R_reads' aG.out).2.1 ?side5 gy.out).mono ?_
      (case side1 => exact IZ al)
      (case side2 => exact BZ1 HB al)
      (case side5 => exact far_slice (IsS164.own_ne al.out aG.out (by decide)))
      rintro e gQ ⟨rfl, hi, hb, hk⟩
      refine ⟨_, rfl, ?_⟩
      replace HO_357007 := RK1 HO_357007 al hk
      replace HO_357008 := RK1 HO_357008 al hk
      replace aa := KB aa hk az
      replace ad := KB ad hk aA
      replace ac := KB ac hk aC
      replace aG := RK1 aG al hk
      replace HK := KY HK hk
      replace HB := AM_ (hb)
      replace al := AM_ (hi)
      (try clear hb)
      (try clear hk)
      (try clear hi)
      refine hK.out _ _ (b9 ac.out) (fun ab => ?_)
      clear hK K
      refine NM 82 ?_
      refine PS aO ?_
      refine OS aO (fun K hK => ?_)
      refine GO Try.func124 #[.slice a9 am.length ba, .agg #[.int .i64 bV, .int .i64 cn]] ?_
      with_reducible refine (spec_l5PutWrite.calls k2 _ _ am bV cn co _ (CRR HO_357008) (Kd.R_reads' HO_357008.out).2.1 gz.out).mono ?_
      rintro e gB ⟨gC, rfl, cp, hb⟩
      refine ⟨_, rfl, ?_⟩
      replace HO_357007 := RB HO_357007 hb
      replace aG := RB aG hb
      have cl := AM_ (Kd.R_lower (Kd.R_new' cp (Kd.R_lt (RT HO_357008.out))) (KS HK))
      replace HO_357008 := AM_ (Kd.R_elder' (RT HO_357008.out) (Kd.R_base cp) hb)
      replace aa := BV aa hb
      replace ad := BV ad hb
      replace ac := BV ac hb
      replace HK := KX HK hb
      replace HB := BW1 HB al hb
      replace al := IB al hb
      (try clear hb)
      (try clear cp)
      obtain ⟨e2, e3, c0⟩ := Kd.R_slice cl.out
      (first | subst c0 | (injection c0 with f1_ f2_ f3_; have f4_ := f1_.symm; have f5_ := f3_.symm; clear f1_ f2_ f3_; subst f4_; subst f5_))
      refine hK.out _ _ (b9 ac.out) (fun ab => ?_)
      clear hK K
      refine NM 84 ?_
      refine PS aO ?_
      refine last_ (i := 10) (N := none) (lo 11 11) rfl rfl (one_of aO.out (by kernel_rfl)) (by decide) (fun K hK => ?_)
      have hs79 : gB.cell? ⟨ak, 8, none⟩ = some (.slice a9 am.length ba) := (blk_cell ac.out 8).trans rfl
      have hfs79 := blk_frozen ac.out 8
      have hns79_0 := aB.out
      have hns79_1 := aE.out
      have hms79_0 := aD.out
      have hms79_1 := aN.out
      refine skip_ (w1 := ?_) (by rfl) rfl ?_ ?_
      rotate_left
      ·go_simp
       rfl
      refine hK.out _ _ ?_
      clear hK K
      refine done_ (done_of aO.out (by kernel_rfl)) ?_
      try go_wp2
      go_roundg k2
      case measure => have := ci.out; have := fA.out; omega
      case rel => exact ⟨(wrap64 (bm - 1)), (cO), (cP), (co), (.slice e2 co.length e3), (by first | rfl | (simp; done) | (simp [*]; done)), H', ⟨by have := ci.out; have := fA.out; omega⟩, ⟨by (with_reducible repeat (first | apply Kd.R_alloc | apply Kd.R_drewN | apply Kd.R_drew)); exact Kd.R_mono (RF1 (Kd.R_types HO_357007.out ac.out (by decide)) (fun _ hk => hk.2)) (fun _ hk => trivial)⟩, ⟨by (with_reducible repeat (first | apply Kd.R_alloc | apply Kd.R_drewN | apply Kd.R_drew)); exact Kd.R_mono (RF1 (Kd.R_types cl.out ac.out (by decide)) (fun _ hk => hk.2)) (fun _ hk => trivial)⟩, ⟨BG aa.out aB.out⟩, ⟨BG ad.out aE.out⟩, ⟨BQ ac.out⟩, ⟨IZ al⟩, ⟨KZ HK⟩, ⟨BZ1 HB al⟩⟩
   rw [if_pos cj] at H
   have bU : decide (0 < a6) = true := DE cj
   clear cj
   obtain ⟨⟨ag, bS, bT⟩, gD, H⟩ := OB H
   have cq := AM_ H
   clear H
   go_upto_region 6 with (first | ((with_reducible refine G1 54 rfl ?_); refine GC (some 26) Try.func54 #[.pointer (some ⟨g, 0, none⟩), .int .i64 6] ?_; (with_reducible refine (spec_l1Below.calls g s0_0 aQ aR 6 ag bS bT w0 _ ?side1 ?side2 gD.out).mono ?_); (case side1 => exact IZ al); (case side2 => exact BZ1 HB al); rintro e gR ⟨rfl, hi, hb, hk⟩; refine ⟨_, rfl, ?_⟩; replace HO_357007 := RK1 HO_357007 al hk; replace aa := KB aa hk az; replace ad := KB ad hk aA; replace ac := KB ac hk aC; replace HK := KY HK hk; replace HB := AM_ (hb); replace al := AM_ (hi); (try clear hb)))
   (try simp only [pA, pS, pZ, pK])
   go_cut [40] (fun gE wc => ∃ (kq : Nat) (bb : Bool), gE = .bool bb ∧ Aside0 (spec_l5On.j1 kq a6 ag bb s0_0 bS bT af (wrap64 (1 + aK)) (wrap64 (1 + aL)) 1 aM ah 1000 0 an = some (r1, r2, r3, r4, r5, r6, r7, r8, r9, r10, r11)) ∧ Aside0 (kq ≤ k1) ∧ Aside0 (Kd.R k116 116 wc w.heap.size (fun _ => True) u357007 an) ∧ Aside0 (wc.heap[aF]? = some (.cells #[(.slice bj af.length aV)] 34 (0, 0))) ∧ Aside0 (wc.heap[aJ]? = some (.cells #[.int .i64 0, .int .i64 0, .int .i64 0, .int .i64 0, .int .i64 0, .int .i64 0, .int .i64 0, (.slice none 0 0), (.slice none 0 0)] 48 (0, 0))) ∧ Aside0 (wc.heap[ak]? = some (.cells #[.int .i64 (wrap64 (1 + aK)), .int .i64 (wrap64 (1 + aL)), .int .i64 1, .int .i64 aM, .int .i64 ah, .int .i64 1000, .int .i64 0, u357007, (.slice none 0 0)] 48 (0, 0))) ∧ Aside0 (IsS164 w0 wc g s0_0 bS bT) ∧ Aside0 (KeepBut w wc g none) ∧ Aside0 (Below w0.heap.size w0 wc))
   case first =>
    have H := cq.out
    clear cq
    by_cases cr : ag < (af.length : Int)
    rotate_left
    ·rw [if_neg cr] at H
     have a7 := decide_eq_false cr
     clear cr
     (first | rw [a7] | (simp only [i64_w, i32_w]; rw [a7]) | skip)
     have H' := AM_ H
     clear H
     have fM := aW.out
     have fN := aX.out
     have fO := aB.out
     have fP := aD.out
     have fQ := az.out
     have fR := bp.out
     obtain ⟨b4, b6⟩ := bk1 aa.out
     go_wp2
     go_meet
     case rel => exact ⟨_, (false), (by first | rfl | (simp; done) | (simp [*]; done)), H', ⟨by have := ci.out; first | omega | exact Nat.le_refl _⟩, ⟨RT HO_357007.out⟩, ⟨BH aa.out⟩, ⟨BH ad.out⟩, ⟨BH ac.out⟩, ⟨IZ al⟩, ⟨KZ HK⟩, ⟨BZ1 HB al⟩⟩
    rw [if_pos cr] at H
    have a7 := DE cr
    clear cr
    (first | rw [a7] | (simp only [i64_w, i32_w]; rw [a7]) | skip)
    replace H := HI H
    obtain ⟨e4, H⟩ := H
    have c1 := DE e4
    clear e4
    have H' := AM_ H
    clear H
    have fS := aW.out
    have fT := aX.out
    have fU := aB.out
    have fV := aD.out
    have fW := az.out
    have fX := bp.out
    obtain ⟨b7, b8⟩ := bk1 aa.out
    have ca : 0 ≤ (ag : Int) := DT
    have cb : ag < (af.length : Int) := DT
    obtain ⟨fY, e5, e6, e7, cc, bM, bN⟩ := foot_in aI.out HK.out (rd_L3 af ag) (by omega) (fun h_ => at_L3 h_ ag ca cb)
    cases e7
    have dN := AM_ bN
    have dO := AM_ bM
    clear bN bM
    replace ca := ET ca
    replace cb := ET cb
    go_wp2
    go_meet
    case rel => exact ⟨_, (decide (((rd_L3 af ag).length : Int) > 0)), (by first | rfl | (simp; done) | (simp [*]; done)), H', ⟨by have := ci.out; first | omega | exact Nat.le_refl _⟩, ⟨RT HO_357007.out⟩, ⟨BH aa.out⟩, ⟨BH ad.out⟩, ⟨BH ac.out⟩, ⟨IZ al⟩, ⟨KZ HK⟩, ⟨BZ1 HB al⟩⟩
   case rest =>
    clear cq
    try clear cj
    try clear bU
    try clear cr
    try clear a7
    try clear e4
    try clear c1
    try clear bq br bu bv bw bx bz bA bB
    try clear b7
    try clear b4
    try clear bC bD bE bF bG bH bI bJ bK
    try clear b8
    try clear b6
    try clear cc
    try clear ca
    try clear cb
    obtain ⟨kq, bb, rfl, HA, cd, HO_357007, aa, ad, ac, al, HK, HB⟩ := hcut
    cases kq with
    | zero => exact absurd HA.out (by simp [spec_l5On.j1])
    | succ kj19 =>
     have H := HA.out
     clear HA
     simp only [spec_l5On.j1] at H
     by_cases dP : bb = true
     rotate_left
     ·replace dP := Bool.eq_false_iff.mpr dP
      subst dP
      replace H := HF H
      have H' := AM_ H
      clear H
      go_wp2
      go_roundg kj19
      case measure => have := ci.out; have := cd.out; omega
      case rel => exact ⟨(wrap64 (a6 - 1)), (bS), (bT), (ah), (an), (u357007), (by first | rfl | (simp; done) | (simp [*]; done)), H', ⟨by have := ci.out; have := cd.out; omega⟩, ⟨RT HO_357007.out⟩, ⟨BH aa.out⟩, ⟨BH ad.out⟩, ⟨BH ac.out⟩, ⟨IZ al⟩, ⟨KZ HK⟩, ⟨BZ1 HB al⟩⟩
     subst dP
     replace H := HT H
     replace H := HI H
     obtain ⟨fZ, H⟩ := H
     have f5 := DE fZ
     clear fZ
     replace H := HI H
     obtain ⟨f6, H⟩ := H
     have f7 := DE f6
     clear f6
     obtain ⟨⟨ae, bn, bo⟩, e8, H⟩ := OB H
     replace H := HI H
     obtain ⟨f8, H⟩ := H
     have f9 := DE f8
     clear f8
     replace H := HI H
     obtain ⟨ga, H⟩ := H
     have gb := DE ga
     clear ga
     obtain ⟨ce, gc, H⟩ := OB H
     obtain ⟨ct, bk⟩ : ∃ j_ : Int, (mx ah ((rd_T52 (rd_L3 af ag) ae).f2)) = j_ := ⟨_, rfl⟩
     replace H : (spec_l5On.l0 kj19 (wrap64 (a6 - 1)) s0_0 bn bo af (wrap64 (1 + aK)) (wrap64 (1 + aL)) 1 aM ct 1000 0 ce) = some (r1, r2, r3, r4, r5, r6, r7, r8, r9, r10, r11) := by first | (rw [bk] at H; exact H) | (simp only [bk] at H ⊢; exact H)
     (try rw [bk] at e8)
     (try rw [bk] at gc)
     have e9 : (if ah < ((rd_T52 (rd_L3 af ag) ae).f2) then ((rd_T52 (rd_L3 af ag) ae).f2) else ah) = ct := bk
     have H' := AM_ H
     clear H
     try go_wp2
     replace HO_357007 := AM_ (Kd.R_drew HO_357007.out)
     replace aa := BD1 aa
     replace ad := BD1 ad
     replace ac := BD1 ac
     replace al := AM_ (IsS164.drew al.out)
     replace HK := AM_ (keep_drew HK.out)
     replace HB := BD2 HB
     have cu : 0 ≤ (ag : Int) := DT
     have cv : ag < (af.length : Int) := DT
     obtain ⟨aH, fa, aY, fb, aZ, bO, bP⟩ := foot_in aI.out HK.out (rd_L3 af ag) (by omega) (fun h_ => at_L3 h_ ag cu cv)
     have dQ := aZ
     cases fb
     have hne364_0 := (show ((aH.add (ag).toNat) : Addr).block ≠ g from by first | (rw [add_block]; exact Kd.foot_ne aI.out (by omega) (by decide)) | (show (Addr.add _ _).block ≠ _; rw [add_block]; exact Kd.foot_ne aI.out (by omega) (by decide)) | exact Kd.foot_ne aI.out (by omega) (by decide) | (dsimp only; exact Kd.foot_ne aI.out (by omega) (by decide)))
     have hlt364_0 := (Kd.foot_lt aI.out (by omega) (by decide))
     have ai := AM_ bP
     have dR := AM_ bO
     clear bP bO
     replace cu := ET cu
     replace cv := ET cv
     have cw : 0 ≤ (ag : Int) := DT
     have cx : ag < (af.length : Int) := DT
     obtain ⟨c2, fc, fd, fe, a4, bQ, bR⟩ := foot_in aI.out HK.out (rd_L3 af ag) (by omega) (fun h_ => at_L3 h_ ag cw cx)
     have dS := a4
     obtain rfl : aH = c2 := (by injection fe)
     have hne365_0 := (show ((aH.add (ag).toNat) : Addr).block ≠ g from by first | (rw [add_block]; exact Kd.foot_ne aI.out (by omega) (by decide)) | (show (Addr.add _ _).block ≠ _; rw [add_block]; exact Kd.foot_ne aI.out (by omega) (by decide)) | exact Kd.foot_ne aI.out (by omega) (by decide) | (dsimp only; exact Kd.foot_ne aI.out (by omega) (by decide)))
     have hlt365_0 := (Kd.foot_lt aI.out (by omega) (by decide))
     have cf := AM_ bR
     have dT := AM_ bQ
     clear bR bQ
     replace cw := ET cw
     replace cx := ET cx
     have ea_ := Option.some.inj (aZ.symm.trans a4)
     injection ea_ with ea_ en_ ec_
     subst ea_
     subst ec_
     clear en_
     have cy : 0 ≤ (ae : Int) := DT
     have cz : ae < ((rd_L3 af ag).length : Int) := DT
     obtain ⟨aj, ff, bd, be, bf, bg, bh⟩ := at_T52 (Kd.C_foot_now ai.out HK.out) ae cy cz
     have dU := bh
     have dV := bg
     have dW := bf
     have dX := be
     have dY := bd
     cases ff
     have hne369_4 := (show (⟨(aj.add ((ae).toNat * 5)).block, (aj.add ((ae).toNat * 5)).off + 4, none⟩ : Addr).block ≠ g from by first | (rw [add_block]; exact Kd.foot_ne ai.out (by omega) (by decide)) | (show (Addr.add _ _).block ≠ _; rw [add_block]; exact Kd.foot_ne ai.out (by omega) (by decide)) | exact Kd.foot_ne ai.out (by omega) (by decide) | (dsimp only; exact Kd.foot_ne ai.out (by omega) (by decide)))
     have hlt369_4 := (Kd.foot_lt ai.out (by omega) (by decide))
     have hne369_3 := (show (⟨(aj.add ((ae).toNat * 5)).block, (aj.add ((ae).toNat * 5)).off + 3, none⟩ : Addr).block ≠ g from by first | (rw [add_block]; exact Kd.foot_ne ai.out (by omega) (by decide)) | (show (Addr.add _ _).block ≠ _; rw [add_block]; exact Kd.foot_ne ai.out (by omega) (by decide)) | exact Kd.foot_ne ai.out (by omega) (by decide) | (dsimp only; exact Kd.foot_ne ai.out (by omega) (by decide)))
     have hlt369_3 := (Kd.foot_lt ai.out (by omega) (by decide))
     have hne369_2 := (show (⟨(aj.add ((ae).toNat * 5)).block, (aj.add ((ae).toNat * 5)).off + 2, none⟩ : Addr).block ≠ g from by first | (rw [add_block]; exact Kd.foot_ne ai.out (by omega) (by decide)) | (show (Addr.add _ _).block ≠ _; rw [add_block]; exact Kd.foot_ne ai.out (by omega) (by decide)) | exact Kd.foot_ne ai.out (by omega) (by decide) | (dsimp only; exact Kd.foot_ne ai.out (by omega) (by decide)))
     have hlt369_2 := (Kd.foot_lt ai.out (by omega) (by decide))
     have hne369_1 := (show (⟨(aj.add ((ae).toNat * 5)).block, (aj.add ((ae).toNat * 5)).off + 1, none⟩ : Addr).block ≠ g from by first | (rw [add_block]; exact Kd.foot_ne ai.out (by omega) (by decide)) | (show (Addr.add _ _).block ≠ _; rw [add_block]; exact Kd.foot_ne ai.out (by omega) (by decide)) | exact Kd.foot_ne ai.out (by omega) (by decide) | (dsimp only; exact Kd.foot_ne ai.out (by omega) (by decide)))
     have hlt369_1 := (Kd.foot_lt ai.out (by omega) (by decide))
     have hne369_0 := (show ((aj.add ((ae).toNat * 5)) : Addr).block ≠ g from by first | (rw [add_block]; exact Kd.foot_ne ai.out (by omega) (by decide)) | (show (Addr.add _ _).block ≠ _; rw [add_block]; exact Kd.foot_ne ai.out (by omega) (by decide)) | exact Kd.foot_ne ai.out (by omega) (by decide) | (dsimp only; exact Kd.foot_ne ai.out (by omega) (by decide)))
     have hlt369_0 := (Kd.foot_lt ai.out (by omega) (by decide))
     replace cy := ET cy
     replace cz := ET cz
     refine start_ (n := 17) (S := fun w' => w'.cell? ⟨aF, 0, none⟩ = some (.slice (some aH) af.length aV) ∧ w'.cell? (aH.add (ag).toNat) = some (.slice (some aj) (rd_L3 af ag).length aY) ∧ w'.cell? (aH.add (ag).toNat) = some (.slice (some aj) (rd_L3 af ag).length aY) ∧ w'.cell? (aj.add ((ae).toNat * 5)) = some (.int .i64 ((rd_T52 (rd_L3 af ag) ae).f0)) ∧ w'.cell? ⟨(aj.add ((ae).toNat * 5)).block, (aj.add ((ae).toNat * 5)).off + 1, none⟩ = some (.int .i64 ((rd_T52 (rd_L3 af ag) ae).f1)) ∧ w'.cell? ⟨(aj.add ((ae).toNat * 5)).block, (aj.add ((ae).toNat * 5)).off + 2, none⟩ = some (.int .i64 ((rd_T52 (rd_L3 af ag) ae).f2)) ∧ w'.cell? ⟨(aj.add ((ae).toNat * 5)).block, (aj.add ((ae).toNat * 5)).off + 3, none⟩ = some (.int .i64 ((rd_T52 (rd_L3 af ag) ae).f3)) ∧ w'.cell? ⟨(aj.add ((ae).toNat * 5)).block, (aj.add ((ae).toNat * 5)).off + 4, none⟩ = some (.int .i64 ((rd_T52 (rd_L3 af ag) ae).f4))) (ds := []) (lo 0 17) (by kernel_rfl) rfl rfl ⟨bc aa.out 0, aZ, a4, bd, be, bf, bg, bh⟩ (fun ab => ?_); refine with_tabW spec_l5On.tab7 spec_l5On.bits7 (fun aO ck => ?_)
     generalize wc.drew = gS at HO_357007 aa ad ac al HK HB ai cf aZ a4 bd be bf bg bh ab ⊢
     refine PS aO ?_
     refine PV 2 (some 43) (bs 5 17) aO ?_
     refine PV 5 (some 46) (bs 37 17) aO ?_
     refine PV 6 (some 47) (bs 101 17) aO ?_
     refine PV 8 (some 49) (bs 357 17) aO ?_
     refine TX 1 (some 42) (bs 359 17) aO ck ab ?_
     refine PV 3 (some 44) (bs 367 17) aO ?_
     refine TX 4 (some 45) (bs 383 17) aO ck ab ?_
     refine TX 7 (some 48) (lo 9 17) aO ck ab ?_
     iterate 3 first | refine PS aO ?_ | refine TS aO ck ab ?_
     refine join_ (σ := Nat) 1 (lo 16 17) (fun s_ => [(53, .int .i64 ae), (8, .pointer (some ⟨s_, 0, none⟩)), (54, .pointer (some (aj.add ((ae).toNat * 5)))), (55, .agg #[.int .i64 ((rd_T52 (rd_L3 af ag) ae).f0), .int .i64 ((rd_T52 (rd_L3 af ag) ae).f1), .int .i64 ((rd_T52 (rd_L3 af ag) ae).f2), .int .i64 ((rd_T52 (rd_L3 af ag) ae).f3), .int .i64 ((rd_T52 (rd_L3 af ag) ae).f4)])]) (fun s_ w' => (w'.cell? ⟨aF, 0, none⟩ = some (.slice (some aH) af.length aV) ∧ w'.cell? (aH.add (ag).toNat) = some (.slice (some aj) (rd_L3 af ag).length aY) ∧ w'.cell? (aH.add (ag).toNat) = some (.slice (some aj) (rd_L3 af ag).length aY) ∧ w'.cell? (aj.add ((ae).toNat * 5)) = some (.int .i64 ((rd_T52 (rd_L3 af ag) ae).f0)) ∧ w'.cell? ⟨(aj.add ((ae).toNat * 5)).block, (aj.add ((ae).toNat * 5)).off + 1, none⟩ = some (.int .i64 ((rd_T52 (rd_L3 af ag) ae).f1)) ∧ w'.cell? ⟨(aj.add ((ae).toNat * 5)).block, (aj.add ((ae).toNat * 5)).off + 2, none⟩ = some (.int .i64 ((rd_T52 (rd_L3 af ag) ae).f2)) ∧ w'.cell? ⟨(aj.add ((ae).toNat * 5)).block, (aj.add ((ae).toNat * 5)).off + 3, none⟩ = some (.int .i64 ((rd_T52 (rd_L3 af ag) ae).f3)) ∧ w'.cell? ⟨(aj.add ((ae).toNat * 5)).block, (aj.add ((ae).toNat * 5)).off + 4, none⟩ = some (.int .i64 ((rd_T52 (rd_L3 af ag) ae).f4))) ∧ (Kd.R k116 116 w' w.heap.size (fun _ => True) u357007 an) ∧ (w'.heap[aF]? = some (.cells #[.slice (some aH) af.length aV] 34 (0, 0))) ∧ (w'.heap[aJ]? = some (.cells #[.int .i64 0, .int .i64 0, .int .i64 0, .int .i64 0, .int .i64 0, .int .i64 0, .int .i64 0, .slice none 0 0, .slice none 0 0] 48 (0, 0))) ∧ (w'.heap[ak]? = some (.cells #[.int .i64 (wrap64 (1 + aK)), .int .i64 (wrap64 (1 + aL)), .int .i64 1, .int .i64 aM, .int .i64 ah, .int .i64 1000, .int .i64 0, u357007, .slice none 0 0] 48 (0, 0))) ∧ (w'.heap[s_]? = some (.cells #[.int .i64 0, .int .i64 0, .int .i64 0, .int .i64 0, .int .i64 0] 52 (0, 0))) ∧ (w.heap.size ≤ s_) ∧ (w0.heap.size ≤ s_) ∧ (g ≠ s_) ∧ (s_ ≠ g) ∧ (aF ≠ s_) ∧ (s_ ≠ aF) ∧ (aJ ≠ s_) ∧ (s_ ≠ aJ) ∧ (ak ≠ s_) ∧ (s_ ≠ ak) ∧ (IsS164 w0 w' g s0_0 bn bo) ∧ (KeepBut w w' g none) ∧ (Below w0.heap.size w0 w')) ?_ ?_
     rotate_left
     ·intro hCont
      refine two_ (i := 12) (j := 15) (Ni := some 53) (Nj := some 8) (lo 13 17) (bs 36863 17) rfl rfl rfl rfl (two_of aO.out (by kernel_rfl)) (by decide) (by decide) (fun K hK => ?_) (fun K hK => ?_)
      ·skip
       refine GO Try.func54 #[.pointer (some ⟨g, 0, none⟩), .int .i64 ((rd_L3 af ag).length : Int)] ?_
       with_reducible refine (spec_l1Below.calls g s0_0 bS bT ((rd_L3 af ag).length : Int) ae bn bo w0 _ ?side1 ?side2 e8.out).mono ?_
       (case side1 => exact IZ al)
       (case side2 => exact BZ1 HB al)
       rintro e gF ⟨rfl, hi, hb, hk⟩
       have HS1_ := keep_cell hk (ab.2.1) (by first | (rw [add_block]; exact hne364_0) | (show (Addr.add _ _).block ≠ _; rw [add_block]; exact hne364_0) | exact hne364_0 | (dsimp only; exact hne364_0))
       have HS2_ := keep_cell hk (ab.2.2.1) (by first | (rw [add_block]; exact hne365_0) | (show (Addr.add _ _).block ≠ _; rw [add_block]; exact hne365_0) | exact hne365_0 | (dsimp only; exact hne365_0))
       have HS3_ := keep_cell hk (ab.2.2.2.1) (by first | (rw [add_block]; exact hne369_0) | (show (Addr.add _ _).block ≠ _; rw [add_block]; exact hne369_0) | exact hne369_0 | (dsimp only; exact hne369_0))
       have HS4_ := keep_cell hk (ab.2.2.2.2.1) (by first | (rw [add_block]; exact hne369_1) | (show (Addr.add _ _).block ≠ _; rw [add_block]; exact hne369_1) | exact hne369_1 | (dsimp only; exact hne369_1))
       have HS5_ := keep_cell hk (ab.2.2.2.2.2.1) (by first | (rw [add_block]; exact hne369_2) | (show (Addr.add _ _).block ≠ _; rw [add_block]; exact hne369_2) | exact hne369_2 | (dsimp only; exact hne369_2))
       have HS6_ := keep_cell hk (ab.2.2.2.2.2.2.1) (by first | (rw [add_block]; exact hne369_3) | (show (Addr.add _ _).block ≠ _; rw [add_block]; exact hne369_3) | exact hne369_3 | (dsimp only; exact hne369_3))
       have HS7_ := keep_cell hk (ab.2.2.2.2.2.2.2) (by first | (rw [add_block]; exact hne369_4) | (show (Addr.add _ _).block ≠ _; rw [add_block]; exact hne369_4) | exact hne369_4 | (dsimp only; exact hne369_4))
       refine ⟨_, rfl, ?_⟩
       replace HO_357007 := RK1 HO_357007 al hk
       replace aa := KB aa hk az
       replace ad := KB ad hk aA
       replace ac := KB ac hk aC
       replace HK := KY HK hk
       replace HB := AM_ (hb)
       replace al := AM_ (hi)
       (try clear hb)
       (try clear hk)
       (try clear hi)
       refine hK.out _ _ ⟨bc aa.out 0, HS1_, HS2_, HS3_, HS4_, HS5_, HS6_, HS7_⟩ (fun ab => ?_)
       clear hK K
       refine NM 53 ?_
       iterate 2 first | refine PS aO ?_ | refine TS aO ck ab ?_
       refine OS aO (fun K hK => ?_)
       refine box_step ?hg (N := 8) ?hd (cs := #[.int .i64 0, .int .i64 0, .int .i64 0, .int .i64 0, .int .i64 0]) (t := 52) ?hr ?_; (case hd => rfl); (case hg => rfl); (case hr => first | (go_simp; done) | (go_simp; rfl))
       intro au hg gG hbox hb
       have HS1_ := (hb.cell (World.block_lt_of_cell? _ _ (ab.2.1))).trans (ab.2.1)
       have HS2_ := (hb.cell (World.block_lt_of_cell? _ _ (ab.2.2.1))).trans (ab.2.2.1)
       have HS3_ := (hb.cell (World.block_lt_of_cell? _ _ (ab.2.2.2.1))).trans (ab.2.2.2.1)
       have HS4_ := (hb.cell (World.block_lt_of_cell? _ _ (ab.2.2.2.2.1))).trans (ab.2.2.2.2.1)
       have HS5_ := (hb.cell (World.block_lt_of_cell? _ _ (ab.2.2.2.2.2.1))).trans (ab.2.2.2.2.2.1)
       have HS6_ := (hb.cell (World.block_lt_of_cell? _ _ (ab.2.2.2.2.2.2.1))).trans (ab.2.2.2.2.2.2.1)
       have HS7_ := (hb.cell (World.block_lt_of_cell? _ _ (ab.2.2.2.2.2.2.2))).trans (ab.2.2.2.2.2.2.2)
       replace HO_357007 := RB HO_357007 hb
       replace HB := BW1 HB al hb
       have ay := AM_ (hbox)
       have ao := GK HK hg
       have GE370 := GE1 HW0 HK hg
       replace HK := KX HK hb
       have ap := NP aa hg
       have av := NQ aa hg
       replace aa := BV aa hb
       have aq := NP ad hg
       have aw := NQ ad hg
       replace ad := BV ad hb
       have ar := NP ac hg
       have ax := NQ ac hg
       replace ac := BV ac hb
       have aU := NI al hg
       have aP := NJ al hg
       replace al := IB al hb
       clear hb hbox hg
       refine hK.out _ _ ⟨bc aa.out 0, HS1_, HS2_, HS3_, HS4_, HS5_, HS6_, HS7_⟩ (fun ab => ?_)
       clear hK K
       refine NM 8 ?_
       exact NR (hCont (au) _ ⟨ab, (RT HO_357007.out), (BG1 aa), (BG1 ad), (BG1 ac), (BG1 ay), ao.out, GE370.out, aU.out, aP.out, ap.out, av.out, aq.out, aw.out, ar.out, ax.out, (IZ al), (KZ HK), (BZ1 HB al)⟩)
      ·skip
       refine box_step ?hg (N := 8) ?hd (cs := #[.int .i64 0, .int .i64 0, .int .i64 0, .int .i64 0, .int .i64 0]) (t := 52) ?hr ?_; (case hd => rfl); (case hg => rfl); (case hr => first | (go_simp; done) | (go_simp; rfl))
       intro au hg gF hbox hb
       have HS1_ := (hb.cell (World.block_lt_of_cell? _ _ (ab.2.1))).trans (ab.2.1)
       have HS2_ := (hb.cell (World.block_lt_of_cell? _ _ (ab.2.2.1))).trans (ab.2.2.1)
       have HS3_ := (hb.cell (World.block_lt_of_cell? _ _ (ab.2.2.2.1))).trans (ab.2.2.2.1)
       have HS4_ := (hb.cell (World.block_lt_of_cell? _ _ (ab.2.2.2.2.1))).trans (ab.2.2.2.2.1)
       have HS5_ := (hb.cell (World.block_lt_of_cell? _ _ (ab.2.2.2.2.2.1))).trans (ab.2.2.2.2.2.1)
       have HS6_ := (hb.cell (World.block_lt_of_cell? _ _ (ab.2.2.2.2.2.2.1))).trans (ab.2.2.2.2.2.2.1)
       have HS7_ := (hb.cell (World.block_lt_of_cell? _ _ (ab.2.2.2.2.2.2.2))).trans (ab.2.2.2.2.2.2.2)
       replace HO_357007 := RB HO_357007 hb
       replace HB := BW1 HB al hb
       have ay := AM_ (hbox)
       have ao := GK HK hg
       have GE370 := GE1 HW0 HK hg
       replace HK := KX HK hb
       have ap := NP aa hg
       have av := NQ aa hg
       replace aa := BV aa hb
       have aq := NP ad hg
       have aw := NQ ad hg
       replace ad := BV ad hb
       have ar := NP ac hg
       have ax := NQ ac hg
       replace ac := BV ac hb
       have aU := NI al hg
       have aP := NJ al hg
       replace al := IB al hb
       clear hb hbox hg
       refine hK.out _ _ ⟨bc aa.out 0, HS1_, HS2_, HS3_, HS4_, HS5_, HS6_, HS7_⟩ (fun ab => ?_)
       clear hK K
       refine NM 8 ?_
       refine one_ (i := 12) (N := some 53) (bs 40959 17) rfl rfl (one_of aO.out (by kernel_rfl)) (by decide) (fun K hK => ?_)
       refine GO Try.func54 #[.pointer (some ⟨g, 0, none⟩), .int .i64 ((rd_L3 af ag).length : Int)] ?_
       with_reducible refine (spec_l1Below.calls g s0_0 bS bT ((rd_L3 af ag).length : Int) ae bn bo w0 _ ?side1 ?side2 e8.out).mono ?_
       (case side1 => exact IZ al)
       (case side2 => exact BZ1 HB al)
       rintro e gG ⟨rfl, hi, hb, hk⟩
       have HS1_ := keep_cell hk (ab.2.1) (by first | (rw [add_block]; exact hne364_0) | (show (Addr.add _ _).block ≠ _; rw [add_block]; exact hne364_0) | exact hne364_0 | (dsimp only; exact hne364_0))
       have HS2_ := keep_cell hk (ab.2.2.1) (by first | (rw [add_block]; exact hne365_0) | (show (Addr.add _ _).block ≠ _; rw [add_block]; exact hne365_0) | exact hne365_0 | (dsimp only; exact hne365_0))
       have HS3_ := keep_cell hk (ab.2.2.2.1) (by first | (rw [add_block]; exact hne369_0) | (show (Addr.add _ _).block ≠ _; rw [add_block]; exact hne369_0) | exact hne369_0 | (dsimp only; exact hne369_0))
       have HS4_ := keep_cell hk (ab.2.2.2.2.1) (by first | (rw [add_block]; exact hne369_1) | (show (Addr.add _ _).block ≠ _; rw [add_block]; exact hne369_1) | exact hne369_1 | (dsimp only; exact hne369_1))
       have HS5_ := keep_cell hk (ab.2.2.2.2.2.1) (by first | (rw [add_block]; exact hne369_2) | (show (Addr.add _ _).block ≠ _; rw [add_block]; exact hne369_2) | exact hne369_2 | (dsimp only; exact hne369_2))
       have HS6_ := keep_cell hk (ab.2.2.2.2.2.2.1) (by first | (rw [add_block]; exact hne369_3) | (show (Addr.add _ _).block ≠ _; rw [add_block]; exact hne369_3) | exact hne369_3 | (dsimp only; exact hne369_3))
       have HS7_ := keep_cell hk (ab.2.2.2.2.2.2.2) (by first | (rw [add_block]; exact hne369_4) | (show (Addr.add _ _).block ≠ _; rw [add_block]; exact hne369_4) | exact hne369_4 | (dsimp only; exact hne369_4))
       refine ⟨_, rfl, ?_⟩
       replace HO_357007 := RK1 HO_357007 al hk
       replace aa := KB aa hk az
       replace ad := KB ad hk aA
       replace ac := KB ac hk aC
       replace ay := KB ay hk aP
       replace HK := KY HK hk
       replace HB := AM_ (hb)
       replace al := AM_ (hi)
       (try clear hb)
       (try clear hk)
       (try clear hi)
       refine hK.out _ _ ⟨bc aa.out 0, HS1_, HS2_, HS3_, HS4_, HS5_, HS6_, HS7_⟩ (fun ab => ?_)
       clear hK K
       refine NM 53 ?_
       refine PV 13 (some 54) (bs 49151 17) aO ?_
       refine TX 14 (some 55) (lo 16 17) aO ck ab ?_
       exact NR (hCont (au) _ ⟨ab, (RT HO_357007.out), (BG1 aa), (BG1 ad), (BG1 ac), (BG1 ay), ao.out, GE370.out, aU.out, aP.out, ap.out, av.out, aq.out, aw.out, ar.out, ax.out, (IZ al), (KZ HK), (BZ1 HB al)⟩)
     rintro au a5 ⟨hS_, h0_, h1_, h2_, h3_, h4_, h5_, h6_, h7_, h8_, h9_, h10_, h11_, h12_, h13_, h14_, h15_, h16_, h17_⟩
     have cQ : Aside0 (Kd.R k116 116 a5 w.heap.size (fun _ => True) u357007 an) := ⟨h0_⟩
     have cR : Aside0 (a5.heap[aF]? = some (.cells #[.slice (some aH) af.length aV] 34 (0, 0))) := ⟨h1_⟩
     have cS : Aside0 (a5.heap[aJ]? = some (.cells #[.int .i64 0, .int .i64 0, .int .i64 0, .int .i64 0, .int .i64 0, .int .i64 0, .int .i64 0, .slice none 0 0, .slice none 0 0] 48 (0, 0))) := ⟨h2_⟩
     have cT : Aside0 (a5.heap[ak]? = some (.cells #[.int .i64 (wrap64 (1 + aK)), .int .i64 (wrap64 (1 + aL)), .int .i64 1, .int .i64 aM, .int .i64 ah, .int .i64 1000, .int .i64 0, u357007, .slice none 0 0] 48 (0, 0))) := ⟨h3_⟩
     have cU : Aside0 (a5.heap[au]? = some (.cells #[.int .i64 0, .int .i64 0, .int .i64 0, .int .i64 0, .int .i64 0] 52 (0, 0))) := ⟨h4_⟩
     have cV : Aside0 (w.heap.size ≤ au) := ⟨h5_⟩
     have cW : Aside0 (w0.heap.size ≤ au) := ⟨h6_⟩
     have cX : Aside0 (g ≠ au) := ⟨h7_⟩
     have cY : Aside0 (au ≠ g) := ⟨h8_⟩
     have ge : Aside0 (aF ≠ au) := ⟨h9_⟩
     have c3 : Aside0 (au ≠ aF) := ⟨h10_⟩
     have c4 : Aside0 (aJ ≠ au) := ⟨h11_⟩
     have c5 : Aside0 (au ≠ aJ) := ⟨h12_⟩
     have c6 : Aside0 (ak ≠ au) := ⟨h13_⟩
     have c7 : Aside0 (au ≠ ak) := ⟨h14_⟩
     have c8 : Aside0 (IsS164 w0 a5 g s0_0 bn bo) := ⟨h15_⟩
     have c9 : Aside0 (KeepBut w a5 g none) := ⟨h16_⟩
     have da : Aside0 (Below w0.heap.size w0 a5) := ⟨h17_⟩
     clear HO_357007
     clear aa
     clear ad
     clear ac
     clear al
     clear HK
     clear HB
     clear h0_ h1_ h2_ h3_ h4_ h5_ h6_ h7_ h8_ h9_ h10_ h11_ h12_ h13_ h14_ h15_ h16_ h17_
     have HO_357007 := cQ
     have aa := cR
     have ad := cS
     have ac := cT
     have ay := cU
     have ao := cV
     have GE370 := cW
     have aU := cX
     have aP := cY
     have ap := ge
     have av := c3
     have aq := c4
     have aw := c5
     have ar := c6
     have ax := c7
     have al := c8
     have HK := c9
     have HB := da
     clear cQ cR cS cT cU cV cW cX cY ge c3 c4 c5 c6 c7 c8 c9 da
     have ab : a5.cell? ⟨aF, 0, none⟩ = some (.slice (some aH) af.length aV) ∧ a5.cell? (aH.add (ag).toNat) = some (.slice (some aj) (rd_L3 af ag).length aY) ∧ a5.cell? (aH.add (ag).toNat) = some (.slice (some aj) (rd_L3 af ag).length aY) ∧ a5.cell? (aj.add ((ae).toNat * 5)) = some (.int .i64 ((rd_T52 (rd_L3 af ag) ae).f0)) ∧ a5.cell? ⟨(aj.add ((ae).toNat * 5)).block, (aj.add ((ae).toNat * 5)).off + 1, none⟩ = some (.int .i64 ((rd_T52 (rd_L3 af ag) ae).f1)) ∧ a5.cell? ⟨(aj.add ((ae).toNat * 5)).block, (aj.add ((ae).toNat * 5)).off + 2, none⟩ = some (.int .i64 ((rd_T52 (rd_L3 af ag) ae).f2)) ∧ a5.cell? ⟨(aj.add ((ae).toNat * 5)).block, (aj.add ((ae).toNat * 5)).off + 3, none⟩ = some (.int .i64 ((rd_T52 (rd_L3 af ag) ae).f3)) ∧ a5.cell? ⟨(aj.add ((ae).toNat * 5)).block, (aj.add ((ae).toNat * 5)).off + 4, none⟩ = some (.int .i64 ((rd_T52 (rd_L3 af ag) ae).f4)) := hS_
     refine norm_ (a' := ?_) ?_ ?_
     rotate_left
     ·simp only [putAll, Act.put, List.setIfInBounds_toArray, List.set_cons_zero, List.set_cons_succ]
      rfl
     refine one_ (i := 16) (N := none) (lo 17 17) rfl rfl (one_of aO.out (by kernel_rfl)) (by decide) (fun K hK => ?_)
     have hs44 : a5.cell? ⟨au, 0, none⟩ = some (.int .i64 0) := (blk_cell ay.out 0).trans rfl
     have hfs44 := blk_frozen ay.out 0
     have hns44_0 := ap.out
     have hns44_1 := aq.out
     have hns44_2 := ar.out
     have hms44_0 := av.out
     have hms44_1 := aw.out
     have hms44_2 := ax.out
     have hs45 : a5.cell? ⟨au, 1, none⟩ = some (.int .i64 0) := (blk_cell ay.out 1).trans rfl
     have hfs45 := blk_frozen ay.out 1
     have hns45_0 := ap.out
     have hns45_1 := aq.out
     have hns45_2 := ar.out
     have hms45_0 := av.out
     have hms45_1 := aw.out
     have hms45_2 := ax.out
     have hs46 : a5.cell? ⟨au, 2, none⟩ = some (.int .i64 0) := (blk_cell ay.out 2).trans rfl
     have hfs46 := blk_frozen ay.out 2
     have hns46_0 := ap.out
     have hns46_1 := aq.out
     have hns46_2 := ar.out
     have hms46_0 := av.out
     have hms46_1 := aw.out
     have hms46_2 := ax.out
     have hs47 : a5.cell? ⟨au, 3, none⟩ = some (.int .i64 0) := (blk_cell ay.out 3).trans rfl
     have hfs47 := blk_frozen ay.out 3
     have hns47_0 := ap.out
     have hns47_1 := aq.out
     have hns47_2 := ar.out
     have hms47_0 := av.out
     have hms47_1 := aw.out
     have hms47_2 := ax.out
     have hs48 : a5.cell? ⟨au, 4, none⟩ = some (.int .i64 0) := (blk_cell ay.out 4).trans rfl
     have hfs48 := blk_frozen ay.out 4
     have hns48_0 := ap.out
     have hns48_1 := aq.out
     have hns48_2 := ar.out
     have hms48_0 := av.out
     have hms48_1 := aw.out
     have hms48_2 := ax.out
     refine skip_ (w1 := ?_) (by rfl) rfl ?_ ?_
     rotate_left
     ·go_simp
      rfl
     refine hK.out _ _ ⟨(CF5 ap.out (ab.1)), (CF5 (by first | exact Nat.ne_of_lt (Nat.lt_of_lt_of_le hlt364_0 ao.out) | (rw [add_block]; exact Nat.ne_of_lt (Nat.lt_of_lt_of_le hlt364_0 ao.out)) | (show (Addr.add _ _).block ≠ _; rw [add_block]; exact Nat.ne_of_lt (Nat.lt_of_lt_of_le hlt364_0 ao.out)) | (dsimp only; exact Nat.ne_of_lt (Nat.lt_of_lt_of_le hlt364_0 ao.out))) (ab.2.1)), (CF5 (by first | exact Nat.ne_of_lt (Nat.lt_of_lt_of_le hlt365_0 ao.out) | (rw [add_block]; exact Nat.ne_of_lt (Nat.lt_of_lt_of_le hlt365_0 ao.out)) | (show (Addr.add _ _).block ≠ _; rw [add_block]; exact Nat.ne_of_lt (Nat.lt_of_lt_of_le hlt365_0 ao.out)) | (dsimp only; exact Nat.ne_of_lt (Nat.lt_of_lt_of_le hlt365_0 ao.out))) (ab.2.2.1)), (CF5 (by first | exact Nat.ne_of_lt (Nat.lt_of_lt_of_le hlt369_0 ao.out) | (rw [add_block]; exact Nat.ne_of_lt (Nat.lt_of_lt_of_le hlt369_0 ao.out)) | (show (Addr.add _ _).block ≠ _; rw [add_block]; exact Nat.ne_of_lt (Nat.lt_of_lt_of_le hlt369_0 ao.out)) | (dsimp only; exact Nat.ne_of_lt (Nat.lt_of_lt_of_le hlt369_0 ao.out))) (ab.2.2.2.1)), (CF5 (by first | exact Nat.ne_of_lt (Nat.lt_of_lt_of_le hlt369_1 ao.out) | (rw [add_block]; exact Nat.ne_of_lt (Nat.lt_of_lt_of_le hlt369_1 ao.out)) | (show (Addr.add _ _).block ≠ _; rw [add_block]; exact Nat.ne_of_lt (Nat.lt_of_lt_of_le hlt369_1 ao.out)) | (dsimp only; exact Nat.ne_of_lt (Nat.lt_of_lt_of_le hlt369_1 ao.out))) (ab.2.2.2.2.1)), (CF5 (by first | exact Nat.ne_of_lt (Nat.lt_of_lt_of_le hlt369_2 ao.out) | (rw [add_block]; exact Nat.ne_of_lt (Nat.lt_of_lt_of_le hlt369_2 ao.out)) | (show (Addr.add _ _).block ≠ _; rw [add_block]; exact Nat.ne_of_lt (Nat.lt_of_lt_of_le hlt369_2 ao.out)) | (dsimp only; exact Nat.ne_of_lt (Nat.lt_of_lt_of_le hlt369_2 ao.out))) (ab.2.2.2.2.2.1)), (CF5 (by first | exact Nat.ne_of_lt (Nat.lt_of_lt_of_le hlt369_3 ao.out) | (rw [add_block]; exact Nat.ne_of_lt (Nat.lt_of_lt_of_le hlt369_3 ao.out)) | (show (Addr.add _ _).block ≠ _; rw [add_block]; exact Nat.ne_of_lt (Nat.lt_of_lt_of_le hlt369_3 ao.out)) | (dsimp only; exact Nat.ne_of_lt (Nat.lt_of_lt_of_le hlt369_3 ao.out))) (ab.2.2.2.2.2.2.1)), (CF5 (by first | exact Nat.ne_of_lt (Nat.lt_of_lt_of_le hlt369_4 ao.out) | (rw [add_block]; exact Nat.ne_of_lt (Nat.lt_of_lt_of_le hlt369_4 ao.out)) | (show (Addr.add _ _).block ≠ _; rw [add_block]; exact Nat.ne_of_lt (Nat.lt_of_lt_of_le hlt369_4 ao.out)) | (dsimp only; exact Nat.ne_of_lt (Nat.lt_of_lt_of_le hlt369_4 ao.out))) (ab.2.2.2.2.2.2.2))⟩ (fun ab => ?_)
     clear hK K
     refine done_ (done_of aO.out (by kernel_rfl)) ?_
     have gf := aD.out
     have gg := aB.out
     have gh := aN.out
     have gi := aE.out
     have gj := ar.out
     have gl := ax.out
     have gm := aC.out
     have gn := a8.out
     obtain ⟨dZ, d0, d1, d2, d3, d4, d5, d6, d7, d8, d9, ea, eb, ec, ed, ee, ef, eg⟩ := bk9 ac.out
     have go := av.out
     have gp := ap.out
     have gq := aw.out
     have gr := aq.out
     have gs := aP.out
     have gt := aU.out
     obtain ⟨eh, ei, ej, ek, el, em, en, eo, ep, eq⟩ := bk5 ay.out
     obtain ⟨fg, fh, fi⟩ := Kd.R_slice HO_357007.out
     subst fi
     try go_wp2_with (first | ((with_reducible refine G1 123 rfl ?_); refine GC (some 62) Try.func123 #[.slice fg an.length fh, .agg #[.int .i64 ag, .int .i64 ((rd_T52 (rd_L3 af ag) ae).f2)]] ?_; (with_reducible refine (spec_l5PutRead.calls kj19 _ _ an ag ((rd_T52 (rd_L3 af ag) ae).f2) ce _ ?side1 (Kd.R_reads' HO_357007.out).2.1 gc.out).mono ?_); (case side1 => exact CF HO_357007.out ay.out); rintro e gT ⟨gH, rfl, cp, hb⟩; refine ⟨_, rfl, ?_⟩; have cm := AM_ (Kd.R_lower (Kd.R_new' cp (Kd.R_lt (RF HO_357007.out ay.out))) (KS HK)); replace HO_357007 := AM_ (Kd.R_elder' (RF HO_357007.out ay.out) (Kd.R_base cp) hb); replace aa := AM_ (BF aa.out ap.out hb); replace ad := AM_ (BF ad.out aq.out hb); replace ac := AM_ (BF ac.out ar.out hb); replace ay := AM_ (BP #[.int .i64 ((rd_T52 (rd_L3 af ag) ae).f0), .int .i64 ((rd_T52 (rd_L3 af ag) ae).f1), .int .i64 ((rd_T52 (rd_L3 af ag) ae).f2), .int .i64 ((rd_T52 (rd_L3 af ag) ae).f3), .int .i64 ((rd_T52 (rd_L3 af ag) ae).f4)] ay.out hb); replace HK := KX HK hb; replace HB := BW1 HB al hb; replace al := AM_ (IsS164.below (show IsS164 w0 (((((a5.setCell ⟨au, 0, none⟩ (.int .i64 ((rd_T52 (rd_L3 af ag) ae).f0))).setCell ⟨au, 1, none⟩ (.int .i64 ((rd_T52 (rd_L3 af ag) ae).f1))).setCell ⟨au, 2, none⟩ (.int .i64 ((rd_T52 (rd_L3 af ag) ae).f2))).setCell ⟨au, 3, none⟩ (.int .i64 ((rd_T52 (rd_L3 af ag) ae).f3))).setCell ⟨au, 4, none⟩ (.int .i64 ((rd_T52 (rd_L3 af ag) ae).f4))) g s0_0 bn bo from IZ al) hb); (try clear hb); (try clear cp); obtain ⟨fj, fk, fl⟩ := Kd.R_slice cm.out; subst fl; obtain ⟨er, es, et, eu, ev, ew, ex, ey, ez, eA, eB, eC, eD, eE, eF, eG, eH, eI⟩ := bk9 ac.out; obtain ⟨eJ, eK, eL, eM, eN, eO, eP, eQ, eR, eS⟩ := bk5 ay.out))
     go_roundg kj19
     case measure => have := ci.out; have := cd.out; omega
     case rel => exact ⟨(wrap64 (a6 - 1)), (bn), (bo), (ct), (ce), (.slice fj ce.length fk), (by first | rfl | (simp; done) | (simp [*]; done)), H', ⟨by have := ci.out; have := cd.out; omega⟩, ⟨by (with_reducible repeat (first | apply Kd.R_alloc | apply Kd.R_drewN | apply Kd.R_drew)); exact Kd.R_mono (RF1 (RF1 (Kd.R_types cm.out ac.out (by decide)) (fun _ hk => hk.2)) (fun _ hk => hk.2)) (fun _ hk => trivial)⟩, ⟨BG aa.out aB.out⟩, ⟨BG ad.out aE.out⟩, ⟨BQ ac.out⟩, ⟨IZ al⟩, ⟨KZ HK⟩, ⟨BZ1 HB al⟩⟩

/-! ### spec_l1Once: function 90 -/
def spec_l1Once.f (s0_0 : List Int) (s0_1 : Int) (s0_2 : Int) (a1 : Int) : Option (Bool × Int × Int) := (spec_l1Below.f s0_0 s0_1 s0_2 a1).bind fun bt389 => (some ((bt389.1 == 0), bt389.2.1, bt389.2.2))
theorem spec_l1Once.calls (g : Nat) (s0_0 : List Int) (s0_1 : Int) (s0_2 : Int) (a1 : Int) (r1 : Bool) (r2 : Int) (r3 : Int) (w0 w : World) (hI : IsS164 w0 w g s0_0 s0_1 s0_2) (hB : Below w0.heap.size w0 w) (h : spec_l1Once.f s0_0 s0_1 s0_2 a1 = some (r1, r2, r3)) :
  Calls Try.prog 90 #[.pointer (some ⟨g, 0, none⟩), .int .i64 a1] w fun e w' => e = .returned (.bool r1) ∧ IsS164 w0 w' g s0_0 r2 r3 ∧ Below w0.heap.size w0 w' ∧ KeepBut w w' g none := by
 have aa := AM_ hI
 have HK := AM_ (KeepBut.refl w g none)
 have HL := AM_ hB.size
 clear hI
 have HW0 := AM_ hB.size
 have HB := AM_ hB
 clear hB
 have H : ((spec_l1Below.f s0_0 s0_1 s0_2 a1).bind fun bt389 => (some ((bt389.1 == 0), bt389.2.1, bt389.2.2))) = some (r1, r2, r3) := h
 clear h
 obtain ⟨⟨ab, ac, ad⟩, A3, H⟩ := OB H
 simp only [Option.some.injEq, Prod.mk.injEq] at H
 obtain ⟨rfl, rfl, rfl⟩ := H
 go_enter Try.func90, Try.ntmps90
 go_wp2_with (first | ((with_reducible refine G1 54 rfl ?_); refine GC (some 7) Try.func54 #[.pointer (some ⟨g, 0, none⟩), .int .i64 a1] ?_; (with_reducible refine (spec_l1Below.calls g s0_0 s0_1 s0_2 a1 ab ac ad w0 _ ?side1 ?side2 A3.out).mono ?_); (case side1 => exact IZ aa); (case side2 => exact BZ1 HB aa); rintro e w4 ⟨rfl, hi, hb, hk⟩; refine ⟨_, rfl, ?_⟩; replace HK := KY HK hk; replace HB := AM_ (hb); replace aa := AM_ (hi); (try clear hb)))
 go_ret
 exact ⟨ER, IZ aa, BZ1 HB aa, KZ HK⟩

end Go.Proofs.Ytdgknikgfjhohaa.PFnSchemes
