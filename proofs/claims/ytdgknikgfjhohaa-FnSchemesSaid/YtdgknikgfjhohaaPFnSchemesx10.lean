-- Printed by wip/myprint.py.
import Derived.Test.YtdgknikgfjhohaaPFnSchemesx9
namespace Go.Proofs.Ytdgknikgfjhohaa.PFnSchemes
open Go.RowKit Go.Proofs.YtdgknikgfjhohaaW.PrintWords Go.Proofs.YtdgknikgfjhohaaW.PrintLast Go.Proofs.YtdgknikgfjhohaaW.PrintMore
set_option maxHeartbeats 8000000
set_option maxRecDepth 100000
set_option linter.unusedVariables false
set_option linter.unusedSimpArgs false

/-! ### spec_l5Any: function 91 -/
def spec_l5Any.f (k : Nat) (s0_0 : List Int) (s0_1 : Int) (s0_2 : Int) : Option (Int × Int × Int × Int × Int × Int × Int × (List (S116)) × (List (S103)) × Int × Int) := (spec_l4Store.f k s0_0 s0_1 s0_2).bind fun bt393 => ((spec_l5On.f k s0_0 bt393.2.1 bt393.2.2 bt393.1).bind fun bt398 => ((spec_l1Below.f s0_0 bt398.2.2.2.2.2.2.2.2.2.1 bt398.2.2.2.2.2.2.2.2.2.2 16).bind fun bt414 => (if bt414.1 = 0 then ((spec_l1PickInt.f s0_0 bt414.2.1 bt414.2.2 (([0, 9, 10] : List Int))).bind fun bt420 => (some (bt420.1, bt398.2.1, bt398.2.2.1, bt398.2.2.2.1, bt398.2.2.2.2.1, bt398.2.2.2.2.2.1, bt398.2.2.2.2.2.2.1, bt398.2.2.2.2.2.2.2.1, bt398.2.2.2.2.2.2.2.2.1, bt420.2.1, bt420.2.2))) else (if bt414.1 = 1 then ((spec_l1PickInt.f s0_0 bt414.2.1 bt414.2.2 (([0, 5] : List Int))).bind fun bt426 => (some (bt398.1, bt426.1, bt398.2.2.1, bt398.2.2.2.1, bt398.2.2.2.2.1, bt398.2.2.2.2.2.1, bt398.2.2.2.2.2.2.1, bt398.2.2.2.2.2.2.2.1, bt398.2.2.2.2.2.2.2.2.1, bt426.2.1, bt426.2.2))) else (if bt414.1 = 2 then ((spec_l1Below.f s0_0 bt414.2.1 bt414.2.2 5).bind fun bt429 => ((spec_l1Below.f s0_0 bt429.2.1 bt429.2.2 3).bind fun bt432 => (some (bt398.1, bt398.2.1, bt429.1, bt398.2.2.2.1, bt398.2.2.2.2.1, bt398.2.2.2.2.2.1, bt432.1, bt398.2.2.2.2.2.2.2.1, bt398.2.2.2.2.2.2.2.2.1, bt432.2.1, bt432.2.2)))) else (if bt414.1 = 3 then ((spec_l1PickInt.f s0_0 bt414.2.1 bt414.2.2 (([(-1), 999, 1000] : List Int))).bind fun bt438 => ((spec_l1PickInt.f s0_0 bt438.2.1 bt438.2.2 (([0, 1, 1000, 1001] : List Int))).bind fun bt444 => (some (bt398.1, bt398.2.1, bt398.2.2.1, bt398.2.2.2.1, bt438.1, bt444.1, bt398.2.2.2.2.2.2.1, bt398.2.2.2.2.2.2.2.1, bt398.2.2.2.2.2.2.2.2.1, bt444.2.1, bt444.2.2)))) else (if bt414.1 = 4 then ((spec_l1Below.f s0_0 bt414.2.1 bt414.2.2 7).bind fun bt447 => ((spec_l1PickInt.f s0_0 bt447.2.1 bt447.2.2 (([(-1), 0, 3, 1000] : List Int))).bind fun bt453 => (if bt398.2.2.2.2.2.2.2.1.length < 8796093022208 then (some (bt398.1, bt398.2.1, bt398.2.2.1, bt398.2.2.2.1, bt398.2.2.2.2.1, bt398.2.2.2.2.2.1, bt398.2.2.2.2.2.2.1, (bt398.2.2.2.2.2.2.2.1 ++ [(⟨bt447.1, bt453.1⟩ : S116)]), bt398.2.2.2.2.2.2.2.2.1, bt453.2.1, bt453.2.2)) else (none)))) else (if bt414.1 = 5 then ((spec_l1Below.f s0_0 bt414.2.1 bt414.2.2 7).bind fun bt459 => ((spec_l1PickInt.f s0_0 bt459.2.1 bt459.2.2 (([(-2), 100, 0] : List Int))).bind fun bt465 => (if bt398.2.2.2.2.2.2.2.2.1.length < 8796093022208 then (some (bt398.1, bt398.2.1, bt398.2.2.1, bt398.2.2.2.1, bt398.2.2.2.2.1, bt398.2.2.2.2.2.1, bt398.2.2.2.2.2.2.1, bt398.2.2.2.2.2.2.2.1, (bt398.2.2.2.2.2.2.2.2.1 ++ [(⟨bt459.1, bt465.1⟩ : S103)]), bt465.2.1, bt465.2.2)) else (none)))) else (some (bt398.1, bt398.2.1, bt398.2.2.1, bt398.2.2.2.1, bt398.2.2.2.2.1, bt398.2.2.2.2.2.1, bt398.2.2.2.2.2.2.1, bt398.2.2.2.2.2.2.2.1, bt398.2.2.2.2.2.2.2.2.1, bt414.2.1, bt414.2.2))))))))))
theorem spec_l5Any.mono : ∀ a0 a1 a2 k, LeO (spec_l5Any.f k a0 a1 a2) (spec_l5Any.f (k + 1) a0 a1 a2) := by
 intro a0 a1 a2 k
 unfold spec_l5Any.f
 repeat' (with_reducible first | exact spec_l4Store.mono .. | exact spec_l5On.mono .. | exact LeO.refl _ | exact LeO.none _ | refine LeO.ite ?_ ?_ | refine LeO.bind ?_ (fun _ => ?_))
def spec_l5Any.T14 : Bool × List (List Nat × List Nat) := (true, [([], []), ([0], [0]), ([], []), ([2], [2]), ([], []), ([], []), ([4, 5, 3], [4, 5]), ([3, 6], [3, 6]), ([7], [7]), ([1, 8, 6], [1, 8]), ([0, 1, 2, 3, 4, 5, 6, 7, 8, 9], []), ([10, 9, 9, 0, 1, 2, 3, 4, 5, 6, 7, 8, 9], [9, 10])])
def spec_l5Any.B14 : List Nat := [0, 1, 0, 4, 0, 0, 60, 124, 252, 511, 1023, 2047]
theorem spec_l5Any.tab14 : rtab .any (opsOf Try.f91 14) = spec_l5Any.T14 := by kernel_rfl
theorem spec_l5Any.bits14 : waitsOk spec_l5Any.T14.2 spec_l5Any.B14 = true := by kernel_rfl
def spec_l5Any.T16 : Bool × List (List Nat × List Nat) := (true, [([], []), ([0], [0]), ([], []), ([2], [2]), ([], []), ([], []), ([4, 5, 3], [4, 5]), ([3, 6], [3, 6]), ([7], [7]), ([1, 8, 6], [1, 8]), ([0, 1, 2, 3, 4, 5, 6, 7, 8, 9], []), ([10, 9, 9, 0, 1, 2, 3, 4, 5, 6, 7, 8, 9], [9, 10])])
def spec_l5Any.B16 : List Nat := [0, 1, 0, 4, 0, 0, 60, 124, 252, 511, 1023, 2047]
theorem spec_l5Any.tab16 : rtab .any (opsOf Try.f91 16) = spec_l5Any.T16 := by kernel_rfl
theorem spec_l5Any.bits16 : waitsOk spec_l5Any.T16.2 spec_l5Any.B16 = true := by kernel_rfl
theorem spec_l5Any.calls (k : Nat) (g : Nat) (s0_0 : List Int) (s0_1 : Int) (s0_2 : Int) (r1 : Int) (r2 : Int) (r3 : Int) (r4 : Int) (r5 : Int) (r6 : Int) (r7 : Int) (r8 : List (S116)) (r9 : List (S103)) (r10 : Int) (r11 : Int) (w0 w : World) (hI : IsS164 w0 w g s0_0 s0_1 s0_2) (hB : Below w0.heap.size w0 w) (h : spec_l5Any.f k s0_0 s0_1 s0_2 = some (r1, r2, r3, r4, r5, r6, r7, r8, r9, r10, r11)) :
  Calls Try.prog 91 #[.pointer (some ⟨g, 0, none⟩)] w fun e w' => ∃ iA iB : Value, e = .returned (.agg #[.int .i64 r1, .int .i64 r2, .int .i64 r3, .int .i64 r4, .int .i64 r5, .int .i64 r6, .int .i64 r7, iA, iB]) ∧ Kd.R k116 116 w' w.heap.size (fun _ => True) iA r8 ∧ Kd.R k103 103 w' w.heap.size (fun _ => True) iB r9 ∧ IsS164 w0 w' g s0_0 r10 r11 ∧ Below w0.heap.size w0 w' ∧ KeepBut w w' g none := by
 have iR := Try.underlying48
 have iC := Try.underlying116
 have iD := Try.underlying103
 have ag := AM_ hI
 have HK := AM_ (KeepBut.refl w g none)
 have HL := AM_ hB.size
 clear hI
 have HW0 := AM_ hB.size
 have HB := AM_ hB
 clear hB
 have H : ((spec_l4Store.f k s0_0 s0_1 s0_2).bind fun bt393 => ((spec_l5On.f k s0_0 bt393.2.1 bt393.2.2 bt393.1).bind fun bt398 => ((spec_l1Below.f s0_0 bt398.2.2.2.2.2.2.2.2.2.1 bt398.2.2.2.2.2.2.2.2.2.2 16).bind fun bt414 => (if bt414.1 = 0 then ((spec_l1PickInt.f s0_0 bt414.2.1 bt414.2.2 (([0, 9, 10] : List Int))).bind fun bt420 => (some (bt420.1, bt398.2.1, bt398.2.2.1, bt398.2.2.2.1, bt398.2.2.2.2.1, bt398.2.2.2.2.2.1, bt398.2.2.2.2.2.2.1, bt398.2.2.2.2.2.2.2.1, bt398.2.2.2.2.2.2.2.2.1, bt420.2.1, bt420.2.2))) else (if bt414.1 = 1 then ((spec_l1PickInt.f s0_0 bt414.2.1 bt414.2.2 (([0, 5] : List Int))).bind fun bt426 => (some (bt398.1, bt426.1, bt398.2.2.1, bt398.2.2.2.1, bt398.2.2.2.2.1, bt398.2.2.2.2.2.1, bt398.2.2.2.2.2.2.1, bt398.2.2.2.2.2.2.2.1, bt398.2.2.2.2.2.2.2.2.1, bt426.2.1, bt426.2.2))) else (if bt414.1 = 2 then ((spec_l1Below.f s0_0 bt414.2.1 bt414.2.2 5).bind fun bt429 => ((spec_l1Below.f s0_0 bt429.2.1 bt429.2.2 3).bind fun bt432 => (some (bt398.1, bt398.2.1, bt429.1, bt398.2.2.2.1, bt398.2.2.2.2.1, bt398.2.2.2.2.2.1, bt432.1, bt398.2.2.2.2.2.2.2.1, bt398.2.2.2.2.2.2.2.2.1, bt432.2.1, bt432.2.2)))) else (if bt414.1 = 3 then ((spec_l1PickInt.f s0_0 bt414.2.1 bt414.2.2 (([(-1), 999, 1000] : List Int))).bind fun bt438 => ((spec_l1PickInt.f s0_0 bt438.2.1 bt438.2.2 (([0, 1, 1000, 1001] : List Int))).bind fun bt444 => (some (bt398.1, bt398.2.1, bt398.2.2.1, bt398.2.2.2.1, bt438.1, bt444.1, bt398.2.2.2.2.2.2.1, bt398.2.2.2.2.2.2.2.1, bt398.2.2.2.2.2.2.2.2.1, bt444.2.1, bt444.2.2)))) else (if bt414.1 = 4 then ((spec_l1Below.f s0_0 bt414.2.1 bt414.2.2 7).bind fun bt447 => ((spec_l1PickInt.f s0_0 bt447.2.1 bt447.2.2 (([(-1), 0, 3, 1000] : List Int))).bind fun bt453 => (if bt398.2.2.2.2.2.2.2.1.length < 8796093022208 then (some (bt398.1, bt398.2.1, bt398.2.2.1, bt398.2.2.2.1, bt398.2.2.2.2.1, bt398.2.2.2.2.2.1, bt398.2.2.2.2.2.2.1, (bt398.2.2.2.2.2.2.2.1 ++ [(⟨bt447.1, bt453.1⟩ : S116)]), bt398.2.2.2.2.2.2.2.2.1, bt453.2.1, bt453.2.2)) else (none)))) else (if bt414.1 = 5 then ((spec_l1Below.f s0_0 bt414.2.1 bt414.2.2 7).bind fun bt459 => ((spec_l1PickInt.f s0_0 bt459.2.1 bt459.2.2 (([(-2), 100, 0] : List Int))).bind fun bt465 => (if bt398.2.2.2.2.2.2.2.2.1.length < 8796093022208 then (some (bt398.1, bt398.2.1, bt398.2.2.1, bt398.2.2.2.1, bt398.2.2.2.2.1, bt398.2.2.2.2.2.1, bt398.2.2.2.2.2.2.1, bt398.2.2.2.2.2.2.2.1, (bt398.2.2.2.2.2.2.2.2.1 ++ [(⟨bt459.1, bt465.1⟩ : S103)]), bt465.2.1, bt465.2.2)) else (none)))) else (some (bt398.1, bt398.2.1, bt398.2.2.1, bt398.2.2.2.1, bt398.2.2.2.2.1, bt398.2.2.2.2.2.1, bt398.2.2.2.2.2.2.1, bt398.2.2.2.2.2.2.2.1, bt398.2.2.2.2.2.2.2.2.1, bt414.2.1, bt414.2.2))))))))))) = some (r1, r2, r3, r4, r5, r6, r7, r8, r9, r10, r11) := h
 clear h
 obtain ⟨⟨aM, bZ, b0⟩, A2, H⟩ := OB H
 obtain ⟨⟨aw, ax, aA, av, aB, ay, az, ao, ap, ba, bb⟩, A3, H⟩ := OB H
 obtain ⟨⟨aq, aT, aU⟩, A4, H⟩ := OB H
 go_enter Try.func91, Try.ntmps91
 go_upto_if 10 with (first | ((with_reducible refine G2 2 rfl ?_); refine BX 2 #[.int .i64 0, .int .i64 0, .int .i64 0, .int .i64 0, .int .i64 0, .int .i64 0, .int .i64 0, .slice none 0 0, .slice none 0 0] 48 ?_; intro aG hg iS hbox hb; replace HB := BW1 HB ag hb; have ab := AM_ (hbox); have iE := GK HK hg; have GE392 := GE1 HW0 HK hg; replace HK := KX HK hb; have aC := NI ag hg; have ah := NJ ag hg; replace ag := IB ag hb; clear hb hbox hg) | ((with_reducible refine G1 121 rfl ?_); refine GC (some 6) Try.func121 #[.pointer (some ⟨g, 0, none⟩)] ?_; (with_reducible refine (spec_l4Store.calls k g s0_0 s0_1 s0_2 aM bZ b0 w0 _ ?side1 ?side2 A2.out).mono ?_); (case side1 => exact IZ ag); (case side2 => exact BZ1 HB ag); rintro e iT ⟨iU, rfl, cb, hi, hb, hk⟩; refine ⟨_, rfl, ?_⟩; replace ab := KB ab hk ah; have ae := AM_ (Kd.S_lower cb (KS HK)); replace HK := KY HK hk; replace HB := AM_ (hb); replace ag := AM_ (hi); (try clear hb); (try clear cb); obtain ⟨aV, aW, cc⟩ := Kd.S_slice ae.out; subst cc) | ((with_reducible refine G1 89 rfl ?_); refine GC (some 7) Try.func89 #[.pointer (some ⟨g, 0, none⟩), .agg #[.slice aV aM.length aW]] ?_; (with_reducible refine (spec_l5On.calls k g s0_0 bZ b0 _ _ aM aw ax aA av aB ay az ao ap ba bb w0 _ ?side1 ?side2 ?side3 (Kd.S_reads' ae.out).2.1 A3.out).mono ?_); (case side1 => exact IZ ag); (case side2 => exact BZ1 HB ag); (case side3 => exact Kd.C_foot_own ((Kd.S_R (IsS164.apartS (show IsS164 w0 _ g s0_0 bZ b0 from IZ ag) (ST ae.out) (by decide)))) (fun _ h_ => h_.2)); rintro e iV ⟨iW, iX, rfl, cb, iF, hi, hb, hk⟩; refine ⟨_, rfl, ?_⟩; replace ab := KB ab hk ah; replace ae := SK1 ae ag hk; have ac := AM_ (Kd.R_lower cb (KS HK)); have ad := AM_ (Kd.R_lower iF (KS HK)); replace HK := KY HK hk; replace HB := AM_ (hb); replace ag := AM_ (hi); (try clear hb); (try clear cb); (try clear iF)) | ((with_reducible refine G2 3 rfl ?_); refine BX 3 #[.int .i64 0, .int .i64 0, .int .i64 0, .int .i64 0, .int .i64 0, .int .i64 0, .int .i64 0, .slice none 0 0, .slice none 0 0] 48 ?_; intro af hg iY hbox hb; replace ae := AM_ (Kd.S_below (ST ae.out) hb); replace ac := RB ac hb; replace ad := RB ad hb; replace HB := BW1 HB ag hb; have aa := AM_ (hbox); have iG := GK HK hg; have GE413 := GE1 HW0 HK hg; replace HK := KX HK hb; have aI := NP ab hg; have aK := NQ ab hg; replace ab := BV ab hb; have bL := NI ag hg; have an := NJ ag hg; replace ag := IB ag hb; clear hb hbox hg; have hQ := aK.out; have hR := aI.out; have hS := an.out; have hT := bL.out; obtain ⟨cd, ce, cf, cg, ch, ci, cj, ck, cl, cm, cn, co, cp, cq, cr, ct, cu, cv⟩ := bk9 aa.out; obtain ⟨ai, aj, cw⟩ := Kd.R_slice ac.out; subst cw; obtain ⟨ak, al, cx⟩ := Kd.R_slice ad.out; subst cx) | ((with_reducible refine G1 54 rfl ?_); refine GC (some 9) Try.func54 #[.pointer (some ⟨g, 0, none⟩), .int .i64 16] ?_; (with_reducible refine (spec_l1Below.calls g s0_0 ba bb 16 aq aT aU w0 _ ?side1 ?side2 A4.out).mono ?_); (case side1 => exact IZ ag); (case side2 => exact BZ1 HB ag); rintro e cy ⟨rfl, hi, hb, hk⟩; refine ⟨_, rfl, ?_⟩; replace ab := KB ab hk ah; replace ae := AM_ (Kd.S_mono (Kd.S_keep (IsS164.apartS (show IsS164 w0 _ g s0_0 ba bb from IZ ag) (SF ae.out aa.out) (by decide)) hk (fun _ h => h.2)) (fun _ h => h.1)); replace ac := AM_ (Kd.R_mono (Kd.R_keep (IsS164.apart (show IsS164 w0 _ g s0_0 ba bb from IZ ag) (RF ac.out aa.out) (by decide)) hk (fun _ h => h.2)) (fun _ h => h.1)); replace ad := AM_ (Kd.R_mono (Kd.R_keep (IsS164.apart (show IsS164 w0 _ g s0_0 ba bb from IZ ag) (RF ad.out aa.out) (by decide)) hk (fun _ h => h.2)) (fun _ h => h.1)); replace aa := AM_ (KeepBut.blk hk (g' := af) (o := .cells #[.int .i64 aw, .int .i64 ax, .int .i64 aA, .int .i64 av, .int .i64 aB, .int .i64 ay, .int .i64 az, .slice ai ao.length aj, .slice ak ap.length al] 48 (0, 0)) (by (with_reducible repeat (first | refine blk_drewN ?_ _ | refine blk_drew ?_ | refine blk_alloc ?_ _)); apply BP9; (with_reducible repeat (first | refine blk_drewN ?_ _ | refine blk_drew ?_ | refine blk_alloc ?_ _)); exact aa.out) an.out (by simp)); replace HK := KY HK hk; replace HB := AM_ (hb); replace ag := AM_ (hi); (try clear hb)))
 by_cases c5 : aq = 0
 ·rw [if_pos c5] at H
  have hU : (aq == 0) = true := beq_iff_eq.mpr c5
  have c5b1 : (aq != 0) = false := bne_eq_false_iff_eq.mpr c5
  clear c5
  obtain ⟨cz, bd⟩ : ∃ y_ : List Int, y_ = (([0, 9, 10] : List Int)) := ⟨_, rfl⟩
  rw [← bd] at H
  have bP := AM_ bd
  clear bd
  obtain ⟨⟨cA, hV, hW⟩, A6, H⟩ := OB H
  simp only [Option.some.injEq, Prod.mk.injEq] at H
  obtain ⟨rfl, rfl, rfl, rfl, rfl, rfl, rfl, rfl, rfl, rfl, rfl⟩ := H
  go_wp2_with (first | ((with_reducible refine G2 13 rfl ?_); refine Kd.R_lit (Kd.int .i64) _ 3 ?hg (N := 13) ?hd (xs := ([0, 9, 10] : List Int)) (inner := [.int .i64 0, .int .i64 9, .int .i64 10]) (ok := fun _ => True) (okp := fun _ => True) ?hr ?hp (fun _ hk => hk) trivial (Below.refl _ _) (Nat.le_refl _) (by simp) ?_; (case hd => rfl); (case hg => rfl); (case hr => first | (go_simp; done) | (go_simp; rfl)); (case hp => exact (Reps.one (show Kd.M (Kd.int .i64) _ _ _ 0 [.int .i64 0] from rfl) (Reps.one (show Kd.M (Kd.int .i64) _ _ _ 9 [.int .i64 9] from rfl) (Reps.one (show Kd.M (Kd.int .i64) _ _ _ 10 [.int .i64 10] from rfl) (Reps.none _ _))))); intro iZ jk be hb hg_ hnew_; clear hg_ hnew_; (first | rw [← bP.out] at be | (simp only [Int.reduceToNat] at be; rw [← bP.out] at be)); replace ae := AM_ (Kd.S_below (ST ae.out) hb); replace ac := RB ac hb; replace ad := RB ad hb; have aN := AM_ (Kd.R_lower be (KS HK)); replace ab := BV ab hb; replace aa := BV aa hb; replace HK := KX HK hb; replace HB := BW1 HB ag hb; replace ag := IB ag hb; clear hb be; obtain ⟨hX, hY, hZ⟩ := Kd.R_slice aN.out; subst hZ) | ((with_reducible refine G1 98 rfl ?_); refine GC (some 14) Try.func98 #[.pointer (some ⟨g, 0, none⟩), .slice hX cz.length hY] ?_; (with_reducible refine (spec_l1PickInt.calls g s0_0 aT aU _ _ cz cA hV hW w0 _ ?side1 ?side2 (CRR aN) (Kd.R_reads' aN.out).2.1 ?side5 A6.out).mono ?_); (case side1 => exact IZ ag); (case side2 => exact BZ1 HB ag); (case side5 => exact far_slice (IsS164.own_ne ag.out aN.out (by decide))); rintro e jl ⟨rfl, hi, hb, hk⟩; refine ⟨_, rfl, ?_⟩; replace ab := KB ab hk ah; replace ae := SK1 ae ag hk; replace ac := RK1 ac ag hk; replace ad := RK1 ad ag hk; replace aa := KB aa hk an; replace aN := RK1 aN ag hk; replace HK := KY HK hk; replace HB := AM_ (hb); replace ag := AM_ (hi); (try clear hb); obtain ⟨eK, eL, eM, eN, eO, eP, eQ, eR, eS, eT, eU, eV, eW, eX, eY, eZ, e0, e1⟩ := bk9 aa.out; have iH := ah.out; have iI := aC.out; obtain ⟨e2, e3, e4, e5, e6, e7, e8, e9, fa, fb, fc, fd, fe, ff, fg, fh, fi, fj⟩ := bk9 ab.out))
  refine bodyPost_ret (results_cell_row rfl _ _ aG 48 #[.int .i64 cA, .int .i64 ax, .int .i64 aA, .int .i64 av, .int .i64 aB, .int .i64 ay, .int .i64 az, .slice ai ao.length aj, .slice ak ap.length al] (0, 0) _ rfl (by (with_reducible repeat (first | refine blk_drewN ?_ _ | refine blk_drew ?_ | refine blk_alloc ?_ _)); apply BP9; exact BG1 ab) Try.underlying48 rfl (by kernel_rfl)) rfl ?_
  exact ⟨_, _, ER, by (with_reducible repeat (first | apply Kd.R_alloc | apply Kd.R_drewN | apply Kd.R_drew)); exact Kd.R_mono (RF9 (RF1 (Kd.R_types (Kd.R_types ac.out aa.out (by decide)) ab.out (by decide)) (fun _ hk => hk.1.2)) (fun _ hk => hk.2)) (fun _ hk => trivial), by (with_reducible repeat (first | apply Kd.R_alloc | apply Kd.R_drewN | apply Kd.R_drew)); exact Kd.R_mono (RF9 (RF1 (Kd.R_types (Kd.R_types ad.out aa.out (by decide)) ab.out (by decide)) (fun _ hk => hk.1.2)) (fun _ hk => hk.2)) (fun _ hk => trivial), IZ ag, BZ1 HB ag, KZ HK⟩
 rw [if_neg c5] at H
 have hU : (aq == 0) = false := beq_eq_false_iff_ne.mpr c5
 have c5b1 : (aq != 0) = true := bne_iff_ne.mpr c5
 by_cases b1 : aq = 1
 ·rw [if_pos b1] at H
  have cB : (aq == 1) = true := beq_iff_eq.mpr b1
  have c25b1 : (aq != 1) = false := bne_eq_false_iff_eq.mpr b1
  clear b1
  obtain ⟨cC, bf⟩ : ∃ y_ : List Int, y_ = (([0, 5] : List Int)) := ⟨_, rfl⟩
  rw [← bf] at H
  have bQ := AM_ bf
  clear bf
  obtain ⟨⟨cD, h0, h1⟩, i0, H⟩ := OB H
  simp only [Option.some.injEq, Prod.mk.injEq] at H
  obtain ⟨rfl, rfl, rfl, rfl, rfl, rfl, rfl, rfl, rfl, rfl, rfl⟩ := H
  go_wp2_with (first | ((with_reducible refine G2 19 rfl ?_); refine Kd.R_lit (Kd.int .i64) _ 3 ?hg (N := 19) ?hd (xs := ([0, 5] : List Int)) (inner := [.int .i64 0, .int .i64 5]) (ok := fun _ => True) (okp := fun _ => True) ?hr ?hp (fun _ hk => hk) trivial (Below.refl _ _) (Nat.le_refl _) (by simp) ?_; (case hd => rfl); (case hg => rfl); (case hr => first | (go_simp; done) | (go_simp; rfl)); (case hp => exact (Reps.one (show Kd.M (Kd.int .i64) _ _ _ 0 [.int .i64 0] from rfl) (Reps.one (show Kd.M (Kd.int .i64) _ _ _ 5 [.int .i64 5] from rfl) (Reps.none _ _)))); intro i1 jm bg hb hg_ hnew_; clear hg_ hnew_; (first | rw [← bQ.out] at bg | (simp only [Int.reduceToNat] at bg; rw [← bQ.out] at bg)); replace ae := AM_ (Kd.S_below (ST ae.out) hb); replace ac := RB ac hb; replace ad := RB ad hb; have aQ := AM_ (Kd.R_lower bg (KS HK)); replace ab := BV ab hb; replace aa := BV aa hb; replace HK := KX HK hb; replace HB := BW1 HB ag hb; replace ag := IB ag hb; clear hb bg; obtain ⟨h2, h3, h4⟩ := Kd.R_slice aQ.out; subst h4) | ((with_reducible refine G1 98 rfl ?_); refine GC (some 20) Try.func98 #[.pointer (some ⟨g, 0, none⟩), .slice h2 cC.length h3] ?_; (with_reducible refine (spec_l1PickInt.calls g s0_0 aT aU _ _ cC cD h0 h1 w0 _ ?side1 ?side2 (CRR aQ) (Kd.R_reads' aQ.out).2.1 ?side5 i0.out).mono ?_); (case side1 => exact IZ ag); (case side2 => exact BZ1 HB ag); (case side5 => exact far_slice (IsS164.own_ne ag.out aQ.out (by decide))); rintro e jn ⟨rfl, hi, hb, hk⟩; refine ⟨_, rfl, ?_⟩; replace ab := KB ab hk ah; replace ae := SK1 ae ag hk; replace ac := RK1 ac ag hk; replace ad := RK1 ad ag hk; replace aa := KB aa hk an; replace aQ := RK1 aQ ag hk; replace HK := KY HK hk; replace HB := AM_ (hb); replace ag := AM_ (hi); (try clear hb); obtain ⟨fk, fl, fm, fn, fo, fp, fq, fr, fs, ft, fu, fv, fw, fx, fy, fz, fA, fB⟩ := bk9 aa.out; have iJ := ah.out; have iK := aC.out; obtain ⟨fC, fD, fE, fF, fG, fH, fI, fJ, fK, fL, fM, fN, fO, fP, fQ, fR, fS, fT⟩ := bk9 ab.out))
  refine bodyPost_ret (results_cell_row rfl _ _ aG 48 #[.int .i64 aw, .int .i64 cD, .int .i64 aA, .int .i64 av, .int .i64 aB, .int .i64 ay, .int .i64 az, .slice ai ao.length aj, .slice ak ap.length al] (0, 0) _ rfl (by (with_reducible repeat (first | refine blk_drewN ?_ _ | refine blk_drew ?_ | refine blk_alloc ?_ _)); apply BP9; exact BG1 ab) Try.underlying48 rfl (by kernel_rfl)) rfl ?_
  exact ⟨_, _, ER, by (with_reducible repeat (first | apply Kd.R_alloc | apply Kd.R_drewN | apply Kd.R_drew)); exact Kd.R_mono (RF9 (RF1 (Kd.R_types (Kd.R_types ac.out aa.out (by decide)) ab.out (by decide)) (fun _ hk => hk.1.2)) (fun _ hk => hk.2)) (fun _ hk => trivial), by (with_reducible repeat (first | apply Kd.R_alloc | apply Kd.R_drewN | apply Kd.R_drew)); exact Kd.R_mono (RF9 (RF1 (Kd.R_types (Kd.R_types ad.out aa.out (by decide)) ab.out (by decide)) (fun _ hk => hk.1.2)) (fun _ hk => hk.2)) (fun _ hk => trivial), IZ ag, BZ1 HB ag, KZ HK⟩
 rw [if_neg b1] at H
 have cB : (aq == 1) = false := beq_eq_false_iff_ne.mpr b1
 have c25b1 : (aq != 1) = true := bne_iff_ne.mpr b1
 by_cases b2 : aq = 2
 ·rw [if_pos b2] at H
  have cE : (aq == 2) = true := beq_iff_eq.mpr b2
  have c45b1 : (aq != 2) = false := bne_eq_false_iff_eq.mpr b2
  clear b2
  obtain ⟨⟨b3, bh, bi⟩, i2, H⟩ := OB H
  obtain ⟨⟨cF, h5, h6⟩, i3, H⟩ := OB H
  simp only [Option.some.injEq, Prod.mk.injEq] at H
  obtain ⟨rfl, rfl, rfl, rfl, rfl, rfl, rfl, rfl, rfl, rfl, rfl⟩ := H
  go_wp2_with (first | ((with_reducible refine G1 54 rfl ?_); refine GC (some 25) Try.func54 #[.pointer (some ⟨g, 0, none⟩), .int .i64 5] ?_; (with_reducible refine (spec_l1Below.calls g s0_0 aT aU 5 b3 bh bi w0 _ ?side1 ?side2 i2.out).mono ?_); (case side1 => exact IZ ag); (case side2 => exact BZ1 HB ag); rintro e jo ⟨rfl, hi, hb, hk⟩; refine ⟨_, rfl, ?_⟩; replace ab := KB ab hk ah; replace ae := SK1 ae ag hk; replace ac := RK1 ac ag hk; replace ad := RK1 ad ag hk; replace aa := KB aa hk an; replace HK := KY HK hk; replace HB := AM_ (hb); replace ag := AM_ (hi); (try clear hb); obtain ⟨fU, fV, fW, fX, fY, fZ, f0, f1, f2, f3, f4, f5, f6, f7, f8, f9, ga, gb⟩ := bk9 aa.out) | ((with_reducible refine G1 54 rfl ?_); refine GC (some 28) Try.func54 #[.pointer (some ⟨g, 0, none⟩), .int .i64 3] ?_; (with_reducible refine (spec_l1Below.calls g s0_0 bh bi 3 cF h5 h6 w0 _ ?side1 ?side2 i3.out).mono ?_); (case side1 => exact IZ ag); (case side2 => exact BZ1 HB ag); rintro e jp ⟨rfl, hi, hb, hk⟩; refine ⟨_, rfl, ?_⟩; replace ab := KB ab hk ah; replace ae := AM_ (Kd.S_mono (Kd.S_keep (IsS164.apartS (show IsS164 w0 _ g s0_0 bh bi from IZ ag) (SF ae.out aa.out) (by decide)) hk (fun _ h => h.2)) (fun _ h => h.1)); replace ac := AM_ (Kd.R_mono (Kd.R_keep (IsS164.apart (show IsS164 w0 _ g s0_0 bh bi from IZ ag) (RF ac.out aa.out) (by decide)) hk (fun _ h => h.2)) (fun _ h => h.1)); replace ad := AM_ (Kd.R_mono (Kd.R_keep (IsS164.apart (show IsS164 w0 _ g s0_0 bh bi from IZ ag) (RF ad.out aa.out) (by decide)) hk (fun _ h => h.2)) (fun _ h => h.1)); replace aa := AM_ (KeepBut.blk hk (g' := af) (o := .cells #[.int .i64 aw, .int .i64 ax, .int .i64 b3, .int .i64 av, .int .i64 aB, .int .i64 ay, .int .i64 az, .slice ai ao.length aj, .slice ak ap.length al] 48 (0, 0)) (by (with_reducible repeat (first | refine blk_drewN ?_ _ | refine blk_drew ?_ | refine blk_alloc ?_ _)); refine blk_put (cs := #[.int .i64 aw, .int .i64 ax, .int .i64 aA, .int .i64 av, .int .i64 aB, .int .i64 ay, .int .i64 az, .slice ai ao.length aj, .slice ak ap.length al]) ?_ 2 _ rfl; (with_reducible repeat (first | refine blk_drewN ?_ _ | refine blk_drew ?_ | refine blk_alloc ?_ _)); exact aa.out) an.out (by simp)); replace HK := KY HK hk; replace HB := AM_ (hb); replace ag := AM_ (hi); (try clear hb); obtain ⟨gc, ge, gf, gg, gh, gi, gj, gk, gl, gm, gn, go, gp, gq, gr, gs, gt, gu⟩ := bk9 aa.out; have iL := ah.out; have iM := aC.out; obtain ⟨gv, gw, gx, gy, gz, gA, gB, gC, gD, gE, gF, gG, gH, gI, gJ, gK, gL, gM⟩ := bk9 ab.out))
  refine bodyPost_ret (results_cell_row rfl _ _ aG 48 #[.int .i64 aw, .int .i64 ax, .int .i64 b3, .int .i64 av, .int .i64 aB, .int .i64 ay, .int .i64 cF, .slice ai ao.length aj, .slice ak ap.length al] (0, 0) _ rfl (by (with_reducible repeat (first | refine blk_drewN ?_ _ | refine blk_drew ?_ | refine blk_alloc ?_ _)); apply BP9; exact BG1 ab) Try.underlying48 rfl (by kernel_rfl)) rfl ?_
  exact ⟨_, _, ER, by (with_reducible repeat (first | apply Kd.R_alloc | apply Kd.R_drewN | apply Kd.R_drew)); exact Kd.R_mono (RF9 (RF1 (Kd.R_types (Kd.R_types ac.out aa.out (by decide)) ab.out (by decide)) (fun _ hk => hk.1.2)) (fun _ hk => hk.2)) (fun _ hk => trivial), by (with_reducible repeat (first | apply Kd.R_alloc | apply Kd.R_drewN | apply Kd.R_drew)); exact Kd.R_mono (RF9 (RF1 (Kd.R_types (Kd.R_types ad.out aa.out (by decide)) ab.out (by decide)) (fun _ hk => hk.1.2)) (fun _ hk => hk.2)) (fun _ hk => trivial), IZ ag, BZ1 HB ag, KZ HK⟩
 rw [if_neg b2] at H
 have cE : (aq == 2) = false := beq_eq_false_iff_ne.mpr b2
 have c45b1 : (aq != 2) = true := bne_iff_ne.mpr b2
 by_cases b4 : aq = 3
 ·rw [if_pos b4] at H
  have cG : (aq == 3) = true := beq_iff_eq.mpr b4
  have c65b1 : (aq != 3) = false := bne_eq_false_iff_eq.mpr b4
  clear b4
  obtain ⟨cH, bj⟩ : ∃ y_ : List Int, y_ = (([(-1), 999, 1000] : List Int)) := ⟨_, rfl⟩
  rw [← bj] at H
  have bR := AM_ bj
  clear bj
  obtain ⟨⟨bM, b6, b7⟩, i4, H⟩ := OB H
  obtain ⟨cI, bk⟩ : ∃ y_ : List Int, y_ = (([0, 1, 1000, 1001] : List Int)) := ⟨_, rfl⟩
  rw [← bk] at H
  have bS := AM_ bk
  clear bk
  obtain ⟨⟨cJ, h7, h8⟩, i5, H⟩ := OB H
  simp only [Option.some.injEq, Prod.mk.injEq] at H
  obtain ⟨rfl, rfl, rfl, rfl, rfl, rfl, rfl, rfl, rfl, rfl, rfl⟩ := H
  go_wp2_with (first | ((with_reducible refine G2 33 rfl ?_); refine Kd.R_lit (Kd.int .i64) _ 3 ?hg (N := 33) ?hd (xs := ([(-1), 999, 1000] : List Int)) (inner := [.int .i64 (-1), .int .i64 999, .int .i64 1000]) (ok := fun _ => True) (okp := fun _ => True) ?hr ?hp (fun _ hk => hk) trivial (Below.refl _ _) (Nat.le_refl _) (by simp) ?_; (case hd => rfl); (case hg => rfl); (case hr => first | (go_simp; done) | (go_simp; rfl)); (case hp => exact (Reps.one (show Kd.M (Kd.int .i64) _ _ _ (-1) [.int .i64 (-1)] from rfl) (Reps.one (show Kd.M (Kd.int .i64) _ _ _ 999 [.int .i64 999] from rfl) (Reps.one (show Kd.M (Kd.int .i64) _ _ _ 1000 [.int .i64 1000] from rfl) (Reps.none _ _))))); intro i6 jq bm hb hg_ hnew_; clear hg_ hnew_; (first | rw [← bR.out] at bm | (simp only [Int.reduceToNat] at bm; rw [← bR.out] at bm)); replace ae := AM_ (Kd.S_below (ST ae.out) hb); replace ac := RB ac hb; replace ad := RB ad hb; have aH := AM_ (Kd.R_lower bm (KS HK)); replace ab := BV ab hb; replace aa := BV aa hb; replace HK := KX HK hb; replace HB := BW1 HB ag hb; replace ag := IB ag hb; clear hb bm; obtain ⟨h9, ia, ib⟩ := Kd.R_slice aH.out; subst ib) | ((with_reducible refine G1 98 rfl ?_); refine GC (some 34) Try.func98 #[.pointer (some ⟨g, 0, none⟩), .slice h9 cH.length ia] ?_; (with_reducible refine (spec_l1PickInt.calls g s0_0 aT aU _ _ cH bM b6 b7 w0 _ ?side1 ?side2 (CRR aH) (Kd.R_reads' aH.out).2.1 ?side5 i4.out).mono ?_); (case side1 => exact IZ ag); (case side2 => exact BZ1 HB ag); (case side5 => exact far_slice (IsS164.own_ne ag.out aH.out (by decide))); rintro e i7 ⟨rfl, hi, hb, hk⟩; refine ⟨_, rfl, ?_⟩; replace ab := KB ab hk ah; replace ae := SK1 ae ag hk; replace ac := RK1 ac ag hk; replace ad := RK1 ad ag hk; replace aa := KB aa hk an; replace aH := RK1 aH ag hk; replace HK := KY HK hk; replace HB := AM_ (hb); replace ag := AM_ (hi); (try clear hb); obtain ⟨gN, gO, gP, gQ, gR, gS, gT, gU, gV, gW, gX, gY, gZ, g0, g1, g2, g3, g4⟩ := bk9 aa.out) | ((with_reducible refine G2 37 rfl ?_); refine Kd.R_lit (Kd.int .i64) _ 3 ?hg (N := 37) ?hd (xs := ([0, 1, 1000, 1001] : List Int)) (inner := [.int .i64 0, .int .i64 1, .int .i64 1000, .int .i64 1001]) (ok := fun _ => True) (okp := fun _ => True) ?hr ?hp (fun _ hk => hk) trivial (Below.refl _ _) (Nat.le_refl _) (by simp) ?_; (case hd => rfl); (case hg => rfl); (case hr => first | (go_simp; done) | (go_simp; rfl)); (case hp => exact (Reps.one (show Kd.M (Kd.int .i64) _ _ _ 0 [.int .i64 0] from rfl) (Reps.one (show Kd.M (Kd.int .i64) _ _ _ 1 [.int .i64 1] from rfl) (Reps.one (show Kd.M (Kd.int .i64) _ _ _ 1000 [.int .i64 1000] from rfl) (Reps.one (show Kd.M (Kd.int .i64) _ _ _ 1001 [.int .i64 1001] from rfl) (Reps.none _ _)))))); intro i8 jr a9 hb hg_ hnew_; clear hg_ hnew_; (first | rw [← bS.out] at a9 | (simp only [Int.reduceToNat] at a9; rw [← bS.out] at a9)); replace ae := AM_ (Kd.S_below (SF ae.out aa.out) hb); replace ac := AM_ (Kd.R_below (RF ac.out aa.out) hb); replace ad := AM_ (Kd.R_below (RF ad.out aa.out) hb); have aR := AM_ (Kd.R_lower (Kd.R_new' a9 (Kd.R_lt (RF aH.out aa.out))) (KS HK)); replace aH := AM_ (Kd.R_elder' (RF aH.out aa.out) (Kd.R_base a9) hb); replace ab := AM_ (BF ab.out aI.out hb); replace aa := AM_ (BP #[.int .i64 aw, .int .i64 ax, .int .i64 aA, .int .i64 av, .int .i64 bM, .int .i64 ay, .int .i64 az, .slice ai ao.length aj, .slice ak ap.length al] aa.out hb); replace HK := KX HK hb; replace HB := BW1 HB ag hb; replace ag := AM_ (IsS164.below (show IsS164 w0 (i7.setCell ⟨af, 4, none⟩ (.int .i64 bM)) g s0_0 b6 b7 from IZ ag) hb); clear hb a9; obtain ⟨ic, id, ie⟩ := Kd.R_slice aR.out; subst ie) | ((with_reducible refine G1 98 rfl ?_); refine GC (some 38) Try.func98 #[.pointer (some ⟨g, 0, none⟩), .slice ic cI.length id] ?_; (with_reducible refine (spec_l1PickInt.calls g s0_0 b6 b7 _ _ cI cJ h7 h8 w0 _ ?side1 ?side2 (CRR aR) (Kd.R_reads' aR.out).2.1 ?side5 i5.out).mono ?_); (case side1 => exact IZ ag); (case side2 => exact BZ1 HB ag); (case side5 => exact far_slice (IsS164.own_ne ag.out aR.out (by decide))); rintro e js ⟨rfl, hi, hb, hk⟩; refine ⟨_, rfl, ?_⟩; replace ab := KB ab hk ah; replace ae := SK1 ae ag hk; replace ac := RK1 ac ag hk; replace ad := RK1 ad ag hk; replace aa := KB aa hk an; replace aH := RK1 aH ag hk; replace aR := RK1 aR ag hk; replace HK := KY HK hk; replace HB := AM_ (hb); replace ag := AM_ (hi); (try clear hb); obtain ⟨g5, g6, g7, g8, g9, ha, hc, he, hf, hh, hj, hl, hm, hn, hq, hs, ht, hu⟩ := bk9 aa.out; have iN := ah.out; have iO := aC.out; obtain ⟨hv, hw, hx, hy, hz, hA, hC, hD, hE, hF, hG, hH, hJ, hL, hM, hN, hO, hP⟩ := bk9 ab.out))
  refine bodyPost_ret (results_cell_row rfl _ _ aG 48 #[.int .i64 aw, .int .i64 ax, .int .i64 aA, .int .i64 av, .int .i64 bM, .int .i64 cJ, .int .i64 az, .slice ai ao.length aj, .slice ak ap.length al] (0, 0) _ rfl (by (with_reducible repeat (first | refine blk_drewN ?_ _ | refine blk_drew ?_ | refine blk_alloc ?_ _)); apply BP9; exact BG1 ab) Try.underlying48 rfl (by kernel_rfl)) rfl ?_
  exact ⟨_, _, ER, by (with_reducible repeat (first | apply Kd.R_alloc | apply Kd.R_drewN | apply Kd.R_drew)); exact Kd.R_mono (RF9 (RF1 (Kd.R_types (Kd.R_types ac.out aa.out (by decide)) ab.out (by decide)) (fun _ hk => hk.1.2)) (fun _ hk => hk.2)) (fun _ hk => trivial), by (with_reducible repeat (first | apply Kd.R_alloc | apply Kd.R_drewN | apply Kd.R_drew)); exact Kd.R_mono (RF9 (RF1 (Kd.R_types (Kd.R_types ad.out aa.out (by decide)) ab.out (by decide)) (fun _ hk => hk.1.2)) (fun _ hk => hk.2)) (fun _ hk => trivial), IZ ag, BZ1 HB ag, KZ HK⟩
 rw [if_neg b4] at H
 have cG : (aq == 3) = false := beq_eq_false_iff_ne.mpr b4
 have c65b1 : (aq != 3) = true := bne_iff_ne.mpr b4
 by_cases b8 : aq = 4
 ·rw [if_pos b8] at H
  have cK : (aq == 4) = true := beq_iff_eq.mpr b8
  have c91b1 : (aq != 4) = false := bne_eq_false_iff_eq.mpr b8
  clear b8
  obtain ⟨⟨a4, bn, bo⟩, iP, H⟩ := OB H
  obtain ⟨bN, bp⟩ : ∃ y_ : List Int, y_ = (([(-1), 0, 3, 1000] : List Int)) := ⟨_, rfl⟩
  rw [← bp] at H
  have a7 := AM_ bp
  clear bp
  obtain ⟨⟨bq, ig, ih⟩, i9, H⟩ := OB H
  replace H := HI H
  obtain ⟨iQ, H⟩ := H
  have LMc94 := AM_ iQ
  clear iQ
  obtain ⟨ii, br⟩ : ∃ y_ : List (S116), y_ = (ao ++ [(⟨a4, bq⟩ : S116)]) := ⟨_, rfl⟩
  rw [← br] at H
  have cL := AM_ br
  clear br
  simp only [Option.some.injEq, Prod.mk.injEq] at H
  obtain ⟨rfl, rfl, rfl, rfl, rfl, rfl, rfl, rfl, rfl, rfl, rfl⟩ := H
  try go_wp2
  replace ae := AM_ (Kd.S_drew ae.out)
  replace ac := AM_ (Kd.R_drew ac.out)
  replace ad := AM_ (Kd.R_drew ad.out)
  replace ab := BD1 ab
  replace aa := BD1 aa
  replace ag := AM_ (IsS164.drew ag.out)
  replace HK := AM_ (keep_drew HK.out)
  replace HB := BD2 HB
  refine start_ (n := 12) (S := fun w' => w'.cell? ⟨af, 0, none⟩ = some (.int .i64 aw) ∧ w'.cell? ⟨af, 1, none⟩ = some (.int .i64 ax) ∧ w'.cell? ⟨af, 2, none⟩ = some (.int .i64 aA) ∧ w'.cell? ⟨af, 3, none⟩ = some (.int .i64 av) ∧ w'.cell? ⟨af, 4, none⟩ = some (.int .i64 aB) ∧ w'.cell? ⟨af, 5, none⟩ = some (.int .i64 ay) ∧ w'.cell? ⟨af, 6, none⟩ = some (.int .i64 az) ∧ w'.cell? ⟨af, 7, none⟩ = some (.slice ai ao.length aj) ∧ w'.cell? ⟨af, 8, none⟩ = some (.slice ak ap.length al)) (ds := [11]) (lo 0 12) (by kernel_rfl) rfl rfl (b9 aa.out) (fun am => ?_); refine with_tabW spec_l5Any.tab14 spec_l5Any.bits14 (fun aJ ij => ?_)
  generalize cy.drew = ja at ae ac ad ab aa ag HK HB am ⊢
  refine PS aJ ?_
  refine PV 2 (some 44) (bs 5 12) aJ ?_
  refine PV 4 (some 46) (bs 21 12) aJ ?_
  refine TX 1 (some 43) (bs 23 12) aJ ij am ?_
  refine join_ (σ := Value) 6 (lo 6 12) (fun s_ => [(45, .int .i64 a4), (47, s_)]) (fun s_ w' => (w'.cell? ⟨af, 0, none⟩ = some (.int .i64 aw) ∧ w'.cell? ⟨af, 1, none⟩ = some (.int .i64 ax) ∧ w'.cell? ⟨af, 2, none⟩ = some (.int .i64 aA) ∧ w'.cell? ⟨af, 3, none⟩ = some (.int .i64 av) ∧ w'.cell? ⟨af, 4, none⟩ = some (.int .i64 aB) ∧ w'.cell? ⟨af, 5, none⟩ = some (.int .i64 ay) ∧ w'.cell? ⟨af, 6, none⟩ = some (.int .i64 az) ∧ w'.cell? ⟨af, 7, none⟩ = some (.slice ai ao.length aj) ∧ w'.cell? ⟨af, 8, none⟩ = some (.slice ak ap.length al)) ∧ (Kd.S (Kd.slice 52 k52) 62 w' w.heap.size (fun _ => True) (.slice aV aM.length aW) aM) ∧ (Kd.R k116 116 w' w.heap.size (fun _ => True) (.slice ai ao.length aj) ao) ∧ (Kd.R k103 103 w' w.heap.size (fun _ => True) (.slice ak ap.length al) ap) ∧ (Kd.R (Kd.int .i64) 3 w' w.heap.size (fun _ => True) s_ bN) ∧ (w'.heap[aG]? = some (.cells #[.int .i64 0, .int .i64 0, .int .i64 0, .int .i64 0, .int .i64 0, .int .i64 0, .int .i64 0, .slice none 0 0, .slice none 0 0] 48 (0, 0))) ∧ (w'.heap[af]? = some (.cells #[.int .i64 aw, .int .i64 ax, .int .i64 aA, .int .i64 av, .int .i64 aB, .int .i64 ay, .int .i64 az, .slice ai ao.length aj, .slice ak ap.length al] 48 (0, 0))) ∧ (IsS164 w0 w' g s0_0 bn bo) ∧ (KeepBut w w' g none) ∧ (Below w0.heap.size w0 w')) ?_ ?_
  rotate_left
  ·intro hCont
   refine two_ (i := 3) (j := 5) (Ni := some 45) (Nj := some 47) (lo 5 12) (bs 55 12) rfl rfl rfl rfl (two_of aJ.out (by kernel_rfl)) (by decide) (by decide) (fun K hK => ?_) (fun K hK => ?_)
   ·skip
    refine GO Try.func54 #[.pointer (some ⟨g, 0, none⟩), .int .i64 7] ?_
    with_reducible refine (spec_l1Below.calls g s0_0 aT aU 7 a4 bn bo w0 _ ?side1 ?side2 iP.out).mono ?_
    (case side1 => exact IZ ag)
    (case side2 => exact BZ1 HB ag)
    rintro e ik ⟨rfl, hi, hb, hk⟩
    refine ⟨_, rfl, ?_⟩
    replace ab := KB ab hk ah
    replace ae := SK1 ae ag hk
    replace ac := RK1 ac ag hk
    replace ad := RK1 ad ag hk
    replace aa := KB aa hk an
    replace HK := KY HK hk
    replace HB := AM_ (hb)
    replace ag := AM_ (hi)
    (try clear hb)
    (try clear hk)
    (try clear hi)
    refine hK.out _ _ (b9 aa.out) (fun am => ?_)
    clear hK K
    refine NM 45 ?_
    refine OS aJ (fun K hK => ?_)
    refine Kd.R_lit_step (Kd.int .i64) _ 3 ?hg (N := 47) ?hd (xs := ([(-1), 0, 3, 1000] : List Int)) (inner := [.int .i64 (-1), .int .i64 0, .int .i64 3, .int .i64 1000]) (ok := fun _ => True) (okp := fun _ => True) ?hr ?hp (fun _ hk => hk) trivial (Below.refl _ _) (Nat.le_refl _) (by simp) ?_; (case hd => rfl); (case hg => rfl); (case hr => first | (go_simp; done) | (go_simp; rfl)); (case hp => exact (Reps.one (show Kd.M (Kd.int .i64) _ _ _ (-1) [.int .i64 (-1)] from rfl) (Reps.one (show Kd.M (Kd.int .i64) _ _ _ 0 [.int .i64 0] from rfl) (Reps.one (show Kd.M (Kd.int .i64) _ _ _ 3 [.int .i64 3] from rfl) (Reps.one (show Kd.M (Kd.int .i64) _ _ _ 1000 [.int .i64 1000] from rfl) (Reps.none _ _))))))
    intro bu jb aX hb hg_ hnew_
    clear hg_ hnew_
    (first | rw [← a7.out] at aX | (simp only [Int.reduceToNat] at aX; rw [← a7.out] at aX))
    replace ae := AM_ (Kd.S_below (ST ae.out) hb)
    replace ac := RB ac hb
    replace ad := RB ad hb
    have ar := AM_ (Kd.R_lower aX (KS HK))
    replace ab := BV ab hb
    replace aa := BV aa hb
    replace HK := KX HK hb
    replace HB := BW1 HB ag hb
    replace ag := IB ag hb
    clear hb aX
    refine hK.out _ _ (b9 aa.out) (fun am => ?_)
    clear hK K
    refine NM 47 ?_
    exact NR (hCont (bu) _ ⟨am, (ST ae.out), (RT ac.out), (RT ad.out), (RT ar.out), (BG1 ab), (BG1 aa), (IZ ag), (KZ HK), (BZ1 HB ag)⟩)
   ·skip
    refine Kd.R_lit_step (Kd.int .i64) _ 3 ?hg (N := 47) ?hd (xs := ([(-1), 0, 3, 1000] : List Int)) (inner := [.int .i64 (-1), .int .i64 0, .int .i64 3, .int .i64 1000]) (ok := fun _ => True) (okp := fun _ => True) ?hr ?hp (fun _ hk => hk) trivial (Below.refl _ _) (Nat.le_refl _) (by simp) ?_; (case hd => rfl); (case hg => rfl); (case hr => first | (go_simp; done) | (go_simp; rfl)); (case hp => exact (Reps.one (show Kd.M (Kd.int .i64) _ _ _ (-1) [.int .i64 (-1)] from rfl) (Reps.one (show Kd.M (Kd.int .i64) _ _ _ 0 [.int .i64 0] from rfl) (Reps.one (show Kd.M (Kd.int .i64) _ _ _ 3 [.int .i64 3] from rfl) (Reps.one (show Kd.M (Kd.int .i64) _ _ _ 1000 [.int .i64 1000] from rfl) (Reps.none _ _))))))
    intro bu ik aY hb hg_ hnew_
    clear hg_ hnew_
    (first | rw [← a7.out] at aY | (simp only [Int.reduceToNat] at aY; rw [← a7.out] at aY))
    replace ae := AM_ (Kd.S_below (ST ae.out) hb)
    replace ac := RB ac hb
    replace ad := RB ad hb
    have ar := AM_ (Kd.R_lower aY (KS HK))
    replace ab := BV ab hb
    replace aa := BV aa hb
    replace HK := KX HK hb
    replace HB := BW1 HB ag hb
    replace ag := IB ag hb
    clear hb aY
    refine hK.out _ _ (b9 aa.out) (fun am => ?_)
    clear hK K
    refine NM 47 ?_
    refine one_ (i := 3) (N := some 45) (lo 6 12) rfl rfl (one_of aJ.out (by kernel_rfl)) (by decide) (fun K hK => ?_)
    refine GO Try.func54 #[.pointer (some ⟨g, 0, none⟩), .int .i64 7] ?_
    with_reducible refine (spec_l1Below.calls g s0_0 aT aU 7 a4 bn bo w0 _ ?side1 ?side2 iP.out).mono ?_
    (case side1 => exact IZ ag)
    (case side2 => exact BZ1 HB ag)
    rintro e jc ⟨rfl, hi, hb, hk⟩
    refine ⟨_, rfl, ?_⟩
    replace ab := KB ab hk ah
    replace ae := SK1 ae ag hk
    replace ac := RK1 ac ag hk
    replace ad := RK1 ad ag hk
    replace aa := KB aa hk an
    replace ar := RK1 ar ag hk
    replace HK := KY HK hk
    replace HB := AM_ (hb)
    replace ag := AM_ (hi)
    (try clear hb)
    (try clear hk)
    (try clear hi)
    refine hK.out _ _ (b9 aa.out) (fun am => ?_)
    clear hK K
    refine NM 45 ?_
    exact NR (hCont (bu) _ ⟨am, (ST ae.out), (RT ac.out), (RT ad.out), (RT ar.out), (BG1 ab), (BG1 aa), (IZ ag), (KZ HK), (BZ1 HB ag)⟩)
  rintro bu aD ⟨hS_, h0_, h1_, h2_, h3_, h4_, h5_, h6_, h7_, h8_⟩
  have bv : Aside0 (Kd.S (Kd.slice 52 k52) 62 aD w.heap.size (fun _ => True) (.slice aV aM.length aW) aM) := ⟨h0_⟩
  have bw : Aside0 (Kd.R k116 116 aD w.heap.size (fun _ => True) (.slice ai ao.length aj) ao) := ⟨h1_⟩
  have bx : Aside0 (Kd.R k103 103 aD w.heap.size (fun _ => True) (.slice ak ap.length al) ap) := ⟨h2_⟩
  have bz : Aside0 (Kd.R (Kd.int .i64) 3 aD w.heap.size (fun _ => True) bu bN) := ⟨h3_⟩
  have bA : Aside0 (aD.heap[aG]? = some (.cells #[.int .i64 0, .int .i64 0, .int .i64 0, .int .i64 0, .int .i64 0, .int .i64 0, .int .i64 0, .slice none 0 0, .slice none 0 0] 48 (0, 0))) := ⟨h4_⟩
  have bB : Aside0 (aD.heap[af]? = some (.cells #[.int .i64 aw, .int .i64 ax, .int .i64 aA, .int .i64 av, .int .i64 aB, .int .i64 ay, .int .i64 az, .slice ai ao.length aj, .slice ak ap.length al] 48 (0, 0))) := ⟨h5_⟩
  have bC : Aside0 (IsS164 w0 aD g s0_0 bn bo) := ⟨h6_⟩
  have bD : Aside0 (KeepBut w aD g none) := ⟨h7_⟩
  have bE : Aside0 (Below w0.heap.size w0 aD) := ⟨h8_⟩
  clear ae
  clear ac
  clear ad
  clear ab
  clear aa
  clear ag
  clear HK
  clear HB
  clear h0_ h1_ h2_ h3_ h4_ h5_ h6_ h7_ h8_
  have ae := bv
  have ac := bw
  have ad := bx
  have ar := bz
  have ab := bA
  have aa := bB
  have ag := bC
  have HK := bD
  have HB := bE
  clear bv bw bx bz bA bB bC bD bE
  have am : aD.cell? ⟨af, 0, none⟩ = some (.int .i64 aw) ∧ aD.cell? ⟨af, 1, none⟩ = some (.int .i64 ax) ∧ aD.cell? ⟨af, 2, none⟩ = some (.int .i64 aA) ∧ aD.cell? ⟨af, 3, none⟩ = some (.int .i64 av) ∧ aD.cell? ⟨af, 4, none⟩ = some (.int .i64 aB) ∧ aD.cell? ⟨af, 5, none⟩ = some (.int .i64 ay) ∧ aD.cell? ⟨af, 6, none⟩ = some (.int .i64 az) ∧ aD.cell? ⟨af, 7, none⟩ = some (.slice ai ao.length aj) ∧ aD.cell? ⟨af, 8, none⟩ = some (.slice ak ap.length al) := hS_
  obtain ⟨cM, cN, bT⟩ := Kd.R_slice ar.out
  (first | subst bT | (injection bT with f1_ f2_ f3_; have f4_ := f1_.symm; have f5_ := f3_.symm; clear f1_ f2_ f3_; subst f4_; subst f5_))
  refine norm_ (a' := ?_) ?_ ?_
  rotate_left
  ·simp only [putAll, Act.put, List.setIfInBounds_toArray, List.set_cons_zero, List.set_cons_succ]
   rfl
  refine OS aJ (fun K hK => ?_)
  refine GO Try.func98 #[.pointer (some ⟨g, 0, none⟩), .slice cM bN.length cN] ?_
  with_reducible refine (spec_l1PickInt.calls g s0_0 bn bo _ _ bN bq ig ih w0 _ ?side1 ?side2 (CRR ar) (Kd.R_reads' ar.out).2.1 ?side5 i9.out).mono ?_
  (case side1 => exact IZ ag)
  (case side2 => exact BZ1 HB ag)
  (case side5 => exact far_slice (IsS164.own_ne ag.out ar.out (by decide)))
  rintro e jd ⟨rfl, hi, hb, hk⟩
  refine ⟨_, rfl, ?_⟩
  replace ab := KB ab hk ah
  replace ae := SK1 ae ag hk
  replace ac := RK1 ac ag hk
  replace ad := RK1 ad ag hk
  replace aa := KB aa hk an
  replace ar := RK1 ar ag hk
  replace HK := KY HK hk
  replace HB := AM_ (hb)
  replace ag := AM_ (hi)
  (try clear hb)
  (try clear hk)
  (try clear hi)
  refine hK.out _ _ (b9 aa.out) (fun am => ?_)
  clear hK K
  refine NM 48 ?_
  refine PS aJ ?_
  refine OS aJ (fun K hK => ?_)
  refine value_ (w1 := ?_) (v := ?_) (by rfl) rfl ?_ ?_
  rotate_left 2
  ·go_simp
   constructor
   ·rfl
   ·rfl
  refine hK.out _ _ ⟨(blk_cell (blk_alloc aa.out _) 0).trans rfl, (blk_cell (blk_alloc aa.out _) 1).trans rfl, (blk_cell (blk_alloc aa.out _) 2).trans rfl, (blk_cell (blk_alloc aa.out _) 3).trans rfl, (blk_cell (blk_alloc aa.out _) 4).trans rfl, (blk_cell (blk_alloc aa.out _) 5).trans rfl, (blk_cell (blk_alloc aa.out _) 6).trans rfl, (blk_cell (blk_alloc aa.out _) 7).trans rfl, (blk_cell (blk_alloc aa.out _) 8).trans rfl⟩ (fun am => ?_)
  clear hK K
  refine NM 50 ?_
  refine OS aJ (fun K hK => ?_)
  refine Kd.R_append_step k116 w.heap.size (by rfl) (.tmp 43) (.tmp 50) 45 116 (.agg #[(.int .i64 0), (.int .i64 0)]) 16 rfl Try.underlying45 info116 rfl (by decide) (by omega) (.slice ai ao.length aj) ao (⟨a4, bq⟩ : S116) [.int .i64 a4, .int .i64 bq] (fun _ => True) (fun _ => False) rfl rfl ?aP (fun _ hk => hk.elim) ?aF ?aO (Below.refl _ _) ?aS ?aL ?_
  (case aP => exact k116_mkM _ _ _ (⟨a4, bq⟩ : S116))
  (case aF => exact (fun _ _ => trivial))
  (case aO => exact (RT ac.out))
  (case aS => exact (KS HK))
  (case aL => have := LMc94.out; omega)
  intro je il ho hb hg hat
  rw [← cL.out] at ho
  have bv := AM_ (IsS164.grown (IZ ag) hg (IsS164.own_ne ag.out ac.out (by decide)))
  have bw := AM_ (blk_grown (BG1 ab) hg (Kd.R_ne ac.out ab.out (by decide)))
  have bx := AM_ (Kd.S_over' (ST ae.out) (Kd.R_typed (RT ac.out)) (by decide) hg)
  have bz := AM_ (Kd.R_over' (RT ad.out) (Kd.R_typed (RT ac.out)) (by decide) hg)
  have bA := AM_ (blk_grown (BG1 aa) hg (Kd.R_ne ac.out aa.out (by decide)))
  have bB := AM_ (Kd.R_over' (RT ar.out) (Kd.R_typed (RT ac.out)) (by decide) hg)
  have bC := AM_ (below_weaken (BZ1 HB ag) HL.out hb)
  have bD := AM_ (KeepBut.trans (KZ HK) (KeepBut.of_grown hg g) (Kd.R_base2 ac.out))
  have bE := AM_ (ho)
  clear ag
  clear ab
  clear ae
  clear ad
  clear aa
  clear ar
  clear HB
  clear HK
  clear ac
  have ag := bv
  have ab := bw
  have ae := bx
  have ad := bz
  have aa := bA
  have ar := bB
  have HB := bC
  have HK := bD
  have bU := bE
  clear bv bw bx bz bA bB bC bD bE
  clear ho hb hg hat
  obtain ⟨cO, cP, bV⟩ := Kd.R_slice bU.out
  (first | subst bV | (injection bV with f1_ f2_ f3_; have f4_ := f1_.symm; have f5_ := f3_.symm; clear f1_ f2_ f3_; subst f4_; subst f5_))
  refine hK.out _ _ (b9 aa.out) (fun am => ?_)
  clear hK K
  refine NM 51 ?_
  refine PS aJ ?_
  refine last_ (i := 11) (N := none) (lo 12 12) rfl rfl (one_of aJ.out (by kernel_rfl)) (by decide) (fun K hK => ?_)
  have hs115 : il.cell? ⟨af, 7, none⟩ = some (.slice ai ao.length aj) := (blk_cell aa.out 7).trans rfl
  have hfs115 := blk_frozen aa.out 7
  have hns115_0 := aI.out
  have hms115_0 := aK.out
  refine skip_ (w1 := ?_) (by rfl) rfl ?_ ?_
  rotate_left
  ·go_simp
   rfl
  refine hK.out _ _ ?_
  clear hK K
  refine done_ (done_of aJ.out (by kernel_rfl)) ?_
  obtain ⟨cQ, cR, cS, cT, cU, cV, cW, cX, cY, cZ, c0, c1, c2, c3, c4, c6, c7, c8⟩ := bk9 aa.out
  have im := ah.out
  have io := aC.out
  obtain ⟨c9, da, db, dc, dd, de, df, dg, dh, di, dj, dk, dl, dm, dn, dp, dq, dr⟩ := bk9 ab.out
  try go_wp2
  refine bodyPost_ret (results_cell_row rfl _ _ aG 48 #[.int .i64 aw, .int .i64 ax, .int .i64 aA, .int .i64 av, .int .i64 aB, .int .i64 ay, .int .i64 az, .slice cO ii.length cP, .slice ak ap.length al] (0, 0) _ rfl (by (with_reducible repeat (first | refine blk_drewN ?_ _ | refine blk_drew ?_ | refine blk_alloc ?_ _)); apply BP9; exact BG1 ab) Try.underlying48 rfl (by kernel_rfl)) rfl ?_
  exact ⟨_, _, ER, by (with_reducible repeat (first | apply Kd.R_alloc | apply Kd.R_drewN | apply Kd.R_drew)); exact Kd.R_mono (RF9 (RF1 (Kd.R_types (Kd.R_types bU.out aa.out (by decide)) ab.out (by decide)) (fun _ hk => hk.1.2)) (fun _ hk => hk.2)) (fun _ hk => trivial), by (with_reducible repeat (first | apply Kd.R_alloc | apply Kd.R_drewN | apply Kd.R_drew)); exact Kd.R_mono (RF9 (RF1 (Kd.R_types (Kd.R_types ad.out aa.out (by decide)) ab.out (by decide)) (fun _ hk => hk.1.2)) (fun _ hk => hk.2)) (fun _ hk => trivial), IZ ag, BZ1 HB ag, KZ HK⟩
 rw [if_neg b8] at H
 have cK : (aq == 4) = false := beq_eq_false_iff_ne.mpr b8
 have c91b1 : (aq != 4) = true := bne_iff_ne.mpr b8
 by_cases a5 : aq = 5
 rotate_left
 ·rw [if_neg a5] at H
  have ca : (aq == 5) = false := beq_eq_false_iff_ne.mpr a5
  have c119b1 : (aq != 5) = true := bne_iff_ne.mpr a5
  simp only [Option.some.injEq, Prod.mk.injEq] at H
  obtain ⟨rfl, rfl, rfl, rfl, rfl, rfl, rfl, rfl, rfl, rfl, rfl⟩ := H
  obtain ⟨dt, du, dv, dw, dx, dy, dz, dA, dB, dC, dD, dE, dF, dG, dH, dI, dJ, dK⟩ := bk9 aa.out
  have ip := ah.out
  have iq := aC.out
  obtain ⟨dL, dM, dN, dO, dP, dQ, dR, dS, dT, dU, dV, dW, dX, dY, dZ, d0, d1, d2⟩ := bk9 ab.out
  try go_wp2
  refine bodyPost_ret (results_cell_row rfl _ _ aG 48 #[.int .i64 aw, .int .i64 ax, .int .i64 aA, .int .i64 av, .int .i64 aB, .int .i64 ay, .int .i64 az, .slice ai ao.length aj, .slice ak ap.length al] (0, 0) _ rfl (by (with_reducible repeat (first | refine blk_drewN ?_ _ | refine blk_drew ?_ | refine blk_alloc ?_ _)); apply BP9; (with_reducible repeat (first | refine blk_drewN ?_ _ | refine blk_drew ?_ | refine blk_alloc ?_ _)); exact ab.out) Try.underlying48 rfl (by kernel_rfl)) rfl ?_
  exact ⟨_, _, ER, by (with_reducible repeat (first | apply Kd.R_alloc | apply Kd.R_drewN | apply Kd.R_drew)); exact Kd.R_mono (RF9 (Kd.R_types ac.out ab.out (by decide)) (fun _ hk => hk.2)) (fun _ hk => trivial), by (with_reducible repeat (first | apply Kd.R_alloc | apply Kd.R_drewN | apply Kd.R_drew)); exact Kd.R_mono (RF9 (Kd.R_types ad.out ab.out (by decide)) (fun _ hk => hk.2)) (fun _ hk => trivial), IZ ag, BZ1 HB ag, KZ HK⟩
 rw [if_pos a5] at H
 have ca : (aq == 5) = true := beq_iff_eq.mpr a5
 have c119b1 : (aq != 5) = false := bne_eq_false_iff_eq.mpr a5
 clear a5
 obtain ⟨⟨a6, bF, bG⟩, d3, H⟩ := OB H
 obtain ⟨bO, bH⟩ : ∃ y_ : List Int, y_ = (([(-2), 100, 0] : List Int)) := ⟨_, rfl⟩
 rw [← bH] at H
 have a8 := AM_ bH
 clear bH
 obtain ⟨⟨bI, ir, it⟩, iu, H⟩ := OB H
 replace H := HI H
 obtain ⟨d4, H⟩ := H
 have LMc122 := AM_ d4
 clear d4
 obtain ⟨iv, bJ⟩ : ∃ y_ : List (S103), y_ = (ap ++ [(⟨a6, bI⟩ : S103)]) := ⟨_, rfl⟩
 rw [← bJ] at H
 have d5 := AM_ bJ
 clear bJ
 simp only [Option.some.injEq, Prod.mk.injEq] at H
 obtain ⟨rfl, rfl, rfl, rfl, rfl, rfl, rfl, rfl, rfl, rfl, rfl⟩ := H
 try go_wp2
 replace ae := AM_ (Kd.S_drew ae.out)
 replace ac := AM_ (Kd.R_drew ac.out)
 replace ad := AM_ (Kd.R_drew ad.out)
 replace ab := BD1 ab
 replace aa := BD1 aa
 replace ag := AM_ (IsS164.drew ag.out)
 replace HK := AM_ (keep_drew HK.out)
 replace HB := BD2 HB
 refine start_ (n := 12) (S := fun w' => w'.cell? ⟨af, 0, none⟩ = some (.int .i64 aw) ∧ w'.cell? ⟨af, 1, none⟩ = some (.int .i64 ax) ∧ w'.cell? ⟨af, 2, none⟩ = some (.int .i64 aA) ∧ w'.cell? ⟨af, 3, none⟩ = some (.int .i64 av) ∧ w'.cell? ⟨af, 4, none⟩ = some (.int .i64 aB) ∧ w'.cell? ⟨af, 5, none⟩ = some (.int .i64 ay) ∧ w'.cell? ⟨af, 6, none⟩ = some (.int .i64 az) ∧ w'.cell? ⟨af, 7, none⟩ = some (.slice ai ao.length aj) ∧ w'.cell? ⟨af, 8, none⟩ = some (.slice ak ap.length al)) (ds := [11]) (lo 0 12) (by kernel_rfl) rfl rfl (b9 aa.out) (fun am => ?_); refine with_tabW spec_l5Any.tab16 spec_l5Any.bits16 (fun aJ ij => ?_)
 generalize cy.drew = jf at ae ac ad ab aa ag HK HB am ⊢
 refine PS aJ ?_
 refine PV 2 (some 57) (bs 5 12) aJ ?_
 refine PV 4 (some 59) (bs 21 12) aJ ?_
 refine TX 1 (some 56) (bs 23 12) aJ ij am ?_
 refine join_ (σ := Value) 6 (lo 6 12) (fun s_ => [(58, .int .i64 a6), (60, s_)]) (fun s_ w' => (w'.cell? ⟨af, 0, none⟩ = some (.int .i64 aw) ∧ w'.cell? ⟨af, 1, none⟩ = some (.int .i64 ax) ∧ w'.cell? ⟨af, 2, none⟩ = some (.int .i64 aA) ∧ w'.cell? ⟨af, 3, none⟩ = some (.int .i64 av) ∧ w'.cell? ⟨af, 4, none⟩ = some (.int .i64 aB) ∧ w'.cell? ⟨af, 5, none⟩ = some (.int .i64 ay) ∧ w'.cell? ⟨af, 6, none⟩ = some (.int .i64 az) ∧ w'.cell? ⟨af, 7, none⟩ = some (.slice ai ao.length aj) ∧ w'.cell? ⟨af, 8, none⟩ = some (.slice ak ap.length al)) ∧ (Kd.S (Kd.slice 52 k52) 62 w' w.heap.size (fun _ => True) (.slice aV aM.length aW) aM) ∧ (Kd.R k116 116 w' w.heap.size (fun _ => True) (.slice ai ao.length aj) ao) ∧ (Kd.R k103 103 w' w.heap.size (fun _ => True) (.slice ak ap.length al) ap) ∧ (Kd.R (Kd.int .i64) 3 w' w.heap.size (fun _ => True) s_ bO) ∧ (w'.heap[aG]? = some (.cells #[.int .i64 0, .int .i64 0, .int .i64 0, .int .i64 0, .int .i64 0, .int .i64 0, .int .i64 0, .slice none 0 0, .slice none 0 0] 48 (0, 0))) ∧ (w'.heap[af]? = some (.cells #[.int .i64 aw, .int .i64 ax, .int .i64 aA, .int .i64 av, .int .i64 aB, .int .i64 ay, .int .i64 az, .slice ai ao.length aj, .slice ak ap.length al] 48 (0, 0))) ∧ (IsS164 w0 w' g s0_0 bF bG) ∧ (KeepBut w w' g none) ∧ (Below w0.heap.size w0 w')) ?_ ?_
 rotate_left
 ·intro hCont
  refine two_ (i := 3) (j := 5) (Ni := some 58) (Nj := some 60) (lo 5 12) (bs 55 12) rfl rfl rfl rfl (two_of aJ.out (by kernel_rfl)) (by decide) (by decide) (fun K hK => ?_) (fun K hK => ?_)
  ·skip
   refine GO Try.func54 #[.pointer (some ⟨g, 0, none⟩), .int .i64 7] ?_
   with_reducible refine (spec_l1Below.calls g s0_0 aT aU 7 a6 bF bG w0 _ ?side1 ?side2 d3.out).mono ?_
   (case side1 => exact IZ ag)
   (case side2 => exact BZ1 HB ag)
   rintro e iw ⟨rfl, hi, hb, hk⟩
   refine ⟨_, rfl, ?_⟩
   replace ab := KB ab hk ah
   replace ae := SK1 ae ag hk
   replace ac := RK1 ac ag hk
   replace ad := RK1 ad ag hk
   replace aa := KB aa hk an
   replace HK := KY HK hk
   replace HB := AM_ (hb)
   replace ag := AM_ (hi)
   (try clear hb)
   (try clear hk)
   (try clear hi)
   refine hK.out _ _ (b9 aa.out) (fun am => ?_)
   clear hK K
   refine NM 58 ?_
   refine OS aJ (fun K hK => ?_)
   refine Kd.R_lit_step (Kd.int .i64) _ 3 ?hg (N := 60) ?hd (xs := ([(-2), 100, 0] : List Int)) (inner := [.int .i64 (-2), .int .i64 100, .int .i64 0]) (ok := fun _ => True) (okp := fun _ => True) ?hr ?hp (fun _ hk => hk) trivial (Below.refl _ _) (Nat.le_refl _) (by simp) ?_; (case hd => rfl); (case hg => rfl); (case hr => first | (go_simp; done) | (go_simp; rfl)); (case hp => exact (Reps.one (show Kd.M (Kd.int .i64) _ _ _ (-2) [.int .i64 (-2)] from rfl) (Reps.one (show Kd.M (Kd.int .i64) _ _ _ 100 [.int .i64 100] from rfl) (Reps.one (show Kd.M (Kd.int .i64) _ _ _ 0 [.int .i64 0] from rfl) (Reps.none _ _)))))
   intro bK jg aZ hb hg_ hnew_
   clear hg_ hnew_
   (first | rw [← a8.out] at aZ | (simp only [Int.reduceToNat] at aZ; rw [← a8.out] at aZ))
   replace ae := AM_ (Kd.S_below (ST ae.out) hb)
   replace ac := RB ac hb
   replace ad := RB ad hb
   have au := AM_ (Kd.R_lower aZ (KS HK))
   replace ab := BV ab hb
   replace aa := BV aa hb
   replace HK := KX HK hb
   replace HB := BW1 HB ag hb
   replace ag := IB ag hb
   clear hb aZ
   refine hK.out _ _ (b9 aa.out) (fun am => ?_)
   clear hK K
   refine NM 60 ?_
   exact NR (hCont (bK) _ ⟨am, (ST ae.out), (RT ac.out), (RT ad.out), (RT au.out), (BG1 ab), (BG1 aa), (IZ ag), (KZ HK), (BZ1 HB ag)⟩)
  ·skip
   refine Kd.R_lit_step (Kd.int .i64) _ 3 ?hg (N := 60) ?hd (xs := ([(-2), 100, 0] : List Int)) (inner := [.int .i64 (-2), .int .i64 100, .int .i64 0]) (ok := fun _ => True) (okp := fun _ => True) ?hr ?hp (fun _ hk => hk) trivial (Below.refl _ _) (Nat.le_refl _) (by simp) ?_; (case hd => rfl); (case hg => rfl); (case hr => first | (go_simp; done) | (go_simp; rfl)); (case hp => exact (Reps.one (show Kd.M (Kd.int .i64) _ _ _ (-2) [.int .i64 (-2)] from rfl) (Reps.one (show Kd.M (Kd.int .i64) _ _ _ 100 [.int .i64 100] from rfl) (Reps.one (show Kd.M (Kd.int .i64) _ _ _ 0 [.int .i64 0] from rfl) (Reps.none _ _)))))
   intro bK iw a3 hb hg_ hnew_
   clear hg_ hnew_
   (first | rw [← a8.out] at a3 | (simp only [Int.reduceToNat] at a3; rw [← a8.out] at a3))
   replace ae := AM_ (Kd.S_below (ST ae.out) hb)
   replace ac := RB ac hb
   replace ad := RB ad hb
   have au := AM_ (Kd.R_lower a3 (KS HK))
   replace ab := BV ab hb
   replace aa := BV aa hb
   replace HK := KX HK hb
   replace HB := BW1 HB ag hb
   replace ag := IB ag hb
   clear hb a3
   refine hK.out _ _ (b9 aa.out) (fun am => ?_)
   clear hK K
   refine NM 60 ?_
   refine one_ (i := 3) (N := some 58) (lo 6 12) rfl rfl (one_of aJ.out (by kernel_rfl)) (by decide) (fun K hK => ?_)
   refine GO Try.func54 #[.pointer (some ⟨g, 0, none⟩), .int .i64 7] ?_
   with_reducible refine (spec_l1Below.calls g s0_0 aT aU 7 a6 bF bG w0 _ ?side1 ?side2 d3.out).mono ?_
   (case side1 => exact IZ ag)
   (case side2 => exact BZ1 HB ag)
   rintro e jh ⟨rfl, hi, hb, hk⟩
   refine ⟨_, rfl, ?_⟩
   replace ab := KB ab hk ah
   replace ae := SK1 ae ag hk
   replace ac := RK1 ac ag hk
   replace ad := RK1 ad ag hk
   replace aa := KB aa hk an
   replace au := RK1 au ag hk
   replace HK := KY HK hk
   replace HB := AM_ (hb)
   replace ag := AM_ (hi)
   (try clear hb)
   (try clear hk)
   (try clear hi)
   refine hK.out _ _ (b9 aa.out) (fun am => ?_)
   clear hK K
   refine NM 58 ?_
   exact NR (hCont (bK) _ ⟨am, (ST ae.out), (RT ac.out), (RT ad.out), (RT au.out), (BG1 ab), (BG1 aa), (IZ ag), (KZ HK), (BZ1 HB ag)⟩)
 rintro bK aE ⟨hS_, h0_, h1_, h2_, h3_, h4_, h5_, h6_, h7_, h8_⟩
 have bv : Aside0 (Kd.S (Kd.slice 52 k52) 62 aE w.heap.size (fun _ => True) (.slice aV aM.length aW) aM) := ⟨h0_⟩
 have bw : Aside0 (Kd.R k116 116 aE w.heap.size (fun _ => True) (.slice ai ao.length aj) ao) := ⟨h1_⟩
 have bx : Aside0 (Kd.R k103 103 aE w.heap.size (fun _ => True) (.slice ak ap.length al) ap) := ⟨h2_⟩
 have bz : Aside0 (Kd.R (Kd.int .i64) 3 aE w.heap.size (fun _ => True) bK bO) := ⟨h3_⟩
 have bA : Aside0 (aE.heap[aG]? = some (.cells #[.int .i64 0, .int .i64 0, .int .i64 0, .int .i64 0, .int .i64 0, .int .i64 0, .int .i64 0, .slice none 0 0, .slice none 0 0] 48 (0, 0))) := ⟨h4_⟩
 have bB : Aside0 (aE.heap[af]? = some (.cells #[.int .i64 aw, .int .i64 ax, .int .i64 aA, .int .i64 av, .int .i64 aB, .int .i64 ay, .int .i64 az, .slice ai ao.length aj, .slice ak ap.length al] 48 (0, 0))) := ⟨h5_⟩
 have bC : Aside0 (IsS164 w0 aE g s0_0 bF bG) := ⟨h6_⟩
 have bD : Aside0 (KeepBut w aE g none) := ⟨h7_⟩
 have bE : Aside0 (Below w0.heap.size w0 aE) := ⟨h8_⟩
 clear ae
 clear ac
 clear ad
 clear ab
 clear aa
 clear ag
 clear HK
 clear HB
 clear h0_ h1_ h2_ h3_ h4_ h5_ h6_ h7_ h8_
 have ae := bv
 have ac := bw
 have ad := bx
 have au := bz
 have ab := bA
 have aa := bB
 have ag := bC
 have HK := bD
 have HB := bE
 clear bv bw bx bz bA bB bC bD bE
 have am : aE.cell? ⟨af, 0, none⟩ = some (.int .i64 aw) ∧ aE.cell? ⟨af, 1, none⟩ = some (.int .i64 ax) ∧ aE.cell? ⟨af, 2, none⟩ = some (.int .i64 aA) ∧ aE.cell? ⟨af, 3, none⟩ = some (.int .i64 av) ∧ aE.cell? ⟨af, 4, none⟩ = some (.int .i64 aB) ∧ aE.cell? ⟨af, 5, none⟩ = some (.int .i64 ay) ∧ aE.cell? ⟨af, 6, none⟩ = some (.int .i64 az) ∧ aE.cell? ⟨af, 7, none⟩ = some (.slice ai ao.length aj) ∧ aE.cell? ⟨af, 8, none⟩ = some (.slice ak ap.length al) := hS_
 obtain ⟨d6, d7, bW⟩ := Kd.R_slice au.out
 (first | subst bW | (injection bW with f1_ f2_ f3_; have f4_ := f1_.symm; have f5_ := f3_.symm; clear f1_ f2_ f3_; subst f4_; subst f5_))
 refine norm_ (a' := ?_) ?_ ?_
 rotate_left
 ·simp only [putAll, Act.put, List.setIfInBounds_toArray, List.set_cons_zero, List.set_cons_succ]
  rfl
 refine OS aJ (fun K hK => ?_)
 refine GO Try.func98 #[.pointer (some ⟨g, 0, none⟩), .slice d6 bO.length d7] ?_
 with_reducible refine (spec_l1PickInt.calls g s0_0 bF bG _ _ bO bI ir it w0 _ ?side1 ?side2 (CRR au) (Kd.R_reads' au.out).2.1 ?side5 iu.out).mono ?_
 (case side1 => exact IZ ag)
 (case side2 => exact BZ1 HB ag)
 (case side5 => exact far_slice (IsS164.own_ne ag.out au.out (by decide)))
 rintro e ji ⟨rfl, hi, hb, hk⟩
 refine ⟨_, rfl, ?_⟩
 replace ab := KB ab hk ah
 replace ae := SK1 ae ag hk
 replace ac := RK1 ac ag hk
 replace ad := RK1 ad ag hk
 replace aa := KB aa hk an
 replace au := RK1 au ag hk
 replace HK := KY HK hk
 replace HB := AM_ (hb)
 replace ag := AM_ (hi)
 (try clear hb)
 (try clear hk)
 (try clear hi)
 refine hK.out _ _ (b9 aa.out) (fun am => ?_)
 clear hK K
 refine NM 61 ?_
 refine PS aJ ?_
 refine OS aJ (fun K hK => ?_)
 refine value_ (w1 := ?_) (v := ?_) (by rfl) rfl ?_ ?_
 rotate_left 2
 ·go_simp
  constructor
  ·rfl
  ·rfl
 refine hK.out _ _ ⟨(blk_cell (blk_alloc aa.out _) 0).trans rfl, (blk_cell (blk_alloc aa.out _) 1).trans rfl, (blk_cell (blk_alloc aa.out _) 2).trans rfl, (blk_cell (blk_alloc aa.out _) 3).trans rfl, (blk_cell (blk_alloc aa.out _) 4).trans rfl, (blk_cell (blk_alloc aa.out _) 5).trans rfl, (blk_cell (blk_alloc aa.out _) 6).trans rfl, (blk_cell (blk_alloc aa.out _) 7).trans rfl, (blk_cell (blk_alloc aa.out _) 8).trans rfl⟩ (fun am => ?_)
 clear hK K
 refine NM 63 ?_
 refine OS aJ (fun K hK => ?_)
 refine Kd.R_append_step k103 w.heap.size (by rfl) (.tmp 56) (.tmp 63) 46 103 (.agg #[(.int .i64 0), (.int .i64 0)]) 16 rfl Try.underlying46 info103 rfl (by decide) (by omega) (.slice ak ap.length al) ap (⟨a6, bI⟩ : S103) [.int .i64 a6, .int .i64 bI] (fun _ => True) (fun _ => False) rfl rfl ?aP (fun _ hk => hk.elim) ?aF ?aO (Below.refl _ _) ?aS ?aL ?_
 (case aP => exact k103_mkM _ _ _ (⟨a6, bI⟩ : S103))
 (case aF => exact (fun _ _ => trivial))
 (case aO => exact (RT ad.out))
 (case aS => exact (KS HK))
 (case aL => have := LMc122.out; omega)
 intro jj ix ho hb hg hat
 rw [← d5.out] at ho
 have bv := AM_ (IsS164.grown (IZ ag) hg (IsS164.own_ne ag.out ad.out (by decide)))
 have bw := AM_ (blk_grown (BG1 ab) hg (Kd.R_ne ad.out ab.out (by decide)))
 have bx := AM_ (Kd.S_over' (ST ae.out) (Kd.R_typed (RT ad.out)) (by decide) hg)
 have bz := AM_ (Kd.R_over' (RT ac.out) (Kd.R_typed (RT ad.out)) (by decide) hg)
 have bA := AM_ (blk_grown (BG1 aa) hg (Kd.R_ne ad.out aa.out (by decide)))
 have bB := AM_ (Kd.R_over' (RT au.out) (Kd.R_typed (RT ad.out)) (by decide) hg)
 have bC := AM_ (below_weaken (BZ1 HB ag) HL.out hb)
 have bD := AM_ (KeepBut.trans (KZ HK) (KeepBut.of_grown hg g) (Kd.R_base2 ad.out))
 have bE := AM_ (ho)
 clear ag
 clear ab
 clear ae
 clear ac
 clear aa
 clear au
 clear HB
 clear HK
 clear ad
 have ag := bv
 have ab := bw
 have ae := bx
 have ac := bz
 have aa := bA
 have au := bB
 have HB := bC
 have HK := bD
 have bX := bE
 clear bv bw bx bz bA bB bC bD bE
 clear ho hb hg hat
 obtain ⟨d8, d9, bY⟩ := Kd.R_slice bX.out
 (first | subst bY | (injection bY with f1_ f2_ f3_; have f4_ := f1_.symm; have f5_ := f3_.symm; clear f1_ f2_ f3_; subst f4_; subst f5_))
 refine hK.out _ _ (b9 aa.out) (fun am => ?_)
 clear hK K
 refine NM 64 ?_
 refine PS aJ ?_
 refine last_ (i := 11) (N := none) (lo 12 12) rfl rfl (one_of aJ.out (by kernel_rfl)) (by decide) (fun K hK => ?_)
 have hs143 : ix.cell? ⟨af, 8, none⟩ = some (.slice ak ap.length al) := (blk_cell aa.out 8).trans rfl
 have hfs143 := blk_frozen aa.out 8
 have hns143_0 := aI.out
 have hms143_0 := aK.out
 refine skip_ (w1 := ?_) (by rfl) rfl ?_ ?_
 rotate_left
 ·go_simp
  rfl
 refine hK.out _ _ ?_
 clear hK K
 refine done_ (done_of aJ.out (by kernel_rfl)) ?_
 obtain ⟨ea, eb, ec, ed, ee, ef, eg, eh, ei, ej, ek, el, em, en, eo, ep, eq, er⟩ := bk9 aa.out
 have iy := ah.out
 have iz := aC.out
 obtain ⟨es, et, eu, ev, ew, ex, ey, ez, eA, eB, eC, eD, eE, eF, eG, eH, eI, eJ⟩ := bk9 ab.out
 try go_wp2
 refine bodyPost_ret (results_cell_row rfl _ _ aG 48 #[.int .i64 aw, .int .i64 ax, .int .i64 aA, .int .i64 av, .int .i64 aB, .int .i64 ay, .int .i64 az, .slice ai ao.length aj, .slice d8 iv.length d9] (0, 0) _ rfl (by (with_reducible repeat (first | refine blk_drewN ?_ _ | refine blk_drew ?_ | refine blk_alloc ?_ _)); apply BP9; exact BG1 ab) Try.underlying48 rfl (by kernel_rfl)) rfl ?_
 exact ⟨_, _, ER, by (with_reducible repeat (first | apply Kd.R_alloc | apply Kd.R_drewN | apply Kd.R_drew)); exact Kd.R_mono (RF9 (RF1 (Kd.R_types (Kd.R_types ac.out aa.out (by decide)) ab.out (by decide)) (fun _ hk => hk.1.2)) (fun _ hk => hk.2)) (fun _ hk => trivial), by (with_reducible repeat (first | apply Kd.R_alloc | apply Kd.R_drewN | apply Kd.R_drew)); exact Kd.R_mono (RF9 (RF1 (Kd.R_types (Kd.R_types bX.out aa.out (by decide)) ab.out (by decide)) (fun _ hk => hk.1.2)) (fun _ hk => hk.2)) (fun _ hk => trivial), IZ ag, BZ1 HB ag, KZ HK⟩

end Go.Proofs.Ytdgknikgfjhohaa.PFnSchemes
