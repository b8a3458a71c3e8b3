-- Printed by wip/myprint.py.
import Derived.Test.YtdgknikgfjhohaaPFnSchemesx4
import Derived.Test.YtdgknikgfjhohaaPFnSchemesx23
import Derived.Test.YtdgknikgfjhohaaPFnSchemesx31
namespace Go.Proofs.Ytdgknikgfjhohaa.PFnSchemes
open Go.RowKit Go.Proofs.YtdgknikgfjhohaaW.PrintWords Go.Proofs.YtdgknikgfjhohaaW.PrintLast Go.Proofs.YtdgknikgfjhohaaW.PrintMore
set_option maxHeartbeats 8000000
set_option maxRecDepth 100000
set_option linter.unusedVariables false
set_option linter.unusedSimpArgs false
attribute [local go_sem high] eqA52

/-! ### laws_FnSchemes: function 4 -/
mutual
def laws_FnSchemes.j0 : Nat → List Int → Int → Int → Bool → List (List (S52)) → Int → Int → Int → Int → Int → Int → Int → List (S116) → List (S103) → Int → Int → Int → Int → Int → Option (Bool)
 | 0, _, _, _, _, _, _, _, _, _, _, _, _, _, _, _, _, _, _, _ => none
 | k + 1, x0, x5, x7, av, aa, ai, ac, aj, ad, ak, al, am, an, ao, ae, af, ab, ag, ah => if av = true then (some false) else ((spec_DrawWriteCode.f k x0).bind fun bt859 => ((impl_WriteCode.f k bt859.1 bt859.2.1 bt859.2.2.1 bt859.2.2.2.1 bt859.2.2.2.2.1 bt859.2.2.2.2.2.1 bt859.2.2.2.2.2.2.1 bt859.2.2.2.2.2.2.2.1 bt859.2.2.2.2.2.2.2.2.1 bt859.2.2.2.2.2.2.2.2.2.1 bt859.2.2.2.2.2.2.2.2.2.2.1 bt859.2.2.2.2.2.2.2.2.2.2.2).bind fun ap => ((spec_WriteCode.f k bt859.1 bt859.2.1 bt859.2.2.1 bt859.2.2.2.1 bt859.2.2.2.2.1 bt859.2.2.2.2.2.1 bt859.2.2.2.2.2.2.1 bt859.2.2.2.2.2.2.2.1 bt859.2.2.2.2.2.2.2.2.1 bt859.2.2.2.2.2.2.2.2.2.1 bt859.2.2.2.2.2.2.2.2.2.2.1 bt859.2.2.2.2.2.2.2.2.2.2.2).bind fun aq => (if ap = aq then (if ap = 1 then ((impl_TakesLocks.f bt859.2.2.2.1).bind fun ar => (if ar = true then (if bt859.2.2.2.1 = 3 then (if ap = 0 then (laws_FnSchemes.j1 k x5 x7 false aa ai ac aj ad ak al am an ao ae af ab ag ah) else (laws_FnSchemes.j1 k x5 x7 (ap != 6) aa ai ac aj ad ak al am an ao ae af ab ag ah)) else (laws_FnSchemes.j1 k x5 x7 false aa ai ac aj ad ak al am an ao ae af ab ag ah)) else (laws_FnSchemes.j1 k x5 x7 true aa ai ac aj ad ak al am an ao ae af ab ag ah))) else (if bt859.2.2.2.1 = 3 then (if ap = 0 then (laws_FnSchemes.j1 k x5 x7 false aa ai ac aj ad ak al am an ao ae af ab ag ah) else (laws_FnSchemes.j1 k x5 x7 (ap != 6) aa ai ac aj ad ak al am an ao ae af ab ag ah)) else (laws_FnSchemes.j1 k x5 x7 false aa ai ac aj ad ak al am an ao ae af ab ag ah))) else (laws_FnSchemes.j1 k x5 x7 true aa ai ac aj ad ak al am an ao ae af ab ag ah)))))
def laws_FnSchemes.j1 : Nat → Int → Int → Bool → List (List (S52)) → Int → Int → Int → Int → Int → Int → Int → List (S116) → List (S103) → Int → Int → Int → Int → Int → Option (Bool)
 | 0, _, _, _, _, _, _, _, _, _, _, _, _, _, _, _, _, _, _ => none
 | k + 1, x5, x7, au, aa, ai, ac, aj, ad, ak, al, am, an, ao, ae, af, ab, ag, ah => if au = true then (some false) else (if x7 = 0 then (if ac = 2 then (some (decide (ab ≤ ad))) else (if 0 ≤ x5 then (if x5 < (aa.length : Int) then ((spec_LatestVersion.f k (rd_L3 aa x5)).bind fun bt885 => (some (ae == bt885.1 && (af == bt885.2.1 && (ab == bt885.2.2.1 && (ag == bt885.2.2.2.1 && (ah == bt885.2.2.2.2))))))) else (none)) else (none))) else (some true))
end
def laws_FnSchemes.f (k : Nat) (l0 : List Int) : Option (Bool) := (laws_big.f l0).bind fun aa => (if aa = true then (some true) else ((spec_DrawChooseVersion.f k l0).bind fun bt823 => ((impl_ChooseVersion.f k bt823.1 bt823.2.1 bt823.2.2.1 bt823.2.2.2.1 bt823.2.2.2.2.1 bt823.2.2.2.2.2.1 bt823.2.2.2.2.2.2.1 bt823.2.2.2.2.2.2.2.1 bt823.2.2.2.2.2.2.2.2.1 bt823.2.2.2.2.2.2.2.2.2.1 bt823.2.2.2.2.2.2.2.2.2.2).bind fun bt842 => ((spec_ChooseVersion.f k bt823.1 bt823.2.1 bt823.2.2.1 bt823.2.2.2.1 bt823.2.2.2.2.1 bt823.2.2.2.2.2.1 bt823.2.2.2.2.2.2.1 bt823.2.2.2.2.2.2.2.1 bt823.2.2.2.2.2.2.2.2.1 bt823.2.2.2.2.2.2.2.2.2.1 bt823.2.2.2.2.2.2.2.2.2.2).bind fun bt849 => (if (!(bt842.1 == bt849.1) || (!(bt842.2.1 == bt849.2.1) || (!(bt842.2.2.1 == bt849.2.2.1) || (!(bt842.2.2.2.1 == bt849.2.2.2.1) || (!(bt842.2.2.2.2.1 == bt849.2.2.2.2.1)))))) = true then (laws_FnSchemes.j0 k l0 bt823.2.2.2.2.2.2.2.2.2.2 bt842.2.2.2.2.2 true bt823.1 bt823.2.1 bt823.2.2.1 bt823.2.2.2.1 bt823.2.2.2.2.1 bt823.2.2.2.2.2.1 bt823.2.2.2.2.2.2.1 bt823.2.2.2.2.2.2.2.1 bt823.2.2.2.2.2.2.2.2.1 bt823.2.2.2.2.2.2.2.2.2.1 bt842.1 bt842.2.1 bt842.2.2.1 bt842.2.2.2.1 bt842.2.2.2.2.1) else (if bt842.2.2.2.2.2 = bt849.2.2.2.2.2 then ((impl_CommitCode.f k bt823.1 bt823.2.1 bt823.2.2.1 bt823.2.2.2.1 bt823.2.2.2.2.1 bt823.2.2.2.2.2.1 bt823.2.2.2.2.2.2.1 bt823.2.2.2.2.2.2.2.1 bt823.2.2.2.2.2.2.2.2.1 bt823.2.2.2.2.2.2.2.2.2.1).bind fun ab => ((spec_CommitCode.f k bt823.1 bt823.2.1 bt823.2.2.1 bt823.2.2.2.1 bt823.2.2.2.2.1 bt823.2.2.2.2.2.1 bt823.2.2.2.2.2.2.1 bt823.2.2.2.2.2.2.2.1 bt823.2.2.2.2.2.2.2.2.1 bt823.2.2.2.2.2.2.2.2.2.1).bind fun ac => (if ab = ac then ((impl_CodeName.f bt842.2.2.2.2.2).bind fun ad => (laws_FnSchemes.j0 k l0 bt823.2.2.2.2.2.2.2.2.2.2 bt842.2.2.2.2.2 (ad.toList == ([] : List UInt8)) bt823.1 bt823.2.1 bt823.2.2.1 bt823.2.2.2.1 bt823.2.2.2.2.1 bt823.2.2.2.2.2.1 bt823.2.2.2.2.2.2.1 bt823.2.2.2.2.2.2.2.1 bt823.2.2.2.2.2.2.2.2.1 bt823.2.2.2.2.2.2.2.2.2.1 bt842.1 bt842.2.1 bt842.2.2.1 bt842.2.2.2.1 bt842.2.2.2.2.1)) else (laws_FnSchemes.j0 k l0 bt823.2.2.2.2.2.2.2.2.2.2 bt842.2.2.2.2.2 true bt823.1 bt823.2.1 bt823.2.2.1 bt823.2.2.2.1 bt823.2.2.2.2.1 bt823.2.2.2.2.2.1 bt823.2.2.2.2.2.2.1 bt823.2.2.2.2.2.2.2.1 bt823.2.2.2.2.2.2.2.2.1 bt823.2.2.2.2.2.2.2.2.2.1 bt842.1 bt842.2.1 bt842.2.2.1 bt842.2.2.2.1 bt842.2.2.2.2.1)))) else (laws_FnSchemes.j0 k l0 bt823.2.2.2.2.2.2.2.2.2.2 bt842.2.2.2.2.2 true bt823.1 bt823.2.1 bt823.2.2.1 bt823.2.2.2.1 bt823.2.2.2.2.1 bt823.2.2.2.2.2.1 bt823.2.2.2.2.2.2.1 bt823.2.2.2.2.2.2.2.1 bt823.2.2.2.2.2.2.2.2.1 bt823.2.2.2.2.2.2.2.2.2.1 bt842.1 bt842.2.1 bt842.2.2.1 bt842.2.2.2.1 bt842.2.2.2.2.1)))))))
theorem laws_FnSchemes.mono_l : ∀ k, (∀ y0 y1 y2 y3 y4 y5 y6 y7 y8 y9 aa ab ac ad ae af ag ah ai, LeO (laws_FnSchemes.j0 k y0 y1 y2 y3 y4 y5 y6 y7 y8 y9 aa ab ac ad ae af ag ah ai) (laws_FnSchemes.j0 (k + 1) y0 y1 y2 y3 y4 y5 y6 y7 y8 y9 aa ab ac ad ae af ag ah ai)) ∧ (∀ y0 y1 y2 y3 y4 y5 y6 y7 y8 y9 aa ab ac ad ae af ag ah, LeO (laws_FnSchemes.j1 k y0 y1 y2 y3 y4 y5 y6 y7 y8 y9 aa ab ac ad ae af ag ah) (laws_FnSchemes.j1 (k + 1) y0 y1 y2 y3 y4 y5 y6 y7 y8 y9 aa ab ac ad ae af ag ah))
 | 0 => ⟨fun _ _ _ _ _ _ _ _ _ _ _ _ _ _ _ _ _ _ _ r h => by simp [laws_FnSchemes.j0] at h, fun _ _ _ _ _ _ _ _ _ _ _ _ _ _ _ _ _ _ r h => by simp [laws_FnSchemes.j1] at h⟩
 | k + 1 => by
  obtain ⟨aj, ak⟩ := laws_FnSchemes.mono_l k
  refine ⟨?_, ?_⟩
  all_goals intros; first | unfold laws_FnSchemes.j0 | unfold laws_FnSchemes.j1
  all_goals repeat' (with_reducible first | exact aj .. | exact ak .. | exact impl_ChooseVersion.mono .. | exact impl_CommitCode.mono .. | exact impl_WriteCode.mono .. | exact spec_ChooseVersion.mono .. | exact spec_CommitCode.mono .. | exact spec_DrawChooseVersion.mono .. | exact spec_DrawWriteCode.mono .. | exact spec_LatestVersion.mono .. | exact spec_WriteCode.mono .. | exact LeO.refl _ | exact LeO.none _ | refine LeO.ite ?_ ?_ | refine LeO.bind ?_ (fun _ => ?_))
theorem laws_FnSchemes.mono : ∀ a0 k, LeO (laws_FnSchemes.f k a0) (laws_FnSchemes.f (k + 1) a0) := by
 intro a0 k
 obtain ⟨aa, ab⟩ := laws_FnSchemes.mono_l k
 unfold laws_FnSchemes.f
 repeat' (with_reducible first | exact aa .. | exact ab .. | exact impl_ChooseVersion.mono .. | exact impl_CommitCode.mono .. | exact impl_WriteCode.mono .. | exact spec_ChooseVersion.mono .. | exact spec_CommitCode.mono .. | exact spec_DrawChooseVersion.mono .. | exact spec_DrawWriteCode.mono .. | exact spec_LatestVersion.mono .. | exact spec_WriteCode.mono .. | exact LeO.refl _ | exact LeO.none _ | refine LeO.ite ?_ ?_ | refine LeO.bind ?_ (fun _ => ?_))
def laws_FnSchemes.T6 : Bool × List (List Nat × List Nat) := (true, [([], []), ([], []), ([0, 1], [0, 1]), ([2], [2]), ([3], [3]), ([3], [3]), ([4, 5, 3], [3, 4, 5]), ([3, 6], [3, 6]), ([7, 3], [7]), ([8], [8]), ([8], [8]), ([9, 10, 8, 8], [8, 9, 10]), ([8], [8]), ([8], [8]), ([12, 13, 11, 8], [8, 12, 13]), ([11, 14, 8], [8, 11, 14]), ([8, 15], [8, 15]), ([16, 14], [16]), ([17], [17]), ([18, 17, 17], [17, 18]), ([19, 17], [17, 19]), ([17, 20], [17, 20])])
def laws_FnSchemes.B6 : List Nat := [0, 0, 3, 7, 15, 15, 63, 127, 255, 511, 511, 2047, 511, 511, 16383, 32767, 65535, 131071, 262143, 524287, 1048575, 2097151]
theorem laws_FnSchemes.tab6 : rtab .any (opsOf Try.f4 6) = laws_FnSchemes.T6 := by kernel_rfl
theorem laws_FnSchemes.bits6 : waitsOk laws_FnSchemes.T6.2 laws_FnSchemes.B6 = true := by kernel_rfl
def laws_FnSchemes.T16 : Bool × List (List Nat × List Nat) := (true, [([], []), ([], []), ([1], [1]), ([], []), ([2, 3], [2, 3]), ([4], [4]), ([5], [5]), ([0, 6], [0, 6]), ([7, 6, 0, 1, 2, 3, 4, 5, 6, 7], [7])])
def laws_FnSchemes.B16 : List Nat := [0, 0, 2, 0, 14, 30, 62, 127, 255]
theorem laws_FnSchemes.tab16 : rtab .any (opsOf Try.f4 16) = laws_FnSchemes.T16 := by kernel_rfl
theorem laws_FnSchemes.bits16 : waitsOk laws_FnSchemes.T16.2 laws_FnSchemes.B16 = true := by kernel_rfl
theorem laws_FnSchemes.calls (k : Nat) (A0 : Option Addr) (c0 : Nat) (l0 : List Int) (r : Bool) (w : World) (mK : Kd.C (Kd.int .u8) w A0 l0.length l0) (mL : l0.length ≤ c0) (h : laws_FnSchemes.f k l0 = some r) :
  Calls Try.prog 4 #[.slice A0 l0.length c0] w fun e w' => e = .returned (.bool r) ∧ Below w.heap.size w w' := by
 have nW := Try.underlying34
 have nX := Try.underlying48
 have nY := Try.underlying52
 have iV := AM_ mK
 have iW := AM_ mL
 clear mK mL
 have HB := AM_ (Below.refl w.heap.size w)
 unfold laws_FnSchemes.f at h
 have H := h
 clear h
 obtain ⟨jY, A2, H⟩ := OB H
 by_cases c3 : jY = true
 ·subst c3
  replace H := HT H
  obtain rfl := SI H
  go_enter Try.func4, Try.ntmps4
  go_wp2_with (first | ((with_reducible refine G1 10 rfl ?_); refine GC (some 16) Try.func10 #[.slice A0 l0.length c0] ?_; (with_reducible refine (laws_big.calls _ _ l0 true _ ?side1 iW.out A2.out).mono ?_); (case side1 => repeat (first | exact iV.out | (with_reducible refine Kd.C_alloc ?_ _) | (with_reducible refine Kd.C_drewN ?_ _) | (with_reducible refine Kd.C_drew ?_))); rintro e w' ⟨rfl, ⟨nd, rfl⟩⟩; refine ⟨_, rfl, ?_⟩))
  go_ret
  exact QT (BT HB.out)
 replace c3 := Bool.eq_false_iff.mpr c3
 subst c3
 replace H := HF H
 obtain ⟨⟨aw, aZ, aV, a1, a2, a3, a4, a5, ar, au, bF⟩, A4, H⟩ := OB H
 obtain ⟨⟨bo, bp, bq, br, bu, bK⟩, A5, H⟩ := OB H
 obtain ⟨⟨bv, bw, bx, bz, bA, cc⟩, A6, H⟩ := OB H
 have jZ := AM_ H
 clear H
 go_enter Try.func4, Try.ntmps4
 go_upto_region 6 with (first | ((with_reducible refine G1 10 rfl ?_); refine GC (some 16) Try.func10 #[.slice A0 l0.length c0] ?_; (with_reducible refine (laws_big.calls _ _ l0 false _ ?side1 iW.out A2.out).mono ?_); (case side1 => repeat (first | exact iV.out | (with_reducible refine Kd.C_alloc ?_ _) | (with_reducible refine Kd.C_drewN ?_ _) | (with_reducible refine Kd.C_drew ?_))); rintro e w' ⟨rfl, ⟨nd, rfl⟩⟩; refine ⟨_, rfl, ?_⟩) | ((with_reducible refine G1 11 rfl ?_); refine GC (some 19) Try.func11 #[.slice A0 l0.length c0] ?_; (with_reducible refine (spec_DrawChooseVersion.calls k _ _ l0 aw aZ aV a1 a2 a3 a4 a5 ar au bF _ ?side1 iW.out A4.out).mono ?_); (case side1 => repeat (first | exact iV.out | (with_reducible refine Kd.C_alloc ?_ _) | (with_reducible refine Kd.C_drewN ?_ _) | (with_reducible refine Kd.C_drew ?_))); rintro e w8 ⟨nZ, j2, j3, rfl, h2, hZ, hV, hb⟩; refine ⟨_, rfl, ?_⟩; have ae := AM_ (Kd.V_lower (Kd.V_mono (ok' := fun k_ => some k_ ≠ (j2 : Value).ownBlock ∧ some k_ ≠ (j3 : Value).ownBlock) h2 (fun k_ hk_ => ⟨hk_.2.1, hk_.2.2⟩)) (below_size (BT HB.out))); have af := AM_ (Kd.R_lower (Kd.R_mono (ok' := fun k_ => True) hZ (fun _ hk_ => trivial)) (below_size (BT HB.out))); have ag := AM_ (Kd.R_lower (Kd.R_mono (ok' := fun k_ => True) hV (fun _ hk_ => trivial)) (below_size (BT HB.out))); replace HB := BW HB hb; (try clear hb); (try clear h2); (try clear hZ); (try clear hV)) | ((with_reducible refine G2 3 rfl ?_); refine BX 3 #[.slice none 0 0] 34 ?_; intro aG hg w9 hbox hb; replace ae := AM_ (Kd.V_below (Kd.V_elderB (by (with_reducible repeat (first | apply Kd.V_alloc | apply Kd.V_drewN | apply Kd.V_drew)); exact ae.out) aG (Nat.le_of_eq hg.symm)) hb); replace af := RB af hb; replace ag := RB ag hb; have ad := AM_ (hbox); have mM := AM_ ((GS HB.out hg)); replace HB := BW HB hb; clear hb hbox hg) | ((with_reducible refine G2 4 rfl ?_); refine BX 4 #[.int .i64 0, .int .i64 0, .int .i64 0, .int .i64 0, .int .i64 0, .int .i64 0, .int .i64 0, .slice none 0 0, .slice none 0 0] 48 ?_; intro aq hg og hbox hb; replace ae := AM_ (Kd.V_below (Kd.V_elderB (by (with_reducible repeat (first | apply Kd.V_alloc | apply Kd.V_drewN | apply Kd.V_drew)); exact ae.out) aq (Nat.le_of_eq hg.symm)) hb); replace af := RB af hb; replace ag := RB ag hb; have aa := AM_ (hbox); have mN := AM_ ((GS HB.out hg)); replace HB := BW HB hb; have av := NP ad hg; have bL := NQ ad hg; replace ad := BV ad hb; clear hb hbox hg; obtain ⟨ba, a6, j4⟩ := Kd.V_slice ae.out; subst j4; have mO := av.out; have mP := bL.out; obtain ⟨iX, iY⟩ := bk1 ad.out; obtain ⟨iZ, i0, i1, i2, i3, i4, i5, i6, i7, i8, i9, ja, jb, jc, jd, je, jf, jg⟩ := bk9 aa.out; obtain ⟨aK, aH, j5⟩ := Kd.R_slice af.out; subst j5; obtain ⟨aL, aI, j6⟩ := Kd.R_slice ag.out; subst j6) | ((with_reducible refine G1 12 rfl ?_); refine GC (some 27) Try.func12 #[.agg #[.slice ba aw.length a6], .agg #[.int .i64 aZ, .int .i64 aV, .int .i64 a1, .int .i64 a2, .int .i64 a3, .int .i64 a4, .int .i64 a5, .slice aK ar.length aH, .slice aL au.length aI], .int .i64 bF] ?_; (with_reducible refine (impl_ChooseVersion.calls k _ _ aw aZ aV a1 a2 a3 a4 a5 _ _ ar _ _ au bF bo bp bq br bu bK _ ?side1 (Kd.V_reads' ae.out).2.1 ?side3 (Kd.R_reads' af.out).2.1 ?side5 (Kd.R_reads' ag.out).2.1 A5.out).mono ?_); (case side1 => refine (Kd.V_reads' (e := 62) (base := w.heap.size) (ok := fun k_ => (((some k_ ≠ (.slice aK ar.length aH : Value).ownBlock ∧ some k_ ≠ (.slice aL au.length aI : Value).ownBlock) ∧ k_ ≠ aG) ∧ k_ ≠ aq)) (n := aw.length) (c := a6) ?_).2.2; exact (by (with_reducible repeat (first | apply Kd.V_alloc | apply Kd.V_drewN | apply Kd.V_drew)); exact (Kd.V_mono (Kd.V_mono (VF9 (VF1 (Kd.V_mono (Kd.V_mono ae.out (fun k_ hk => (⟨hk, hk.1.2⟩ : _ ∧ k_ ≠ aG))) (fun k_ hk => (⟨hk, hk.1.2⟩ : _ ∧ k_ ≠ aq))) (fun _ hk => hk.1.2)) (fun _ hk => hk.2)) (fun _ h_ => h_.1)) (fun _ h_ => h_.1)))); (case side3 => refine (Kd.R_reads' (e := 116) (base := w.heap.size) (ok := fun k_ => True) (n := ar.length) (c := aH) ?_).2.2; exact (by (with_reducible repeat (first | apply Kd.R_alloc | apply Kd.R_drewN | apply Kd.R_drew)); exact (Kd.R_mono (Kd.R_mono (RF9 (RF1 (Kd.R_types (Kd.R_types af.out ad.out (by decide)) aa.out (by decide)) (fun _ hk => hk.1.2)) (fun _ hk => hk.2)) (fun _ h_ => h_.1)) (fun _ h_ => h_.1)))); (case side5 => refine (Kd.R_reads' (e := 103) (base := w.heap.size) (ok := fun k_ => True) (n := au.length) (c := aI) ?_).2.2; exact (by (with_reducible repeat (first | apply Kd.R_alloc | apply Kd.R_drewN | apply Kd.R_drew)); exact (Kd.R_mono (Kd.R_mono (RF9 (RF1 (Kd.R_types (Kd.R_types ag.out ad.out (by decide)) aa.out (by decide)) (fun _ hk => hk.1.2)) (fun _ hk => hk.2)) (fun _ h_ => h_.1)) (fun _ h_ => h_.1)))); rintro e oh ⟨rfl, hb⟩; refine ⟨_, rfl, ?_⟩; replace ae := AM_ (Kd.V_below (by (with_reducible repeat (first | apply Kd.V_alloc | apply Kd.V_drewN | apply Kd.V_drew)); exact (Kd.V_mono (Kd.V_mono (VF9 (VF1 (Kd.V_mono (Kd.V_mono ae.out (fun k_ hk => (⟨hk, hk.1.2⟩ : _ ∧ k_ ≠ aG))) (fun k_ hk => (⟨hk, hk.1.2⟩ : _ ∧ k_ ≠ aq))) (fun _ hk => hk.1.2)) (fun _ hk => hk.2)) (fun _ h_ => h_.1)) (fun _ h_ => h_.1))) hb); replace af := AM_ (Kd.R_below (by (with_reducible repeat (first | apply Kd.R_alloc | apply Kd.R_drewN | apply Kd.R_drew)); exact (Kd.R_mono (Kd.R_mono (RF9 (RF1 (Kd.R_types (Kd.R_types af.out ad.out (by decide)) aa.out (by decide)) (fun _ hk => hk.1.2)) (fun _ hk => hk.2)) (fun _ h_ => h_.1)) (fun _ h_ => h_.1))) hb); replace ag := AM_ (Kd.R_below (by (with_reducible repeat (first | apply Kd.R_alloc | apply Kd.R_drewN | apply Kd.R_drew)); exact (Kd.R_mono (Kd.R_mono (RF9 (RF1 (Kd.R_types (Kd.R_types ag.out ad.out (by decide)) aa.out (by decide)) (fun _ hk => hk.1.2)) (fun _ hk => hk.2)) (fun _ h_ => h_.1)) (fun _ h_ => h_.1))) hb); replace ad := AM_ (blk_below (g := aG) (o := .cells #[.slice ba aw.length a6] 34 (0, 0)) (by (with_reducible repeat (first | refine blk_drewN ?_ _ | refine blk_drew ?_ | refine blk_alloc ?_ _)); refine blk_far ?_ av.out _; (with_reducible repeat (first | refine blk_drewN ?_ _ | refine blk_drew ?_ | refine blk_alloc ?_ _)); refine blk_far ?_ av.out _; (with_reducible repeat (first | refine blk_drewN ?_ _ | refine blk_drew ?_ | refine blk_alloc ?_ _)); refine blk_far ?_ av.out _; (with_reducible repeat (first | refine blk_drewN ?_ _ | refine blk_drew ?_ | refine blk_alloc ?_ _)); refine blk_far ?_ av.out _; (with_reducible repeat (first | refine blk_drewN ?_ _ | refine blk_drew ?_ | refine blk_alloc ?_ _)); refine blk_far ?_ av.out _; (with_reducible repeat (first | refine blk_drewN ?_ _ | refine blk_drew ?_ | refine blk_alloc ?_ _)); refine blk_far ?_ av.out _; (with_reducible repeat (first | refine blk_drewN ?_ _ | refine blk_drew ?_ | refine blk_alloc ?_ _)); refine blk_far ?_ av.out _; (with_reducible repeat (first | refine blk_drewN ?_ _ | refine blk_drew ?_ | refine blk_alloc ?_ _)); refine blk_far ?_ av.out _; (with_reducible repeat (first | refine blk_drewN ?_ _ | refine blk_drew ?_ | refine blk_alloc ?_ _)); refine blk_far ?_ av.out _; (with_reducible repeat (first | refine blk_drewN ?_ _ | refine blk_drew ?_ | refine blk_alloc ?_ _)); refine blk_put (cs := #[.slice none 0 0]) ?_ 0 _ rfl; (with_reducible repeat (first | refine blk_drewN ?_ _ | refine blk_drew ?_ | refine blk_alloc ?_ _)); exact ad.out) hb); replace aa := AM_ (blk_below (g := aq) (o := .cells #[.int .i64 aZ, .int .i64 aV, .int .i64 a1, .int .i64 a2, .int .i64 a3, .int .i64 a4, .int .i64 a5, .slice aK ar.length aH, .slice aL au.length aI] 48 (0, 0)) (by (with_reducible repeat (first | refine blk_drewN ?_ _ | refine blk_drew ?_ | refine blk_alloc ?_ _)); apply BP9; exact BG1 aa) hb); replace HB := BW HB hb; (try clear hb)) | ((with_reducible refine G2 6 rfl ?_); refine BX 6 #[.int .i64 0, .int .i64 0, .int .i64 0, .int .i64 0, .int .i64 0] 52 ?_; intro an hg oi hbox hb; replace ae := AM_ (Kd.V_below (Kd.V_elderB (by (with_reducible repeat (first | apply Kd.V_alloc | apply Kd.V_drewN | apply Kd.V_drew)); exact ae.out) an (Nat.le_of_eq hg.symm)) hb); replace af := RB af hb; replace ag := RB ag hb; have ab := AM_ (hbox); have mQ := AM_ ((GS HB.out hg)); replace HB := BW HB hb; have bM := NP ad hg; have bV := NQ ad hg; replace ad := BV ad hb; have bD := NP aa hg; have bN := NQ aa hg; replace aa := BV aa hb; clear hb hbox hg; have mR := bV.out; have mS := bM.out; have mT := bN.out; have mU := bD.out; obtain ⟨jh, ji, jj, jk, jl, jm, jn, jo, jp, jq⟩ := bk5 ab.out; obtain ⟨jr, js⟩ := bk1 ad.out; obtain ⟨jt, ju, jv, jw, jx, jy, jz, jA, jB, jC, jD, jE, jF, jG, jH, jI, jJ, jK⟩ := bk9 aa.out) | ((with_reducible refine G1 13 rfl ?_); refine GC (some 34) Try.func13 #[.agg #[.slice ba aw.length a6], .agg #[.int .i64 aZ, .int .i64 aV, .int .i64 a1, .int .i64 a2, .int .i64 a3, .int .i64 a4, .int .i64 a5, .slice aK ar.length aH, .slice aL au.length aI], .int .i64 bF] ?_; (with_reducible refine (spec_ChooseVersion.calls k _ _ aw aZ aV a1 a2 a3 a4 a5 _ _ ar _ _ au bF bv bw bx bz bA cc _ ?side1 (Kd.V_reads' ae.out).2.1 ?side3 (Kd.R_reads' af.out).2.1 ?side5 (Kd.R_reads' ag.out).2.1 A6.out).mono ?_); (case side1 => refine (Kd.V_reads' (e := 62) (base := w.heap.size) (ok := fun k_ => ((((some k_ ≠ (.slice aK ar.length aH : Value).ownBlock ∧ some k_ ≠ (.slice aL au.length aI : Value).ownBlock) ∧ k_ ≠ aG) ∧ k_ ≠ aq) ∧ k_ ≠ an)) (n := aw.length) (c := a6) ?_).2.2; exact (by (with_reducible repeat (first | apply Kd.V_alloc | apply Kd.V_drewN | apply Kd.V_drew)); exact (Kd.V_mono (VF5 (Kd.V_mono ae.out (fun k_ hk => (⟨hk, hk.2⟩ : _ ∧ k_ ≠ an))) (fun _ hk => hk.2)) (fun _ h_ => h_.1)))); (case side3 => exact CF af.out ab.out); (case side5 => exact CF ag.out ab.out); rintro e oj ⟨rfl, hb⟩; refine ⟨_, rfl, ?_⟩; replace ae := AM_ (Kd.V_below (by (with_reducible repeat (first | apply Kd.V_alloc | apply Kd.V_drewN | apply Kd.V_drew)); exact (Kd.V_mono (VF5 (Kd.V_mono ae.out (fun k_ hk => (⟨hk, hk.2⟩ : _ ∧ k_ ≠ an))) (fun _ hk => hk.2)) (fun _ h_ => h_.1))) hb); replace af := AM_ (Kd.R_below (RF af.out ab.out) hb); replace ag := AM_ (Kd.R_below (RF ag.out ab.out) hb); replace ad := AM_ (BF ad.out bM.out hb); replace aa := AM_ (BF aa.out bD.out hb); replace ab := AM_ (BP #[.int .i64 bo, .int .i64 bp, .int .i64 bq, .int .i64 br, .int .i64 bu] ab.out hb); replace HB := BW HB hb; (try clear hb)) | ((with_reducible refine G2 8 rfl ?_); refine BX 8 #[.int .i64 0, .int .i64 0, .int .i64 0, .int .i64 0, .int .i64 0] 52 ?_; intro ah hg jL hbox hb; replace ae := AM_ (Kd.V_below (Kd.V_elderB (by (with_reducible repeat (first | apply Kd.V_alloc | apply Kd.V_drewN | apply Kd.V_drew)); exact ae.out) ah (Nat.le_of_eq hg.symm)) hb); replace af := RB af hb; replace ag := RB ag hb; have ac := AM_ (hbox); have mV := AM_ ((GS HB.out hg)); replace HB := BW HB hb; have bj := NP ad hg; have cd := NQ ad hg; replace ad := BV ad hb; have aY := NP aa hg; have bO := NQ aa hg; replace aa := BV aa hb; have a8 := NP ab hg; have bW := NQ ab hg; replace ab := BV ab hb; clear hb hbox hg; have mW := cd.out; have mX := bj.out; have mY := bO.out; have mZ := aY.out; have m0 := bW.out; have m1 := a8.out; obtain ⟨jM, jN, jO, jP, jQ, jR, jS, jT, jU, jV⟩ := bk5 ac.out))
 (try simp only [pA, pS, pZ, pK])
 go_cut [58] (fun n0 wc => ∃ (kq : Nat) (b8 : Bool), n0 = .bool b8 ∧ Aside0 (laws_FnSchemes.j0 kq l0 bF bK b8 aw aZ aV a1 a2 a3 a4 a5 ar au bo bp bq br bu = some r) ∧ Aside0 (kq ≤ k) ∧ Aside0 (Kd.V (Kd.slice 52 k52) 62 wc w.heap.size (fun k_ => some k_ ≠ ((.slice aK ar.length aH) : Value).ownBlock ∧ some k_ ≠ ((.slice aL au.length aI) : Value).ownBlock ∧ k_ ≠ aG ∧ k_ ≠ aq ∧ k_ ≠ an ∧ k_ ≠ ah) (.slice ba aw.length a6) aw) ∧ Aside0 (Kd.R k116 116 wc w.heap.size (fun _ => True) (.slice aK ar.length aH) ar) ∧ Aside0 (Kd.R k103 103 wc w.heap.size (fun _ => True) (.slice aL au.length aI) au) ∧ Aside0 (wc.heap[aG]? = some (.cells #[(.slice ba aw.length a6)] 34 (0, 0))) ∧ Aside0 (wc.heap[aq]? = some (.cells #[.int .i64 aZ, .int .i64 aV, .int .i64 a1, .int .i64 a2, .int .i64 a3, .int .i64 a4, .int .i64 a5, (.slice aK ar.length aH), (.slice aL au.length aI)] 48 (0, 0))) ∧ Aside0 (wc.heap[an]? = some (.cells #[.int .i64 bo, .int .i64 bp, .int .i64 bq, .int .i64 br, .int .i64 bu] 52 (0, 0))) ∧ Aside0 (wc.heap[ah]? = some (.cells #[.int .i64 bv, .int .i64 bw, .int .i64 bx, .int .i64 bz, .int .i64 bA] 52 (0, 0))) ∧ Aside0 (Below w.heap.size w wc))
 case first =>
  have H := jZ.out
  clear jZ
  by_cases h0 : (!(bo == bv) || (!(bp == bw) || (!(bq == bx) || (!(br == bz) || (!(bu == bA)))))) = true
  ·rw [if_pos h0] at H
   have bZ : (!(bo == bv) || (!(bp == bw) || (!(bq == bx) || (!(br == bz) || (!(bu == bA)))))) = true := h0
   clear h0
   (first | rw [bZ] | (simp only [i64_w, i32_w]; rw [bZ]) | skip)
   have H' := AM_ H
   clear H
   try go_wp2
   generalize bm : ((((jL.setCell ⟨ah, 0, none⟩ (.int .i64 bv)).setCell ⟨ah, 1, none⟩ (.int .i64 bw)).setCell ⟨ah, 2, none⟩ (.int .i64 bx)).setCell ⟨ah, 3, none⟩ (.int .i64 bz)).setCell ⟨ah, 4, none⟩ (.int .i64 bA) = gy
   have ce : Aside0 (Kd.V (Kd.slice 52 k52) 62 gy w.heap.size (fun k_ => some k_ ≠ (.slice aK ar.length aH : Value).ownBlock ∧ some k_ ≠ (.slice aL au.length aI : Value).ownBlock ∧ k_ ≠ aG ∧ k_ ≠ aq ∧ k_ ≠ an ∧ k_ ≠ ah) (.slice ba aw.length a6) aw) := by subst bm; exact ⟨by (with_reducible repeat (first | apply Kd.V_alloc | apply Kd.V_drewN | apply Kd.V_drew)); exact Kd.V_mono (VF5 (Kd.V_mono ae.out (fun k_ hk => (⟨hk, hk.2⟩ : _ ∧ k_ ≠ ah))) (fun _ hk => hk.2)) (fun _ hk => ⟨hk.1.1.1.1.1.1, ⟨hk.1.1.1.1.1.2, ⟨hk.1.1.1.1.2, ⟨hk.1.1.1.2, ⟨hk.1.1.2, hk.1.2⟩⟩⟩⟩⟩)⟩
   have cf : Aside0 (Kd.R k116 116 gy w.heap.size (fun _ => True) (.slice aK ar.length aH) ar) := by subst bm; exact ⟨by (with_reducible repeat (first | apply Kd.R_alloc | apply Kd.R_drewN | apply Kd.R_drew)); exact Kd.R_mono (RF5 (Kd.R_types af.out ac.out (by decide)) (fun _ hk => hk.2)) (fun _ hk => trivial)⟩
   have cg : Aside0 (Kd.R k103 103 gy w.heap.size (fun _ => True) (.slice aL au.length aI) au) := by subst bm; exact ⟨by (with_reducible repeat (first | apply Kd.R_alloc | apply Kd.R_drewN | apply Kd.R_drew)); exact Kd.R_mono (RF5 (Kd.R_types ag.out ac.out (by decide)) (fun _ hk => hk.2)) (fun _ hk => trivial)⟩
   have ch : Aside0 (gy.heap[aG]? = some (.cells #[.slice ba aw.length a6] 34 (0, 0))) := by subst bm; exact ⟨BG ad.out bj.out⟩
   have ci : Aside0 (gy.heap[aq]? = some (.cells #[.int .i64 aZ, .int .i64 aV, .int .i64 a1, .int .i64 a2, .int .i64 a3, .int .i64 a4, .int .i64 a5, .slice aK ar.length aH, .slice aL au.length aI] 48 (0, 0))) := by subst bm; exact ⟨BG aa.out aY.out⟩
   have cj : Aside0 (gy.heap[an]? = some (.cells #[.int .i64 bo, .int .i64 bp, .int .i64 bq, .int .i64 br, .int .i64 bu] 52 (0, 0))) := by subst bm; exact ⟨BG ab.out a8.out⟩
   have ck : Aside0 (gy.heap[ah]? = some (.cells #[.int .i64 bv, .int .i64 bw, .int .i64 bx, .int .i64 bz, .int .i64 bA] 52 (0, 0))) := by subst bm; exact ⟨BQ ac.out⟩
   have cl : Aside0 (Below w.heap.size w gy) := by subst bm; exact ⟨BT HB.out⟩
   (try clear ae)
   (try clear af)
   (try clear ag)
   (try clear ad)
   (try clear aa)
   (try clear ab)
   (try clear ac)
   (try clear HB)
   clear bm
   have ae := ce
   have af := cf
   have ag := cg
   have ad := ch
   have aa := ci
   have ab := cj
   have ac := ck
   have HB := cl
   clear ce cf cg ch ci cj ck cl
   replace ae := AM_ (Kd.V_drew ae.out)
   replace af := AM_ (Kd.R_drew af.out)
   replace ag := AM_ (Kd.R_drew ag.out)
   replace ad := BD1 ad
   replace aa := BD1 aa
   replace ab := BD1 ab
   replace ac := BD1 ac
   replace HB := BD2 HB
   refine start_ (n := 22) (S := fun w' => w'.cell? ⟨an, 0, none⟩ = some (.int .i64 bo) ∧ w'.cell? ⟨an, 1, none⟩ = some (.int .i64 bp) ∧ w'.cell? ⟨an, 2, none⟩ = some (.int .i64 bq) ∧ w'.cell? ⟨an, 3, none⟩ = some (.int .i64 br) ∧ w'.cell? ⟨an, 4, none⟩ = some (.int .i64 bu) ∧ w'.cell? ⟨ah, 0, none⟩ = some (.int .i64 bv) ∧ w'.cell? ⟨ah, 1, none⟩ = some (.int .i64 bw) ∧ w'.cell? ⟨ah, 2, none⟩ = some (.int .i64 bx) ∧ w'.cell? ⟨ah, 3, none⟩ = some (.int .i64 bz) ∧ w'.cell? ⟨ah, 4, none⟩ = some (.int .i64 bA)) (ds := []) (lo 0 22) (by kernel_rfl) rfl rfl ⟨bc ab.out 0, bc ab.out 1, bc ab.out 2, bc ab.out 3, bc ab.out 4, bc ac.out 0, bc ac.out 1, bc ac.out 2, bc ac.out 3, bc ac.out 4⟩ (fun ax => ?_); refine with_tabW laws_FnSchemes.tab6 laws_FnSchemes.bits6 (fun bk b2 => ?_)
   generalize gy.drew = ol at ae af ag ad aa ab ac HB ax ⊢
   iterate 22 first | refine PS bk ?_ | refine PT bk ?_ | refine TS bk b2 ax ?_
   refine done_ (done_of bk.out (by kernel_rfl)) ?_
   try go_wp2
   go_meet
   case rel => exact ⟨_, (true), (by first | rfl | (simp; done) | (simp [*]; done)), H', ⟨by first | omega | exact Nat.le_refl _⟩, ⟨by (with_reducible repeat (first | apply Kd.V_alloc | apply Kd.V_drewN | apply Kd.V_drew)); exact ae.out⟩, ⟨RT af.out⟩, ⟨RT ag.out⟩, ⟨BH ad.out⟩, ⟨BH aa.out⟩, ⟨BH ab.out⟩, ⟨BH ac.out⟩, ⟨BT HB.out⟩⟩
  rw [if_neg h0] at H
  have bZ : (!(bo == bv) || (!(bp == bw) || (!(bq == bx) || (!(br == bz) || (!(bu == bA)))))) = false := by simpa using h0
  clear h0
  (first | rw [bZ] | (simp only [i64_w, i32_w]; rw [bZ]) | skip)
  by_cases gz : bK = cc
  rotate_left
  ·rw [if_neg gz] at H
   have cm : (bK == cc) = false := beq_eq_false_iff_ne.mpr gz
   have c33b1 : (bK != cc) = true := bne_iff_ne.mpr gz
   have H' := AM_ H
   clear H
   try go_wp2
   generalize bm : ((((jL.setCell ⟨ah, 0, none⟩ (.int .i64 bv)).setCell ⟨ah, 1, none⟩ (.int .i64 bw)).setCell ⟨ah, 2, none⟩ (.int .i64 bx)).setCell ⟨ah, 3, none⟩ (.int .i64 bz)).setCell ⟨ah, 4, none⟩ (.int .i64 bA) = gA
   have ce : Aside0 (Kd.V (Kd.slice 52 k52) 62 gA w.heap.size (fun k_ => some k_ ≠ (.slice aK ar.length aH : Value).ownBlock ∧ some k_ ≠ (.slice aL au.length aI : Value).ownBlock ∧ k_ ≠ aG ∧ k_ ≠ aq ∧ k_ ≠ an ∧ k_ ≠ ah) (.slice ba aw.length a6) aw) := by subst bm; exact ⟨by (with_reducible repeat (first | apply Kd.V_alloc | apply Kd.V_drewN | apply Kd.V_drew)); exact Kd.V_mono (VF5 (Kd.V_mono ae.out (fun k_ hk => (⟨hk, hk.2⟩ : _ ∧ k_ ≠ ah))) (fun _ hk => hk.2)) (fun _ hk => ⟨hk.1.1.1.1.1.1, ⟨hk.1.1.1.1.1.2, ⟨hk.1.1.1.1.2, ⟨hk.1.1.1.2, ⟨hk.1.1.2, hk.1.2⟩⟩⟩⟩⟩)⟩
   have cf : Aside0 (Kd.R k116 116 gA w.heap.size (fun _ => True) (.slice aK ar.length aH) ar) := by subst bm; exact ⟨by (with_reducible repeat (first | apply Kd.R_alloc | apply Kd.R_drewN | apply Kd.R_drew)); exact Kd.R_mono (RF5 (Kd.R_types af.out ac.out (by decide)) (fun _ hk => hk.2)) (fun _ hk => trivial)⟩
   have cg : Aside0 (Kd.R k103 103 gA w.heap.size (fun _ => True) (.slice aL au.length aI) au) := by subst bm; exact ⟨by (with_reducible repeat (first | apply Kd.R_alloc | apply Kd.R_drewN | apply Kd.R_drew)); exact Kd.R_mono (RF5 (Kd.R_types ag.out ac.out (by decide)) (fun _ hk => hk.2)) (fun _ hk => trivial)⟩
   have ch : Aside0 (gA.heap[aG]? = some (.cells #[.slice ba aw.length a6] 34 (0, 0))) := by subst bm; exact ⟨BG ad.out bj.out⟩
   have ci : Aside0 (gA.heap[aq]? = some (.cells #[.int .i64 aZ, .int .i64 aV, .int .i64 a1, .int .i64 a2, .int .i64 a3, .int .i64 a4, .int .i64 a5, .slice aK ar.length aH, .slice aL au.length aI] 48 (0, 0))) := by subst bm; exact ⟨BG aa.out aY.out⟩
   have cj : Aside0 (gA.heap[an]? = some (.cells #[.int .i64 bo, .int .i64 bp, .int .i64 bq, .int .i64 br, .int .i64 bu] 52 (0, 0))) := by subst bm; exact ⟨BG ab.out a8.out⟩
   have ck : Aside0 (gA.heap[ah]? = some (.cells #[.int .i64 bv, .int .i64 bw, .int .i64 bx, .int .i64 bz, .int .i64 bA] 52 (0, 0))) := by subst bm; exact ⟨BQ ac.out⟩
   have cl : Aside0 (Below w.heap.size w gA) := by subst bm; exact ⟨BT HB.out⟩
   (try clear ae)
   (try clear af)
   (try clear ag)
   (try clear ad)
   (try clear aa)
   (try clear ab)
   (try clear ac)
   (try clear HB)
   clear bm
   have ae := ce
   have af := cf
   have ag := cg
   have ad := ch
   have aa := ci
   have ab := cj
   have ac := ck
   have HB := cl
   clear ce cf cg ch ci cj ck cl
   replace ae := AM_ (Kd.V_drew ae.out)
   replace af := AM_ (Kd.R_drew af.out)
   replace ag := AM_ (Kd.R_drew ag.out)
   replace ad := BD1 ad
   replace aa := BD1 aa
   replace ab := BD1 ab
   replace ac := BD1 ac
   replace HB := BD2 HB
   refine start_ (n := 22) (S := fun w' => w'.cell? ⟨an, 0, none⟩ = some (.int .i64 bo) ∧ w'.cell? ⟨an, 1, none⟩ = some (.int .i64 bp) ∧ w'.cell? ⟨an, 2, none⟩ = some (.int .i64 bq) ∧ w'.cell? ⟨an, 3, none⟩ = some (.int .i64 br) ∧ w'.cell? ⟨an, 4, none⟩ = some (.int .i64 bu) ∧ w'.cell? ⟨ah, 0, none⟩ = some (.int .i64 bv) ∧ w'.cell? ⟨ah, 1, none⟩ = some (.int .i64 bw) ∧ w'.cell? ⟨ah, 2, none⟩ = some (.int .i64 bx) ∧ w'.cell? ⟨ah, 3, none⟩ = some (.int .i64 bz) ∧ w'.cell? ⟨ah, 4, none⟩ = some (.int .i64 bA)) (ds := []) (lo 0 22) (by kernel_rfl) rfl rfl ⟨bc ab.out 0, bc ab.out 1, bc ab.out 2, bc ab.out 3, bc ab.out 4, bc ac.out 0, bc ac.out 1, bc ac.out 2, bc ac.out 3, bc ac.out 4⟩ (fun ax => ?_); refine with_tabW laws_FnSchemes.tab6 laws_FnSchemes.bits6 (fun bk b2 => ?_)
   generalize gA.drew = om at ae af ag ad aa ab ac HB ax ⊢
   iterate 22 first | refine PS bk ?_ | refine PT bk ?_ | refine TS bk b2 ax ?_
   refine done_ (done_of bk.out (by kernel_rfl)) ?_
   try go_wp2
   go_meet
   case rel => exact ⟨_, (true), (by first | rfl | (simp; done) | (simp [*]; done)), H', ⟨by first | omega | exact Nat.le_refl _⟩, ⟨by (with_reducible repeat (first | apply Kd.V_alloc | apply Kd.V_drewN | apply Kd.V_drew)); exact ae.out⟩, ⟨RT af.out⟩, ⟨RT ag.out⟩, ⟨BH ad.out⟩, ⟨BH aa.out⟩, ⟨BH ab.out⟩, ⟨BH ac.out⟩, ⟨BT HB.out⟩⟩
  rw [if_pos gz] at H
  have cm : (bK == cc) = true := beq_iff_eq.mpr gz
  have c33b1 : (bK != cc) = false := bne_eq_false_iff_eq.mpr gz
  clear gz
  obtain ⟨b3, m2, H⟩ := OB H
  obtain ⟨b4, m3, H⟩ := OB H
  by_cases gB : b3 = b4
  rotate_left
  ·rw [if_neg gB] at H
   have cn : (b3 == b4) = false := beq_eq_false_iff_ne.mpr gB
   have c36b1 : (b3 != b4) = true := bne_iff_ne.mpr gB
   have H' := AM_ H
   clear H
   try go_wp2
   generalize bm : ((((jL.setCell ⟨ah, 0, none⟩ (.int .i64 bv)).setCell ⟨ah, 1, none⟩ (.int .i64 bw)).setCell ⟨ah, 2, none⟩ (.int .i64 bx)).setCell ⟨ah, 3, none⟩ (.int .i64 bz)).setCell ⟨ah, 4, none⟩ (.int .i64 bA) = gC
   have ce : Aside0 (Kd.V (Kd.slice 52 k52) 62 gC w.heap.size (fun k_ => some k_ ≠ (.slice aK ar.length aH : Value).ownBlock ∧ some k_ ≠ (.slice aL au.length aI : Value).ownBlock ∧ k_ ≠ aG ∧ k_ ≠ aq ∧ k_ ≠ an ∧ k_ ≠ ah) (.slice ba aw.length a6) aw) := by subst bm; exact ⟨by (with_reducible repeat (first | apply Kd.V_alloc | apply Kd.V_drewN | apply Kd.V_drew)); exact Kd.V_mono (VF5 (Kd.V_mono ae.out (fun k_ hk => (⟨hk, hk.2⟩ : _ ∧ k_ ≠ ah))) (fun _ hk => hk.2)) (fun _ hk => ⟨hk.1.1.1.1.1.1, ⟨hk.1.1.1.1.1.2, ⟨hk.1.1.1.1.2, ⟨hk.1.1.1.2, ⟨hk.1.1.2, hk.1.2⟩⟩⟩⟩⟩)⟩
   have cf : Aside0 (Kd.R k116 116 gC w.heap.size (fun _ => True) (.slice aK ar.length aH) ar) := by subst bm; exact ⟨by (with_reducible repeat (first | apply Kd.R_alloc | apply Kd.R_drewN | apply Kd.R_drew)); exact Kd.R_mono (RF5 (Kd.R_types af.out ac.out (by decide)) (fun _ hk => hk.2)) (fun _ hk => trivial)⟩
   have cg : Aside0 (Kd.R k103 103 gC w.heap.size (fun _ => True) (.slice aL au.length aI) au) := by subst bm; exact ⟨by (with_reducible repeat (first | apply Kd.R_alloc | apply Kd.R_drewN | apply Kd.R_drew)); exact Kd.R_mono (RF5 (Kd.R_types ag.out ac.out (by decide)) (fun _ hk => hk.2)) (fun _ hk => trivial)⟩
   have ch : Aside0 (gC.heap[aG]? = some (.cells #[.slice ba aw.length a6] 34 (0, 0))) := by subst bm; exact ⟨BG ad.out bj.out⟩
   have ci : Aside0 (gC.heap[aq]? = some (.cells #[.int .i64 aZ, .int .i64 aV, .int .i64 a1, .int .i64 a2, .int .i64 a3, .int .i64 a4, .int .i64 a5, .slice aK ar.length aH, .slice aL au.length aI] 48 (0, 0))) := by subst bm; exact ⟨BG aa.out aY.out⟩
   have cj : Aside0 (gC.heap[an]? = some (.cells #[.int .i64 bo, .int .i64 bp, .int .i64 bq, .int .i64 br, .int .i64 bu] 52 (0, 0))) := by subst bm; exact ⟨BG ab.out a8.out⟩
   have ck : Aside0 (gC.heap[ah]? = some (.cells #[.int .i64 bv, .int .i64 bw, .int .i64 bx, .int .i64 bz, .int .i64 bA] 52 (0, 0))) := by subst bm; exact ⟨BQ ac.out⟩
   have cl : Aside0 (Below w.heap.size w gC) := by subst bm; exact ⟨BT HB.out⟩
   (try clear ae)
   (try clear af)
   (try clear ag)
   (try clear ad)
   (try clear aa)
   (try clear ab)
   (try clear ac)
   (try clear HB)
   clear bm
   have ae := ce
   have af := cf
   have ag := cg
   have ad := ch
   have aa := ci
   have ab := cj
   have ac := ck
   have HB := cl
   clear ce cf cg ch ci cj ck cl
   replace ae := AM_ (Kd.V_drew ae.out)
   replace af := AM_ (Kd.R_drew af.out)
   replace ag := AM_ (Kd.R_drew ag.out)
   replace ad := BD1 ad
   replace aa := BD1 aa
   replace ab := BD1 ab
   replace ac := BD1 ac
   replace HB := BD2 HB
   refine start_ (n := 22) (S := fun w' => w'.cell? ⟨an, 0, none⟩ = some (.int .i64 bo) ∧ w'.cell? ⟨an, 1, none⟩ = some (.int .i64 bp) ∧ w'.cell? ⟨an, 2, none⟩ = some (.int .i64 bq) ∧ w'.cell? ⟨an, 3, none⟩ = some (.int .i64 br) ∧ w'.cell? ⟨an, 4, none⟩ = some (.int .i64 bu) ∧ w'.cell? ⟨ah, 0, none⟩ = some (.int .i64 bv) ∧ w'.cell? ⟨ah, 1, none⟩ = some (.int .i64 bw) ∧ w'.cell? ⟨ah, 2, none⟩ = some (.int .i64 bx) ∧ w'.cell? ⟨ah, 3, none⟩ = some (.int .i64 bz) ∧ w'.cell? ⟨ah, 4, none⟩ = some (.int .i64 bA) ∧ w'.cell? ⟨aG, 0, none⟩ = some (.slice ba aw.length a6) ∧ w'.cell? ⟨aq, 0, none⟩ = some (.int .i64 aZ) ∧ w'.cell? ⟨aq, 1, none⟩ = some (.int .i64 aV) ∧ w'.cell? ⟨aq, 2, none⟩ = some (.int .i64 a1) ∧ w'.cell? ⟨aq, 3, none⟩ = some (.int .i64 a2) ∧ w'.cell? ⟨aq, 4, none⟩ = some (.int .i64 a3) ∧ w'.cell? ⟨aq, 5, none⟩ = some (.int .i64 a4) ∧ w'.cell? ⟨aq, 6, none⟩ = some (.int .i64 a5) ∧ w'.cell? ⟨aq, 7, none⟩ = some (.slice aK ar.length aH) ∧ w'.cell? ⟨aq, 8, none⟩ = some (.slice aL au.length aI)) (ds := []) (lo 0 22) (by kernel_rfl) rfl rfl ⟨bc ab.out 0, bc ab.out 1, bc ab.out 2, bc ab.out 3, bc ab.out 4, bc ac.out 0, bc ac.out 1, bc ac.out 2, bc ac.out 3, bc ac.out 4, bc ad.out 0, bc aa.out 0, bc aa.out 1, bc aa.out 2, bc aa.out 3, bc aa.out 4, bc aa.out 5, bc aa.out 6, bc aa.out 7, bc aa.out 8⟩ (fun ax => ?_); refine with_tabW laws_FnSchemes.tab6 laws_FnSchemes.bits6 (fun bk b2 => ?_)
   generalize gC.drew = on at ae af ag ad aa ab ac HB ax ⊢
   iterate 11 first | refine PS bk ?_ | refine TS bk b2 ax ?_
   refine TX 12 (some 49) (bs 6143 22) bk b2 ax ?_
   refine TX 13 (some 50) (bs 14335 22) bk b2 ax ?_
   refine one_ (i := 11) (N := some 48) (lo 14 22) rfl rfl (one_of bk.out (by kernel_rfl)) (by decide) (fun K hK => ?_)
   refine GO Try.func14 #[.agg #[.slice ba aw.length a6], .agg #[.int .i64 aZ, .int .i64 aV, .int .i64 a1, .int .i64 a2, .int .i64 a3, .int .i64 a4, .int .i64 a5, .slice aK ar.length aH, .slice aL au.length aI]] ?_
   with_reducible refine (impl_CommitCode.calls k _ _ aw aZ aV a1 a2 a3 a4 a5 _ _ ar _ _ au b3 _ (CRV ae) (Kd.V_reads' ae.out).2.1 (CRR af) (Kd.R_reads' af.out).2.1 (CRR ag) (Kd.R_reads' ag.out).2.1 m2.out).mono ?_
   rintro e oo ⟨rfl, hb⟩
   refine ⟨_, rfl, ?_⟩
   replace ae := AM_ (Kd.V_below (by (with_reducible repeat (first | apply Kd.V_alloc | apply Kd.V_drewN | apply Kd.V_drew)); exact ae.out) hb)
   replace af := RB af hb
   replace ag := RB ag hb
   replace ad := BV ad hb
   replace aa := BV aa hb
   replace ab := BV ab hb
   replace ac := BV ac hb
   replace HB := BW HB hb
   (try clear hb)
   refine hK.out _ _ ⟨bc ab.out 0, bc ab.out 1, bc ab.out 2, bc ab.out 3, bc ab.out 4, bc ac.out 0, bc ac.out 1, bc ac.out 2, bc ac.out 3, bc ac.out 4, bc ad.out 0, bc aa.out 0, bc aa.out 1, bc aa.out 2, bc aa.out 3, bc aa.out 4, bc aa.out 5, bc aa.out 6, bc aa.out 7, bc aa.out 8⟩ (fun ax => ?_)
   clear hK K
   refine NM 48 ?_
   refine OS bk (fun K hK => ?_)
   refine GO Try.func15 #[.agg #[.slice ba aw.length a6], .agg #[.int .i64 aZ, .int .i64 aV, .int .i64 a1, .int .i64 a2, .int .i64 a3, .int .i64 a4, .int .i64 a5, .slice aK ar.length aH, .slice aL au.length aI]] ?_
   with_reducible refine (spec_CommitCode.calls k _ _ aw aZ aV a1 a2 a3 a4 a5 _ _ ar _ _ au b4 _ (CRV ae) (Kd.V_reads' ae.out).2.1 (CRR af) (Kd.R_reads' af.out).2.1 (CRR ag) (Kd.R_reads' ag.out).2.1 m3.out).mono ?_
   rintro e op ⟨rfl, hb⟩
   refine ⟨_, rfl, ?_⟩
   replace ae := AM_ (Kd.V_below (by (with_reducible repeat (first | apply Kd.V_alloc | apply Kd.V_drewN | apply Kd.V_drew)); exact ae.out) hb)
   replace af := RB af hb
   replace ag := RB ag hb
   replace ad := BV ad hb
   replace aa := BV aa hb
   replace ab := BV ab hb
   replace ac := BV ac hb
   replace HB := BW HB hb
   (try clear hb)
   refine hK.out _ _ ⟨bc ab.out 0, bc ab.out 1, bc ab.out 2, bc ab.out 3, bc ab.out 4, bc ac.out 0, bc ac.out 1, bc ac.out 2, bc ac.out 3, bc ac.out 4, bc ad.out 0, bc aa.out 0, bc aa.out 1, bc aa.out 2, bc aa.out 3, bc aa.out 4, bc aa.out 5, bc aa.out 6, bc aa.out 7, bc aa.out 8⟩ (fun ax => ?_)
   clear hK K
   refine NM 51 ?_
   iterate 7 first | refine PS bk ?_ | refine PT bk ?_
   refine done_ (done_of bk.out (by kernel_rfl)) ?_
   try go_wp2
   go_meet
   case rel => exact ⟨_, (true), (by first | rfl | (simp; done) | (simp [*]; done)), H', ⟨by first | omega | exact Nat.le_refl _⟩, ⟨by (with_reducible repeat (first | apply Kd.V_alloc | apply Kd.V_drewN | apply Kd.V_drew)); exact ae.out⟩, ⟨RT af.out⟩, ⟨RT ag.out⟩, ⟨BH ad.out⟩, ⟨BH aa.out⟩, ⟨BH ab.out⟩, ⟨BH ac.out⟩, ⟨BT HB.out⟩⟩
  rw [if_pos gB] at H
  have cn : (b3 == b4) = true := beq_iff_eq.mpr gB
  have c36b1 : (b3 != b4) = false := bne_eq_false_iff_eq.mpr gB
  clear gB
  obtain ⟨h3, n1, H⟩ := OB H
  have H' := AM_ H
  clear H
  try go_wp2
  generalize bm : ((((jL.setCell ⟨ah, 0, none⟩ (.int .i64 bv)).setCell ⟨ah, 1, none⟩ (.int .i64 bw)).setCell ⟨ah, 2, none⟩ (.int .i64 bx)).setCell ⟨ah, 3, none⟩ (.int .i64 bz)).setCell ⟨ah, 4, none⟩ (.int .i64 bA) = gD
  have ce : Aside0 (Kd.V (Kd.slice 52 k52) 62 gD w.heap.size (fun k_ => some k_ ≠ (.slice aK ar.length aH : Value).ownBlock ∧ some k_ ≠ (.slice aL au.length aI : Value).ownBlock ∧ k_ ≠ aG ∧ k_ ≠ aq ∧ k_ ≠ an ∧ k_ ≠ ah) (.slice ba aw.length a6) aw) := by subst bm; exact ⟨by (with_reducible repeat (first | apply Kd.V_alloc | apply Kd.V_drewN | apply Kd.V_drew)); exact Kd.V_mono (VF5 (Kd.V_mono ae.out (fun k_ hk => (⟨hk, hk.2⟩ : _ ∧ k_ ≠ ah))) (fun _ hk => hk.2)) (fun _ hk => ⟨hk.1.1.1.1.1.1, ⟨hk.1.1.1.1.1.2, ⟨hk.1.1.1.1.2, ⟨hk.1.1.1.2, ⟨hk.1.1.2, hk.1.2⟩⟩⟩⟩⟩)⟩
  have cf : Aside0 (Kd.R k116 116 gD w.heap.size (fun _ => True) (.slice aK ar.length aH) ar) := by subst bm; exact ⟨by (with_reducible repeat (first | apply Kd.R_alloc | apply Kd.R_drewN | apply Kd.R_drew)); exact Kd.R_mono (RF5 (Kd.R_types af.out ac.out (by decide)) (fun _ hk => hk.2)) (fun _ hk => trivial)⟩
  have cg : Aside0 (Kd.R k103 103 gD w.heap.size (fun _ => True) (.slice aL au.length aI) au) := by subst bm; exact ⟨by (with_reducible repeat (first | apply Kd.R_alloc | apply Kd.R_drewN | apply Kd.R_drew)); exact Kd.R_mono (RF5 (Kd.R_types ag.out ac.out (by decide)) (fun _ hk => hk.2)) (fun _ hk => trivial)⟩
  have ch : Aside0 (gD.heap[aG]? = some (.cells #[.slice ba aw.length a6] 34 (0, 0))) := by subst bm; exact ⟨BG ad.out bj.out⟩
  have ci : Aside0 (gD.heap[aq]? = some (.cells #[.int .i64 aZ, .int .i64 aV, .int .i64 a1, .int .i64 a2, .int .i64 a3, .int .i64 a4, .int .i64 a5, .slice aK ar.length aH, .slice aL au.length aI] 48 (0, 0))) := by subst bm; exact ⟨BG aa.out aY.out⟩
  have cj : Aside0 (gD.heap[an]? = some (.cells #[.int .i64 bo, .int .i64 bp, .int .i64 bq, .int .i64 br, .int .i64 bu] 52 (0, 0))) := by subst bm; exact ⟨BG ab.out a8.out⟩
  have ck : Aside0 (gD.heap[ah]? = some (.cells #[.int .i64 bv, .int .i64 bw, .int .i64 bx, .int .i64 bz, .int .i64 bA] 52 (0, 0))) := by subst bm; exact ⟨BQ ac.out⟩
  have cl : Aside0 (Below w.heap.size w gD) := by subst bm; exact ⟨BT HB.out⟩
  (try clear ae)
  (try clear af)
  (try clear ag)
  (try clear ad)
  (try clear aa)
  (try clear ab)
  (try clear ac)
  (try clear HB)
  clear bm
  have ae := ce
  have af := cf
  have ag := cg
  have ad := ch
  have aa := ci
  have ab := cj
  have ac := ck
  have HB := cl
  clear ce cf cg ch ci cj ck cl
  replace ae := AM_ (Kd.V_drew ae.out)
  replace af := AM_ (Kd.R_drew af.out)
  replace ag := AM_ (Kd.R_drew ag.out)
  replace ad := BD1 ad
  replace aa := BD1 aa
  replace ab := BD1 ab
  replace ac := BD1 ac
  replace HB := BD2 HB
  refine start_ (n := 22) (S := fun w' => w'.cell? ⟨an, 0, none⟩ = some (.int .i64 bo) ∧ w'.cell? ⟨an, 1, none⟩ = some (.int .i64 bp) ∧ w'.cell? ⟨an, 2, none⟩ = some (.int .i64 bq) ∧ w'.cell? ⟨an, 3, none⟩ = some (.int .i64 br) ∧ w'.cell? ⟨an, 4, none⟩ = some (.int .i64 bu) ∧ w'.cell? ⟨ah, 0, none⟩ = some (.int .i64 bv) ∧ w'.cell? ⟨ah, 1, none⟩ = some (.int .i64 bw) ∧ w'.cell? ⟨ah, 2, none⟩ = some (.int .i64 bx) ∧ w'.cell? ⟨ah, 3, none⟩ = some (.int .i64 bz) ∧ w'.cell? ⟨ah, 4, none⟩ = some (.int .i64 bA) ∧ w'.cell? ⟨aG, 0, none⟩ = some (.slice ba aw.length a6) ∧ w'.cell? ⟨aq, 0, none⟩ = some (.int .i64 aZ) ∧ w'.cell? ⟨aq, 1, none⟩ = some (.int .i64 aV) ∧ w'.cell? ⟨aq, 2, none⟩ = some (.int .i64 a1) ∧ w'.cell? ⟨aq, 3, none⟩ = some (.int .i64 a2) ∧ w'.cell? ⟨aq, 4, none⟩ = some (.int .i64 a3) ∧ w'.cell? ⟨aq, 5, none⟩ = some (.int .i64 a4) ∧ w'.cell? ⟨aq, 6, none⟩ = some (.int .i64 a5) ∧ w'.cell? ⟨aq, 7, none⟩ = some (.slice aK ar.length aH) ∧ w'.cell? ⟨aq, 8, none⟩ = some (.slice aL au.length aI)) (ds := []) (lo 0 22) (by kernel_rfl) rfl rfl ⟨bc ab.out 0, bc ab.out 1, bc ab.out 2, bc ab.out 3, bc ab.out 4, bc ac.out 0, bc ac.out 1, bc ac.out 2, bc ac.out 3, bc ac.out 4, bc ad.out 0, bc aa.out 0, bc aa.out 1, bc aa.out 2, bc aa.out 3, bc aa.out 4, bc aa.out 5, bc aa.out 6, bc aa.out 7, bc aa.out 8⟩ (fun ax => ?_); refine with_tabW laws_FnSchemes.tab6 laws_FnSchemes.bits6 (fun bk b2 => ?_)
  generalize gD.drew = oq at ae af ag ad aa ab ac HB ax ⊢
  iterate 11 first | refine PS bk ?_ | refine TS bk b2 ax ?_
  refine TX 12 (some 49) (bs 6143 22) bk b2 ax ?_
  refine TX 13 (some 50) (bs 14335 22) bk b2 ax ?_
  refine one_ (i := 11) (N := some 48) (lo 14 22) rfl rfl (one_of bk.out (by kernel_rfl)) (by decide) (fun K hK => ?_)
  refine GO Try.func14 #[.agg #[.slice ba aw.length a6], .agg #[.int .i64 aZ, .int .i64 aV, .int .i64 a1, .int .i64 a2, .int .i64 a3, .int .i64 a4, .int .i64 a5, .slice aK ar.length aH, .slice aL au.length aI]] ?_
  with_reducible refine (impl_CommitCode.calls k _ _ aw aZ aV a1 a2 a3 a4 a5 _ _ ar _ _ au b3 _ (CRV ae) (Kd.V_reads' ae.out).2.1 (CRR af) (Kd.R_reads' af.out).2.1 (CRR ag) (Kd.R_reads' ag.out).2.1 m2.out).mono ?_
  rintro e os ⟨rfl, hb⟩
  refine ⟨_, rfl, ?_⟩
  replace ae := AM_ (Kd.V_below (by (with_reducible repeat (first | apply Kd.V_alloc | apply Kd.V_drewN | apply Kd.V_drew)); exact ae.out) hb)
  replace af := RB af hb
  replace ag := RB ag hb
  replace ad := BV ad hb
  replace aa := BV aa hb
  replace ab := BV ab hb
  replace ac := BV ac hb
  replace HB := BW HB hb
  (try clear hb)
  refine hK.out _ _ ⟨bc ab.out 0, bc ab.out 1, bc ab.out 2, bc ab.out 3, bc ab.out 4, bc ac.out 0, bc ac.out 1, bc ac.out 2, bc ac.out 3, bc ac.out 4, bc ad.out 0, bc aa.out 0, bc aa.out 1, bc aa.out 2, bc aa.out 3, bc aa.out 4, bc aa.out 5, bc aa.out 6, bc aa.out 7, bc aa.out 8⟩ (fun ax => ?_)
  clear hK K
  refine NM 48 ?_
  refine OS bk (fun K hK => ?_)
  refine GO Try.func15 #[.agg #[.slice ba aw.length a6], .agg #[.int .i64 aZ, .int .i64 aV, .int .i64 a1, .int .i64 a2, .int .i64 a3, .int .i64 a4, .int .i64 a5, .slice aK ar.length aH, .slice aL au.length aI]] ?_
  with_reducible refine (spec_CommitCode.calls k _ _ aw aZ aV a1 a2 a3 a4 a5 _ _ ar _ _ au b4 _ (CRV ae) (Kd.V_reads' ae.out).2.1 (CRR af) (Kd.R_reads' af.out).2.1 (CRR ag) (Kd.R_reads' ag.out).2.1 m3.out).mono ?_
  rintro e ot ⟨rfl, hb⟩
  refine ⟨_, rfl, ?_⟩
  replace ae := AM_ (Kd.V_below (by (with_reducible repeat (first | apply Kd.V_alloc | apply Kd.V_drewN | apply Kd.V_drew)); exact ae.out) hb)
  replace af := RB af hb
  replace ag := RB ag hb
  replace ad := BV ad hb
  replace aa := BV aa hb
  replace ab := BV ab hb
  replace ac := BV ac hb
  replace HB := BW HB hb
  (try clear hb)
  refine hK.out _ _ ⟨bc ab.out 0, bc ab.out 1, bc ab.out 2, bc ab.out 3, bc ab.out 4, bc ac.out 0, bc ac.out 1, bc ac.out 2, bc ac.out 3, bc ac.out 4, bc ad.out 0, bc aa.out 0, bc aa.out 1, bc aa.out 2, bc aa.out 3, bc aa.out 4, bc aa.out 5, bc aa.out 6, bc aa.out 7, bc aa.out 8⟩ (fun ax => ?_)
  clear hK K
  refine NM 51 ?_
  iterate 4 refine PS bk ?_
  refine OS bk (fun K hK => ?_)
  refine GO Try.func16 #[.int .i64 bK] ?_
  with_reducible refine MB (impl_CodeName.calls bK h3 _ n1.out) ?_
  intro ou hb
  replace ae := AM_ (Kd.V_below (by (with_reducible repeat (first | apply Kd.V_alloc | apply Kd.V_drewN | apply Kd.V_drew)); exact ae.out) hb)
  replace af := RB af hb
  replace ag := RB ag hb
  replace ad := BV ad hb
  replace aa := BV aa hb
  replace ab := BV ab hb
  replace ac := BV ac hb
  replace HB := BW HB hb
  (try clear hb)
  refine hK.out _ _ ⟨bc ab.out 0, bc ab.out 1, bc ab.out 2, bc ab.out 3, bc ab.out 4, bc ac.out 0, bc ac.out 1, bc ac.out 2, bc ac.out 3, bc ac.out 4, bc ad.out 0, bc aa.out 0, bc aa.out 1, bc aa.out 2, bc aa.out 3, bc aa.out 4, bc aa.out 5, bc aa.out 6, bc aa.out 7, bc aa.out 8⟩ (fun ax => ?_)
  clear hK K
  refine NM 56 ?_
  iterate 2 refine PS bk ?_
  refine done_ (done_of bk.out (by kernel_rfl)) ?_
  try go_wp2
  go_meet
  case rel => exact ⟨_, ((h3.toList == ([] : List UInt8))), (by first | rfl | (simp; done) | (simp [*]; done)), H', ⟨by first | omega | exact Nat.le_refl _⟩, ⟨by (with_reducible repeat (first | apply Kd.V_alloc | apply Kd.V_drewN | apply Kd.V_drew)); exact ae.out⟩, ⟨RT af.out⟩, ⟨RT ag.out⟩, ⟨BH ad.out⟩, ⟨BH aa.out⟩, ⟨BH ab.out⟩, ⟨BH ac.out⟩, ⟨BT HB.out⟩⟩
 case rest =>
  clear jZ
  try clear c3
  try clear gz
  try clear cm
  try clear c33b1
  try clear gB
  try clear cn
  try clear c36b1
  obtain ⟨kq, b8, rfl, HA, hL, HO_841000, HO_842007, HO_842008, ad, aa, ab, ac, HB⟩ := hcut
  cases kq with
  | zero => exact absurd HA.out (by simp [laws_FnSchemes.j0])
  | succ kj6 =>
   have H := HA.out
   clear HA
   simp only [laws_FnSchemes.j0] at H
   by_cases h4 : b8 = true
   ·subst h4
    replace H := HT H
    obtain rfl := SI H
    go_wp2
    go_ret
    exact QT (BT HB.out)
   replace h4 := Bool.eq_false_iff.mpr h4
   subst h4
   replace H := HF H
   obtain ⟨⟨a7, bb, bd, aJ, be, bf, bg, bh, bi, aW, aX, bn⟩, n2, H⟩ := OB H
   obtain ⟨a9, n3, H⟩ := OB H
   have hW := AM_ H
   clear H
   go_upto_region 10 with (first | ((with_reducible refine G1 17 rfl ?_); refine GC (some 61) Try.func17 #[.slice A0 l0.length c0] ?_; (with_reducible refine (spec_DrawWriteCode.calls kj6 _ _ l0 a7 bb bd aJ be bf bg bh bi aW aX bn _ (CC iV HB) iW.out n2.out).mono ?_); rintro e ov ⟨n4, j7, j8, j9, rfl, h2, hZ, hV, jW, hb⟩; refine ⟨_, rfl, ?_⟩; replace HO_841000 := AM_ (Kd.V_mono (Kd.V_told (Kd.V_told (Kd.V_told (Kd.V_old (by (with_reducible repeat (first | apply Kd.V_alloc | apply Kd.V_drewN | apply Kd.V_drew)); exact HO_841000.out) hb) (Kd.R_base hZ)) (Kd.R_base hV)) (Kd.R_base jW)) (fun _ h_ => h_.1)); have ak := AM_ (Kd.V_lower (Kd.V_mono (ok' := fun k_ => some k_ ≠ (j7 : Value).ownBlock ∧ some k_ ≠ (j8 : Value).ownBlock ∧ some k_ ≠ (j9 : Value).ownBlock ∧ some k_ ≠ (.slice aK ar.length aH : Value).ownBlock ∧ some k_ ≠ (.slice aL au.length aI : Value).ownBlock ∧ k_ ≠ aG ∧ k_ ≠ aq ∧ k_ ≠ an ∧ k_ ≠ ah) h2 (fun k_ hk_ => ⟨hk_.2.1, hk_.2.2.1, hk_.2.2.2, (Kd.fresh' (Kd.R_lt (RT HO_842007.out)) k_ hk_.1), (Kd.fresh' (Kd.R_lt (RT HO_842008.out)) k_ hk_.1), (Kd.freshB (BG1 ad) k_ hk_.1), (Kd.freshB (BG1 aa) k_ hk_.1), (Kd.freshB (BG1 ab) k_ hk_.1), (Kd.freshB (BG1 ac) k_ hk_.1)⟩)) (below_size (BT HB.out))); have ap := AM_ (Kd.R_lower (Kd.R_mono (ok' := fun k_ => True) hZ (fun _ hk_ => trivial)) (below_size (BT HB.out))); have al := AM_ (Kd.R_lower (Kd.R_new' (Kd.R_mono (ok' := fun k_ => True) hV (fun _ hk_ => trivial)) (Kd.R_lt (RT HO_842007.out))) (below_size (BT HB.out))); replace HO_842007 := AM_ (Kd.R_elder' (RT HO_842007.out) (Kd.R_base hV) hb); have am := AM_ (Kd.R_lower (Kd.R_new' (Kd.R_mono (ok' := fun k_ => True) jW (fun _ hk_ => trivial)) (Kd.R_lt (RT HO_842008.out))) (below_size (BT HB.out))); replace HO_842008 := AM_ (Kd.R_elder' (RT HO_842008.out) (Kd.R_base jW) hb); replace ad := BV ad hb; replace aa := BV aa hb; replace ab := BV ab hb; replace ac := BV ac hb; replace HB := BW HB hb; (try clear hb); (try clear h2); (try clear hZ); (try clear hV); (try clear jW)) | ((with_reducible refine G2 10 rfl ?_); refine BX 10 #[.slice none 0 0] 34 ?_; intro bI hg ow hbox hb; replace HO_841000 := AM_ (Kd.V_below (Kd.V_elderB (by (with_reducible repeat (first | apply Kd.V_alloc | apply Kd.V_drewN | apply Kd.V_drew)); exact HO_841000.out) bI (Nat.le_of_eq hg.symm)) hb); replace HO_842007 := RB HO_842007 hb; replace HO_842008 := RB HO_842008 hb; replace ak := AM_ (Kd.V_below (Kd.V_elderB (by (with_reducible repeat (first | apply Kd.V_alloc | apply Kd.V_drewN | apply Kd.V_drew)); exact ak.out) bI (Nat.le_of_eq hg.symm)) hb); replace ap := RB ap hb; replace al := RB al hb; replace am := RB am hb; have aj := AM_ (hbox); have m4 := AM_ ((GS HB.out hg)); replace HB := BW HB hb; have aM := NP ad hg; have aN := NQ ad hg; replace ad := BV ad hb; have ay := NP aa hg; have az := NQ aa hg; replace aa := BV aa hb; have aC := NP ab hg; have aD := NQ ab hg; replace ab := BV ab hb; have aO := NP ac hg; have aP := NQ ac hg; replace ac := BV ac hb; clear hb hbox hg) | ((with_reducible refine G2 12 rfl ?_); refine BX 12 #[.int .i64 0, .int .i64 0, .int .i64 0, .int .i64 0, .int .i64 0, .int .i64 0, .int .i64 0, .slice none 0 0, .slice none 0 0] 48 ?_; intro bJ hg ox hbox hb; replace HO_841000 := AM_ (Kd.V_below (Kd.V_elderB (by (with_reducible repeat (first | apply Kd.V_alloc | apply Kd.V_drewN | apply Kd.V_drew)); exact HO_841000.out) bJ (Nat.le_of_eq hg.symm)) hb); replace HO_842007 := RB HO_842007 hb; replace HO_842008 := RB HO_842008 hb; replace ak := AM_ (Kd.V_below (Kd.V_elderB (by (with_reducible repeat (first | apply Kd.V_alloc | apply Kd.V_drewN | apply Kd.V_drew)); exact ak.out) bJ (Nat.le_of_eq hg.symm)) hb); replace ap := RB ap hb; replace al := RB al hb; replace am := RB am hb; have ai := AM_ (hbox); have m5 := AM_ ((GS HB.out hg)); replace HB := BW HB hb; have aQ := NP ad hg; have aR := NQ ad hg; replace ad := BV ad hb; have aA := NP aa hg; have aB := NQ aa hg; replace aa := BV aa hb; have aE := NP ab hg; have aF := NQ ab hg; replace ab := BV ab hb; have aS := NP ac hg; have aT := NQ ac hg; replace ac := BV ac hb; have ao := NP aj hg; have aU := NQ aj hg; replace aj := BV aj hb; clear hb hbox hg; obtain ⟨bR, bP, ka⟩ := Kd.V_slice ak.out; subst ka; have m6 := aN.out; have m7 := aM.out; have m8 := az.out; have m9 := ay.out; have na := aD.out; have nb := aC.out; have nc := aP.out; have ne := aO.out; have nf := ao.out; have ng := aU.out; obtain ⟨gE, gF⟩ := bk1 aj.out; have nh := aR.out; have ni := aQ.out; have nj := aB.out; have nk := aA.out; have nl := aF.out; have nm := aE.out; have nn := aT.out; have no := aS.out; obtain ⟨gG, gH, gI, gJ, gK, gL, gM, gN, gO, gP, gQ, gR, gS, gT, gU, gV, gW, gX⟩ := bk9 ai.out; obtain ⟨bG, bB, kb⟩ := Kd.R_slice al.out; subst kb; obtain ⟨bH, bC, kc⟩ := Kd.R_slice am.out; subst kc; obtain ⟨bU, bT, kd⟩ := Kd.R_slice ap.out; subst kd) | ((with_reducible refine G1 18 rfl ?_); refine GC (some 70) Try.func18 #[.agg #[.slice bR a7.length bP], .slice bU bb.length bT, .agg #[.int .i64 bd, .int .i64 aJ, .int .i64 be, .int .i64 bf, .int .i64 bg, .int .i64 bh, .int .i64 bi, .slice bG aW.length bB, .slice bH aX.length bC], .int .i64 bn] ?_; (with_reducible refine (impl_WriteCode.calls kj6 _ _ a7 _ _ bb bd aJ be bf bg bh bi _ _ aW _ _ aX bn a9 _ ?side1 (Kd.V_reads' ak.out).2.1 ?side3 (Kd.R_reads' ap.out).2.1 ?side5 (Kd.R_reads' al.out).2.1 ?side7 (Kd.R_reads' am.out).2.1 n3.out).mono ?_); (case side1 => refine (Kd.V_reads' (e := 62) (base := w.heap.size) (ok := fun k_ => (((some k_ ≠ (.slice bU bb.length bT : Value).ownBlock ∧ (some k_ ≠ (.slice bG aW.length bB : Value).ownBlock ∧ (some k_ ≠ (.slice bH aX.length bC : Value).ownBlock ∧ (some k_ ≠ (.slice aK ar.length aH : Value).ownBlock ∧ (some k_ ≠ (.slice aL au.length aI : Value).ownBlock ∧ (k_ ≠ aG ∧ (k_ ≠ aq ∧ (k_ ≠ an ∧ k_ ≠ ah)))))))) ∧ k_ ≠ bI) ∧ k_ ≠ bJ)) (n := a7.length) (c := bP) ?_).2.2; exact (by (with_reducible repeat (first | apply Kd.V_alloc | apply Kd.V_drewN | apply Kd.V_drew)); exact (Kd.V_mono (Kd.V_mono (VF9 (VF1 (Kd.V_mono (Kd.V_mono ak.out (fun k_ hk => (⟨hk, hk.1.2⟩ : _ ∧ k_ ≠ bI))) (fun k_ hk => (⟨hk, hk.1.2⟩ : _ ∧ k_ ≠ bJ))) (fun _ hk => hk.1.2)) (fun _ hk => hk.2)) (fun _ h_ => h_.1)) (fun _ h_ => h_.1)))); (case side3 => refine (Kd.R_reads' (e := 76) (base := w.heap.size) (ok := fun k_ => True) (n := bb.length) (c := bT) ?_).2.2; exact (by (with_reducible repeat (first | apply Kd.R_alloc | apply Kd.R_drewN | apply Kd.R_drew)); exact (Kd.R_mono (Kd.R_mono (RF9 (RF1 (Kd.R_types (Kd.R_types ap.out aj.out (by decide)) ai.out (by decide)) (fun _ hk => hk.1.2)) (fun _ hk => hk.2)) (fun _ h_ => h_.1)) (fun _ h_ => h_.1)))); (case side5 => refine (Kd.R_reads' (e := 116) (base := w.heap.size) (ok := fun k_ => (True ∧ some k_ ≠ (.slice aK ar.length aH : Value).ownBlock)) (n := aW.length) (c := bB) ?_).2.2; exact (by (with_reducible repeat (first | apply Kd.R_alloc | apply Kd.R_drewN | apply Kd.R_drew)); exact (Kd.R_mono (Kd.R_mono (RF9 (RF1 (Kd.R_types (Kd.R_types al.out aj.out (by decide)) ai.out (by decide)) (fun _ hk => hk.1.2)) (fun _ hk => hk.2)) (fun _ h_ => h_.1)) (fun _ h_ => h_.1)))); (case side7 => refine (Kd.R_reads' (e := 103) (base := w.heap.size) (ok := fun k_ => (True ∧ some k_ ≠ (.slice aL au.length aI : Value).ownBlock)) (n := aX.length) (c := bC) ?_).2.2; exact (by (with_reducible repeat (first | apply Kd.R_alloc | apply Kd.R_drewN | apply Kd.R_drew)); exact (Kd.R_mono (Kd.R_mono (RF9 (RF1 (Kd.R_types (Kd.R_types am.out aj.out (by decide)) ai.out (by decide)) (fun _ hk => hk.1.2)) (fun _ hk => hk.2)) (fun _ h_ => h_.1)) (fun _ h_ => h_.1)))); rintro e oy ⟨rfl, hb⟩; refine ⟨_, rfl, ?_⟩; replace HO_841000 := AM_ (Kd.V_below (by (with_reducible repeat (first | apply Kd.V_alloc | apply Kd.V_drewN | apply Kd.V_drew)); exact (Kd.V_mono (Kd.V_mono (VF9 (VF1 (Kd.V_mono (Kd.V_mono HO_841000.out (fun k_ hk => (⟨hk, hk.1.2⟩ : _ ∧ k_ ≠ bI))) (fun k_ hk => (⟨hk, hk.1.2⟩ : _ ∧ k_ ≠ bJ))) (fun _ hk => hk.1.2)) (fun _ hk => hk.2)) (fun _ h_ => h_.1)) (fun _ h_ => h_.1))) hb); replace HO_842007 := AM_ (Kd.R_below (by (with_reducible repeat (first | apply Kd.R_alloc | apply Kd.R_drewN | apply Kd.R_drew)); exact (Kd.R_mono (Kd.R_mono (RF9 (RF1 (Kd.R_types (Kd.R_types HO_842007.out aj.out (by decide)) ai.out (by decide)) (fun _ hk => hk.1.2)) (fun _ hk => hk.2)) (fun _ h_ => h_.1)) (fun _ h_ => h_.1))) hb); replace HO_842008 := AM_ (Kd.R_below (by (with_reducible repeat (first | apply Kd.R_alloc | apply Kd.R_drewN | apply Kd.R_drew)); exact (Kd.R_mono (Kd.R_mono (RF9 (RF1 (Kd.R_types (Kd.R_types HO_842008.out aj.out (by decide)) ai.out (by decide)) (fun _ hk => hk.1.2)) (fun _ hk => hk.2)) (fun _ h_ => h_.1)) (fun _ h_ => h_.1))) hb); replace ak := AM_ (Kd.V_below (by (with_reducible repeat (first | apply Kd.V_alloc | apply Kd.V_drewN | apply Kd.V_drew)); exact (Kd.V_mono (Kd.V_mono (VF9 (VF1 (Kd.V_mono (Kd.V_mono ak.out (fun k_ hk => (⟨hk, hk.1.2⟩ : _ ∧ k_ ≠ bI))) (fun k_ hk => (⟨hk, hk.1.2⟩ : _ ∧ k_ ≠ bJ))) (fun _ hk => hk.1.2)) (fun _ hk => hk.2)) (fun _ h_ => h_.1)) (fun _ h_ => h_.1))) hb); replace ap := AM_ (Kd.R_below (by (with_reducible repeat (first | apply Kd.R_alloc | apply Kd.R_drewN | apply Kd.R_drew)); exact (Kd.R_mono (Kd.R_mono (RF9 (RF1 (Kd.R_types (Kd.R_types ap.out aj.out (by decide)) ai.out (by decide)) (fun _ hk => hk.1.2)) (fun _ hk => hk.2)) (fun _ h_ => h_.1)) (fun _ h_ => h_.1))) hb); replace al := AM_ (Kd.R_below (by (with_reducible repeat (first | apply Kd.R_alloc | apply Kd.R_drewN | apply Kd.R_drew)); exact (Kd.R_mono (Kd.R_mono (RF9 (RF1 (Kd.R_types (Kd.R_types al.out aj.out (by decide)) ai.out (by decide)) (fun _ hk => hk.1.2)) (fun _ hk => hk.2)) (fun _ h_ => h_.1)) (fun _ h_ => h_.1))) hb); replace am := AM_ (Kd.R_below (by (with_reducible repeat (first | apply Kd.R_alloc | apply Kd.R_drewN | apply Kd.R_drew)); exact (Kd.R_mono (Kd.R_mono (RF9 (RF1 (Kd.R_types (Kd.R_types am.out aj.out (by decide)) ai.out (by decide)) (fun _ hk => hk.1.2)) (fun _ hk => hk.2)) (fun _ h_ => h_.1)) (fun _ h_ => h_.1))) hb); replace ad := AM_ (blk_below (BG1 ad) hb); replace aa := AM_ (blk_below (BG1 aa) hb); replace ab := AM_ (blk_below (BG1 ab) hb); replace ac := AM_ (blk_below (BG1 ac) hb); replace aj := AM_ (blk_below (g := bI) (o := .cells #[.slice bR a7.length bP] 34 (0, 0)) (by (with_reducible repeat (first | refine blk_drewN ?_ _ | refine blk_drew ?_ | refine blk_alloc ?_ _)); refine blk_far ?_ ao.out _; (with_reducible repeat (first | refine blk_drewN ?_ _ | refine blk_drew ?_ | refine blk_alloc ?_ _)); refine blk_far ?_ ao.out _; (with_reducible repeat (first | refine blk_drewN ?_ _ | refine blk_drew ?_ | refine blk_alloc ?_ _)); refine blk_far ?_ ao.out _; (with_reducible repeat (first | refine blk_drewN ?_ _ | refine blk_drew ?_ | refine blk_alloc ?_ _)); refine blk_far ?_ ao.out _; (with_reducible repeat (first | refine blk_drewN ?_ _ | refine blk_drew ?_ | refine blk_alloc ?_ _)); refine blk_far ?_ ao.out _; (with_reducible repeat (first | refine blk_drewN ?_ _ | refine blk_drew ?_ | refine blk_alloc ?_ _)); refine blk_far ?_ ao.out _; (with_reducible repeat (first | refine blk_drewN ?_ _ | refine blk_drew ?_ | refine blk_alloc ?_ _)); refine blk_far ?_ ao.out _; (with_reducible repeat (first | refine blk_drewN ?_ _ | refine blk_drew ?_ | refine blk_alloc ?_ _)); refine blk_far ?_ ao.out _; (with_reducible repeat (first | refine blk_drewN ?_ _ | refine blk_drew ?_ | refine blk_alloc ?_ _)); refine blk_far ?_ ao.out _; (with_reducible repeat (first | refine blk_drewN ?_ _ | refine blk_drew ?_ | refine blk_alloc ?_ _)); refine blk_put (cs := #[.slice none 0 0]) ?_ 0 _ rfl; (with_reducible repeat (first | refine blk_drewN ?_ _ | refine blk_drew ?_ | refine blk_alloc ?_ _)); exact aj.out) hb); replace ai := AM_ (blk_below (g := bJ) (o := .cells #[.int .i64 bd, .int .i64 aJ, .int .i64 be, .int .i64 bf, .int .i64 bg, .int .i64 bh, .int .i64 bi, .slice bG aW.length bB, .slice bH aX.length bC] 48 (0, 0)) (by (with_reducible repeat (first | refine blk_drewN ?_ _ | refine blk_drew ?_ | refine blk_alloc ?_ _)); apply BP9; exact BG1 ai) hb); replace HB := BW HB hb; (try clear hb)))
   (try simp only [pA, pS, pZ, pK])
   go_cut [100] (fun ke wc => ∃ (kq : Nat) (bS : Bool), ke = .bool bS ∧ Aside0 (laws_FnSchemes.j1 kq bF bK bS aw aZ aV a1 a2 a3 a4 a5 ar au bo bp bq br bu = some r) ∧ Aside0 (kq ≤ kj6) ∧ Aside0 (Kd.V (Kd.slice 52 k52) 62 wc w.heap.size (fun k_ => some k_ ≠ ((.slice aK ar.length aH) : Value).ownBlock ∧ some k_ ≠ ((.slice aL au.length aI) : Value).ownBlock ∧ some k_ ≠ ((.slice bG aW.length bB) : Value).ownBlock ∧ some k_ ≠ ((.slice bH aX.length bC) : Value).ownBlock ∧ k_ ≠ aG ∧ k_ ≠ aq ∧ k_ ≠ an ∧ k_ ≠ ah ∧ k_ ≠ bI ∧ k_ ≠ bJ) (.slice ba aw.length a6) aw) ∧ Aside0 (Kd.R k116 116 wc w.heap.size (fun k_ => some k_ ≠ ((.slice bG aW.length bB) : Value).ownBlock) (.slice aK ar.length aH) ar) ∧ Aside0 (Kd.R k103 103 wc w.heap.size (fun k_ => some k_ ≠ ((.slice bH aX.length bC) : Value).ownBlock) (.slice aL au.length aI) au) ∧ Aside0 (Kd.V (Kd.slice 52 k52) 62 wc w.heap.size (fun k_ => some k_ ≠ ((.slice aK ar.length aH) : Value).ownBlock ∧ some k_ ≠ ((.slice aL au.length aI) : Value).ownBlock ∧ some k_ ≠ ((.slice bG aW.length bB) : Value).ownBlock ∧ some k_ ≠ ((.slice bH aX.length bC) : Value).ownBlock ∧ k_ ≠ aG ∧ k_ ≠ aq ∧ k_ ≠ an ∧ k_ ≠ ah ∧ k_ ≠ bI ∧ k_ ≠ bJ) (.slice bR a7.length bP) a7) ∧ Aside0 (Kd.R k116 116 wc w.heap.size (fun k_ => some k_ ≠ ((.slice aK ar.length aH) : Value).ownBlock) (.slice bG aW.length bB) aW) ∧ Aside0 (Kd.R k103 103 wc w.heap.size (fun k_ => some k_ ≠ ((.slice aL au.length aI) : Value).ownBlock) (.slice bH aX.length bC) aX) ∧ Aside0 (wc.heap[aG]? = some (.cells #[(.slice ba aw.length a6)] 34 (0, 0))) ∧ Aside0 (wc.heap[aq]? = some (.cells #[.int .i64 aZ, .int .i64 aV, .int .i64 a1, .int .i64 a2, .int .i64 a3, .int .i64 a4, .int .i64 a5, (.slice aK ar.length aH), (.slice aL au.length aI)] 48 (0, 0))) ∧ Aside0 (wc.heap[an]? = some (.cells #[.int .i64 bo, .int .i64 bp, .int .i64 bq, .int .i64 br, .int .i64 bu] 52 (0, 0))) ∧ Aside0 (wc.heap[ah]? = some (.cells #[.int .i64 bv, .int .i64 bw, .int .i64 bx, .int .i64 bz, .int .i64 bA] 52 (0, 0))) ∧ Aside0 (wc.heap[bI]? = some (.cells #[(.slice bR a7.length bP)] 34 (0, 0))) ∧ Aside0 (wc.heap[bJ]? = some (.cells #[.int .i64 bd, .int .i64 aJ, .int .i64 be, .int .i64 bf, .int .i64 bg, .int .i64 bh, .int .i64 bi, (.slice bG aW.length bB), (.slice bH aX.length bC)] 48 (0, 0))) ∧ Aside0 (Below w.heap.size w wc))
   case first =>
    have H := hW.out
    clear hW
    obtain ⟨bQ, hM, H⟩ := OB H
    by_cases hN : a9 = bQ
    rotate_left
    ·rw [if_neg hN] at H
     have bX : (a9 == bQ) = false := beq_eq_false_iff_ne.mpr hN
     have c73b1 : (a9 != bQ) = true := bne_iff_ne.mpr hN
     (first | rw [bX] | (simp only [i64_w, i32_w]; rw [bX]) | skip)
     have H' := AM_ H
     clear H
     have kf := aN.out
     have kg := aM.out
     have kh := az.out
     have ki := ay.out
     have kj := aD.out
     have kk := aC.out
     have kl := aP.out
     have km := aO.out
     have kn := ao.out
     have ko := aU.out
     obtain ⟨co, cp⟩ := bk1 aj.out
     have kp := aR.out
     have kr := aQ.out
     have ks := aB.out
     have kt := aA.out
     have ku := aF.out
     have kv := aE.out
     have kw := aT.out
     have kx := aS.out
     obtain ⟨cq, cr, ct, cu, cv, cw, cx, cy, cz, cA, cB, cC, cD, cE, cF, cG, cH, cI⟩ := bk9 ai.out
     go_wp2_with (first | ((with_reducible refine G1 19 rfl ?_); refine GC (some 76) Try.func19 #[.agg #[.slice bR a7.length bP], .slice bU bb.length bT, .agg #[.int .i64 bd, .int .i64 aJ, .int .i64 be, .int .i64 bf, .int .i64 bg, .int .i64 bh, .int .i64 bi, .slice bG aW.length bB, .slice bH aX.length bC], .int .i64 bn] ?_; (with_reducible refine (spec_WriteCode.calls kj6 _ _ a7 _ _ bb bd aJ be bf bg bh bi _ _ aW _ _ aX bn bQ _ (CRV ak) (Kd.V_reads' ak.out).2.1 (CRR ap) (Kd.R_reads' ap.out).2.1 (CRR al) (Kd.R_reads' al.out).2.1 (CRR am) (Kd.R_reads' am.out).2.1 hM.out).mono ?_); rintro e n5 ⟨rfl, hb⟩; refine ⟨_, rfl, ?_⟩; replace HO_841000 := AM_ (Kd.V_below (by (with_reducible repeat (first | apply Kd.V_alloc | apply Kd.V_drewN | apply Kd.V_drew)); exact HO_841000.out) hb); replace HO_842007 := RB HO_842007 hb; replace HO_842008 := RB HO_842008 hb; replace ak := AM_ (Kd.V_below (by (with_reducible repeat (first | apply Kd.V_alloc | apply Kd.V_drewN | apply Kd.V_drew)); exact ak.out) hb); replace ap := RB ap hb; replace al := RB al hb; replace am := RB am hb; replace ad := BV ad hb; replace aa := BV aa hb; replace ab := BV ab hb; replace ac := BV ac hb; replace aj := BV aj hb; replace ai := BV ai hb; replace HB := BW HB hb; (try clear hb)))
     go_meet
     case rel => exact ⟨_, (true), (by first | rfl | (simp; done) | (simp [*]; done)), H', ⟨by have := hL.out; first | omega | exact Nat.le_refl _⟩, ⟨by (with_reducible repeat (first | apply Kd.V_alloc | apply Kd.V_drewN | apply Kd.V_drew)); exact Kd.V_mono HO_841000.out (fun _ hk => ⟨hk.1.1.1.1.1.1, ⟨hk.1.1.1.1.1.2.1, ⟨hk.1.1.1.2, ⟨hk.1.1.2, ⟨hk.1.1.1.1.1.2.2.1, ⟨hk.1.1.1.1.1.2.2.2.1, ⟨hk.1.1.1.1.1.2.2.2.2.1, ⟨hk.1.1.1.1.1.2.2.2.2.2, ⟨hk.1.2, hk.2⟩⟩⟩⟩⟩⟩⟩⟩⟩)⟩, ⟨by (with_reducible repeat (first | apply Kd.R_alloc | apply Kd.R_drewN | apply Kd.R_drew)); exact Kd.R_mono HO_842007.out (fun _ hk => hk.2)⟩, ⟨by (with_reducible repeat (first | apply Kd.R_alloc | apply Kd.R_drewN | apply Kd.R_drew)); exact Kd.R_mono HO_842008.out (fun _ hk => hk.2)⟩, ⟨by (with_reducible repeat (first | apply Kd.V_alloc | apply Kd.V_drewN | apply Kd.V_drew)); exact Kd.V_mono ak.out (fun _ hk => ⟨hk.1.1.2.2.2.1, ⟨hk.1.1.2.2.2.2.1, ⟨hk.1.1.2.1, ⟨hk.1.1.2.2.1, ⟨hk.1.1.2.2.2.2.2.1, ⟨hk.1.1.2.2.2.2.2.2.1, ⟨hk.1.1.2.2.2.2.2.2.2.1, ⟨hk.1.1.2.2.2.2.2.2.2.2, ⟨hk.1.2, hk.2⟩⟩⟩⟩⟩⟩⟩⟩⟩)⟩, ⟨by (with_reducible repeat (first | apply Kd.R_alloc | apply Kd.R_drewN | apply Kd.R_drew)); exact Kd.R_mono al.out (fun _ hk => hk.2)⟩, ⟨by (with_reducible repeat (first | apply Kd.R_alloc | apply Kd.R_drewN | apply Kd.R_drew)); exact Kd.R_mono am.out (fun _ hk => hk.2)⟩, ⟨BH ad.out⟩, ⟨BH aa.out⟩, ⟨BH ab.out⟩, ⟨BH ac.out⟩, ⟨BH aj.out⟩, ⟨BH ai.out⟩, ⟨BT HB.out⟩⟩
    rw [if_pos hN] at H
    have bX : (a9 == bQ) = true := beq_iff_eq.mpr hN
    have c73b1 : (a9 != bQ) = false := bne_eq_false_iff_eq.mpr hN
    clear hN
    (first | rw [bX] | (simp only [i64_w, i32_w]; rw [bX]) | skip)
    by_cases hO : a9 = 1
    rotate_left
    ·rw [if_neg hO] at H
     have hP : (a9 == 1) = false := beq_eq_false_iff_ne.mpr hO
     have c74b1 : (a9 != 1) = true := bne_iff_ne.mpr hO
     by_cases b0 : aJ = 3
     rotate_left
     ·rw [if_neg b0] at H
      have cJ : (aJ == 3) = false := beq_eq_false_iff_ne.mpr b0
      have c131b1 : (aJ != 3) = true := bne_iff_ne.mpr b0
      have H' := AM_ H
      clear H
      have ky := aN.out
      have kz := aM.out
      have kA := az.out
      have kB := ay.out
      have kC := aD.out
      have kD := aC.out
      have kE := aP.out
      have kF := aO.out
      have kG := ao.out
      have kH := aU.out
      obtain ⟨cK, cL⟩ := bk1 aj.out
      have kI := aR.out
      have kJ := aQ.out
      have kK := aB.out
      have kL := aA.out
      have kM := aF.out
      have kN := aE.out
      have kO := aT.out
      have kP := aS.out
      obtain ⟨cM, cN, cO, cP, cQ, cR, cS, cT, cU, cV, cW, cX, cY, cZ, c1, c2, c4, c5⟩ := bk9 ai.out
      go_wp2_with (first | ((with_reducible refine G1 19 rfl ?_); refine GC (some 76) Try.func19 #[.agg #[.slice bR a7.length bP], .slice bU bb.length bT, .agg #[.int .i64 bd, .int .i64 aJ, .int .i64 be, .int .i64 bf, .int .i64 bg, .int .i64 bh, .int .i64 bi, .slice bG aW.length bB, .slice bH aX.length bC], .int .i64 bn] ?_; (with_reducible refine (spec_WriteCode.calls kj6 _ _ a7 _ _ bb bd aJ be bf bg bh bi _ _ aW _ _ aX bn bQ _ (CRV ak) (Kd.V_reads' ak.out).2.1 (CRR ap) (Kd.R_reads' ap.out).2.1 (CRR al) (Kd.R_reads' al.out).2.1 (CRR am) (Kd.R_reads' am.out).2.1 hM.out).mono ?_); rintro e n6 ⟨rfl, hb⟩; refine ⟨_, rfl, ?_⟩; replace HO_841000 := AM_ (Kd.V_below (by (with_reducible repeat (first | apply Kd.V_alloc | apply Kd.V_drewN | apply Kd.V_drew)); exact HO_841000.out) hb); replace HO_842007 := RB HO_842007 hb; replace HO_842008 := RB HO_842008 hb; replace ak := AM_ (Kd.V_below (by (with_reducible repeat (first | apply Kd.V_alloc | apply Kd.V_drewN | apply Kd.V_drew)); exact ak.out) hb); replace ap := RB ap hb; replace al := RB al hb; replace am := RB am hb; replace ad := BV ad hb; replace aa := BV aa hb; replace ab := BV ab hb; replace ac := BV ac hb; replace aj := BV aj hb; replace ai := BV ai hb; replace HB := BW HB hb; (try clear hb); obtain ⟨c6, c7, c8, c9, da, db, dc, dd, de, df, dg, dh, di, dj, dk, dl, dm, dn⟩ := bk9 ai.out))
      go_meet
      case rel => exact ⟨_, (false), (by first | rfl | (simp; done) | (simp [*]; done)), H', ⟨by have := hL.out; first | omega | exact Nat.le_refl _⟩, ⟨by (with_reducible repeat (first | apply Kd.V_alloc | apply Kd.V_drewN | apply Kd.V_drew)); exact Kd.V_mono HO_841000.out (fun _ hk => ⟨hk.1.1.1.1.1.1, ⟨hk.1.1.1.1.1.2.1, ⟨hk.1.1.1.2, ⟨hk.1.1.2, ⟨hk.1.1.1.1.1.2.2.1, ⟨hk.1.1.1.1.1.2.2.2.1, ⟨hk.1.1.1.1.1.2.2.2.2.1, ⟨hk.1.1.1.1.1.2.2.2.2.2, ⟨hk.1.2, hk.2⟩⟩⟩⟩⟩⟩⟩⟩⟩)⟩, ⟨by (with_reducible repeat (first | apply Kd.R_alloc | apply Kd.R_drewN | apply Kd.R_drew)); exact Kd.R_mono HO_842007.out (fun _ hk => hk.2)⟩, ⟨by (with_reducible repeat (first | apply Kd.R_alloc | apply Kd.R_drewN | apply Kd.R_drew)); exact Kd.R_mono HO_842008.out (fun _ hk => hk.2)⟩, ⟨by (with_reducible repeat (first | apply Kd.V_alloc | apply Kd.V_drewN | apply Kd.V_drew)); exact Kd.V_mono ak.out (fun _ hk => ⟨hk.1.1.2.2.2.1, ⟨hk.1.1.2.2.2.2.1, ⟨hk.1.1.2.1, ⟨hk.1.1.2.2.1, ⟨hk.1.1.2.2.2.2.2.1, ⟨hk.1.1.2.2.2.2.2.2.1, ⟨hk.1.1.2.2.2.2.2.2.2.1, ⟨hk.1.1.2.2.2.2.2.2.2.2, ⟨hk.1.2, hk.2⟩⟩⟩⟩⟩⟩⟩⟩⟩)⟩, ⟨by (with_reducible repeat (first | apply Kd.R_alloc | apply Kd.R_drewN | apply Kd.R_drew)); exact Kd.R_mono al.out (fun _ hk => hk.2)⟩, ⟨by (with_reducible repeat (first | apply Kd.R_alloc | apply Kd.R_drewN | apply Kd.R_drew)); exact Kd.R_mono am.out (fun _ hk => hk.2)⟩, ⟨BH ad.out⟩, ⟨BH aa.out⟩, ⟨BH ab.out⟩, ⟨BH ac.out⟩, ⟨BH aj.out⟩, ⟨BH ai.out⟩, ⟨BT HB.out⟩⟩
     rw [if_pos b0] at H
     have cJ : (aJ == 3) = true := beq_iff_eq.mpr b0
     have c131b1 : (aJ != 3) = false := bne_eq_false_iff_eq.mpr b0
     clear b0
     by_cases b1 : a9 = 0
     rotate_left
     ·rw [if_neg b1] at H
      have dp : (a9 == 0) = false := beq_eq_false_iff_ne.mpr b1
      have c132b1 : (a9 != 0) = true := bne_iff_ne.mpr b1
      have H' := AM_ H
      clear H
      have kQ := aN.out
      have kR := aM.out
      have kS := az.out
      have kT := ay.out
      have kU := aD.out
      have kV := aC.out
      have kW := aP.out
      have kX := aO.out
      have kY := ao.out
      have kZ := aU.out
      obtain ⟨dq, dr⟩ := bk1 aj.out
      have k0 := aR.out
      have k1 := aQ.out
      have k2 := aB.out
      have k3 := aA.out
      have k4 := aF.out
      have k5 := aE.out
      have k6 := aT.out
      have k7 := aS.out
      obtain ⟨dt, du, dv, dw, dx, dy, dz, dA, dB, dC, dD, dE, dF, dG, dH, dI, dJ, dK⟩ := bk9 ai.out
      go_wp2_with (first | ((with_reducible refine G1 19 rfl ?_); refine GC (some 76) Try.func19 #[.agg #[.slice bR a7.length bP], .slice bU bb.length bT, .agg #[.int .i64 bd, .int .i64 aJ, .int .i64 be, .int .i64 bf, .int .i64 bg, .int .i64 bh, .int .i64 bi, .slice bG aW.length bB, .slice bH aX.length bC], .int .i64 bn] ?_; (with_reducible refine (spec_WriteCode.calls kj6 _ _ a7 _ _ bb bd aJ be bf bg bh bi _ _ aW _ _ aX bn bQ _ (CRV ak) (Kd.V_reads' ak.out).2.1 (CRR ap) (Kd.R_reads' ap.out).2.1 (CRR al) (Kd.R_reads' al.out).2.1 (CRR am) (Kd.R_reads' am.out).2.1 hM.out).mono ?_); rintro e n7 ⟨rfl, hb⟩; refine ⟨_, rfl, ?_⟩; replace HO_841000 := AM_ (Kd.V_below (by (with_reducible repeat (first | apply Kd.V_alloc | apply Kd.V_drewN | apply Kd.V_drew)); exact HO_841000.out) hb); replace HO_842007 := RB HO_842007 hb; replace HO_842008 := RB HO_842008 hb; replace ak := AM_ (Kd.V_below (by (with_reducible repeat (first | apply Kd.V_alloc | apply Kd.V_drewN | apply Kd.V_drew)); exact ak.out) hb); replace ap := RB ap hb; replace al := RB al hb; replace am := RB am hb; replace ad := BV ad hb; replace aa := BV aa hb; replace ab := BV ab hb; replace ac := BV ac hb; replace aj := BV aj hb; replace ai := BV ai hb; replace HB := BW HB hb; (try clear hb); obtain ⟨dL, dM, dN, dO, dP, dQ, dR, dS, dT, dU, dV, dW, dX, dY, dZ, d0, d1, d2⟩ := bk9 ai.out))
      go_meet
      case rel => exact ⟨_, ((a9 != 6)), (by first | rfl | (simp; done) | (simp [*]; done)), H', ⟨by have := hL.out; first | omega | exact Nat.le_refl _⟩, ⟨by (with_reducible repeat (first | apply Kd.V_alloc | apply Kd.V_drewN | apply Kd.V_drew)); exact Kd.V_mono HO_841000.out (fun _ hk => ⟨hk.1.1.1.1.1.1, ⟨hk.1.1.1.1.1.2.1, ⟨hk.1.1.1.2, ⟨hk.1.1.2, ⟨hk.1.1.1.1.1.2.2.1, ⟨hk.1.1.1.1.1.2.2.2.1, ⟨hk.1.1.1.1.1.2.2.2.2.1, ⟨hk.1.1.1.1.1.2.2.2.2.2, ⟨hk.1.2, hk.2⟩⟩⟩⟩⟩⟩⟩⟩⟩)⟩, ⟨by (with_reducible repeat (first | apply Kd.R_alloc | apply Kd.R_drewN | apply Kd.R_drew)); exact Kd.R_mono HO_842007.out (fun _ hk => hk.2)⟩, ⟨by (with_reducible repeat (first | apply Kd.R_alloc | apply Kd.R_drewN | apply Kd.R_drew)); exact Kd.R_mono HO_842008.out (fun _ hk => hk.2)⟩, ⟨by (with_reducible repeat (first | apply Kd.V_alloc | apply Kd.V_drewN | apply Kd.V_drew)); exact Kd.V_mono ak.out (fun _ hk => ⟨hk.1.1.2.2.2.1, ⟨hk.1.1.2.2.2.2.1, ⟨hk.1.1.2.1, ⟨hk.1.1.2.2.1, ⟨hk.1.1.2.2.2.2.2.1, ⟨hk.1.1.2.2.2.2.2.2.1, ⟨hk.1.1.2.2.2.2.2.2.2.1, ⟨hk.1.1.2.2.2.2.2.2.2.2, ⟨hk.1.2, hk.2⟩⟩⟩⟩⟩⟩⟩⟩⟩)⟩, ⟨by (with_reducible repeat (first | apply Kd.R_alloc | apply Kd.R_drewN | apply Kd.R_drew)); exact Kd.R_mono al.out (fun _ hk => hk.2)⟩, ⟨by (with_reducible repeat (first | apply Kd.R_alloc | apply Kd.R_drewN | apply Kd.R_drew)); exact Kd.R_mono am.out (fun _ hk => hk.2)⟩, ⟨BH ad.out⟩, ⟨BH aa.out⟩, ⟨BH ab.out⟩, ⟨BH ac.out⟩, ⟨BH aj.out⟩, ⟨BH ai.out⟩, ⟨BT HB.out⟩⟩
     rw [if_pos b1] at H
     have dp : (a9 == 0) = true := beq_iff_eq.mpr b1
     have c132b1 : (a9 != 0) = false := bne_eq_false_iff_eq.mpr b1
     clear b1
     have H' := AM_ H
     clear H
     have k8 := aN.out
     have k9 := aM.out
     have la := az.out
     have lb := ay.out
     have lc := aD.out
     have ld := aC.out
     have le := aP.out
     have lf := aO.out
     have lg := ao.out
     have lh := aU.out
     obtain ⟨d3, d4⟩ := bk1 aj.out
     have li := aR.out
     have lj := aQ.out
     have lk := aB.out
     have ll := aA.out
     have lm := aF.out
     have ln := aE.out
     have lp := aT.out
     have lq := aS.out
     obtain ⟨d5, d6, d7, d8, d9, ea, eb, ec, ed, ee, ef, eg, eh, ei, ej, ek, el, em⟩ := bk9 ai.out
     go_wp2_with (first | ((with_reducible refine G1 19 rfl ?_); refine GC (some 76) Try.func19 #[.agg #[.slice bR a7.length bP], .slice bU bb.length bT, .agg #[.int .i64 bd, .int .i64 aJ, .int .i64 be, .int .i64 bf, .int .i64 bg, .int .i64 bh, .int .i64 bi, .slice bG aW.length bB, .slice bH aX.length bC], .int .i64 bn] ?_; (with_reducible refine (spec_WriteCode.calls kj6 _ _ a7 _ _ bb bd aJ be bf bg bh bi _ _ aW _ _ aX bn bQ _ (CRV ak) (Kd.V_reads' ak.out).2.1 (CRR ap) (Kd.R_reads' ap.out).2.1 (CRR al) (Kd.R_reads' al.out).2.1 (CRR am) (Kd.R_reads' am.out).2.1 hM.out).mono ?_); rintro e n8 ⟨rfl, hb⟩; refine ⟨_, rfl, ?_⟩; replace HO_841000 := AM_ (Kd.V_below (by (with_reducible repeat (first | apply Kd.V_alloc | apply Kd.V_drewN | apply Kd.V_drew)); exact HO_841000.out) hb); replace HO_842007 := RB HO_842007 hb; replace HO_842008 := RB HO_842008 hb; replace ak := AM_ (Kd.V_below (by (with_reducible repeat (first | apply Kd.V_alloc | apply Kd.V_drewN | apply Kd.V_drew)); exact ak.out) hb); replace ap := RB ap hb; replace al := RB al hb; replace am := RB am hb; replace ad := BV ad hb; replace aa := BV aa hb; replace ab := BV ab hb; replace ac := BV ac hb; replace aj := BV aj hb; replace ai := BV ai hb; replace HB := BW HB hb; (try clear hb); obtain ⟨en, eo, ep, eq, er, es, et, eu, ev, ew, ex, ey, ez, eA, eB, eC, eD, eE⟩ := bk9 ai.out))
     go_meet
     case rel => exact ⟨_, (false), (by first | rfl | (simp; done) | (simp [*]; done)), H', ⟨by have := hL.out; first | omega | exact Nat.le_refl _⟩, ⟨by (with_reducible repeat (first | apply Kd.V_alloc | apply Kd.V_drewN | apply Kd.V_drew)); exact Kd.V_mono HO_841000.out (fun _ hk => ⟨hk.1.1.1.1.1.1, ⟨hk.1.1.1.1.1.2.1, ⟨hk.1.1.1.2, ⟨hk.1.1.2, ⟨hk.1.1.1.1.1.2.2.1, ⟨hk.1.1.1.1.1.2.2.2.1, ⟨hk.1.1.1.1.1.2.2.2.2.1, ⟨hk.1.1.1.1.1.2.2.2.2.2, ⟨hk.1.2, hk.2⟩⟩⟩⟩⟩⟩⟩⟩⟩)⟩, ⟨by (with_reducible repeat (first | apply Kd.R_alloc | apply Kd.R_drewN | apply Kd.R_drew)); exact Kd.R_mono HO_842007.out (fun _ hk => hk.2)⟩, ⟨by (with_reducible repeat (first | apply Kd.R_alloc | apply Kd.R_drewN | apply Kd.R_drew)); exact Kd.R_mono HO_842008.out (fun _ hk => hk.2)⟩, ⟨by (with_reducible repeat (first | apply Kd.V_alloc | apply Kd.V_drewN | apply Kd.V_drew)); exact Kd.V_mono ak.out (fun _ hk => ⟨hk.1.1.2.2.2.1, ⟨hk.1.1.2.2.2.2.1, ⟨hk.1.1.2.1, ⟨hk.1.1.2.2.1, ⟨hk.1.1.2.2.2.2.2.1, ⟨hk.1.1.2.2.2.2.2.2.1, ⟨hk.1.1.2.2.2.2.2.2.2.1, ⟨hk.1.1.2.2.2.2.2.2.2.2, ⟨hk.1.2, hk.2⟩⟩⟩⟩⟩⟩⟩⟩⟩)⟩, ⟨by (with_reducible repeat (first | apply Kd.R_alloc | apply Kd.R_drewN | apply Kd.R_drew)); exact Kd.R_mono al.out (fun _ hk => hk.2)⟩, ⟨by (with_reducible repeat (first | apply Kd.R_alloc | apply Kd.R_drewN | apply Kd.R_drew)); exact Kd.R_mono am.out (fun _ hk => hk.2)⟩, ⟨BH ad.out⟩, ⟨BH aa.out⟩, ⟨BH ab.out⟩, ⟨BH ac.out⟩, ⟨BH aj.out⟩, ⟨BH ai.out⟩, ⟨BT HB.out⟩⟩
    rw [if_pos hO] at H
    have hP : (a9 == 1) = true := beq_iff_eq.mpr hO
    have c74b1 : (a9 != 1) = false := bne_eq_false_iff_eq.mpr hO
    clear hO
    obtain ⟨lr, jX, H⟩ := OB H
    by_cases h5 : lr = true
    rotate_left
    ·replace h5 := Bool.eq_false_iff.mpr h5
     subst h5
     replace H := HF H
     have H' := AM_ H
     clear H
     have ls := aN.out
     have lt := aM.out
     have lu := az.out
     have lv := ay.out
     have lw := aD.out
     have lx := aC.out
     have ly := aP.out
     have lz := aO.out
     have lA := ao.out
     have lB := aU.out
     obtain ⟨eF, eG⟩ := bk1 aj.out
     have lC := aR.out
     have lD := aQ.out
     have lE := aB.out
     have lF := aA.out
     have lG := aF.out
     have lH := aE.out
     have lI := aT.out
     have lJ := aS.out
     obtain ⟨eH, eI, eJ, eK, eL, eM, eN, eO, eP, eQ, eR, eS, eT, eU, eV, eW, eX, eY⟩ := bk9 ai.out
     go_wp2_with (first | ((with_reducible refine G1 19 rfl ?_); refine GC (some 76) Try.func19 #[.agg #[.slice bR a7.length bP], .slice bU bb.length bT, .agg #[.int .i64 bd, .int .i64 aJ, .int .i64 be, .int .i64 bf, .int .i64 bg, .int .i64 bh, .int .i64 bi, .slice bG aW.length bB, .slice bH aX.length bC], .int .i64 bn] ?_; (with_reducible refine (spec_WriteCode.calls kj6 _ _ a7 _ _ bb bd aJ be bf bg bh bi _ _ aW _ _ aX bn bQ _ (CRV ak) (Kd.V_reads' ak.out).2.1 (CRR ap) (Kd.R_reads' ap.out).2.1 (CRR al) (Kd.R_reads' al.out).2.1 (CRR am) (Kd.R_reads' am.out).2.1 hM.out).mono ?_); rintro e n9 ⟨rfl, hb⟩; refine ⟨_, rfl, ?_⟩; replace HO_841000 := AM_ (Kd.V_below (by (with_reducible repeat (first | apply Kd.V_alloc | apply Kd.V_drewN | apply Kd.V_drew)); exact HO_841000.out) hb); replace HO_842007 := RB HO_842007 hb; replace HO_842008 := RB HO_842008 hb; replace ak := AM_ (Kd.V_below (by (with_reducible repeat (first | apply Kd.V_alloc | apply Kd.V_drewN | apply Kd.V_drew)); exact ak.out) hb); replace ap := RB ap hb; replace al := RB al hb; replace am := RB am hb; replace ad := BV ad hb; replace aa := BV aa hb; replace ab := BV ab hb; replace ac := BV ac hb; replace aj := BV aj hb; replace ai := BV ai hb; replace HB := BW HB hb; (try clear hb); obtain ⟨eZ, e0, e1, e2, e3, e4, e5, e6, e7, e8, e9, fa, fb, fc, fd, fe, ff, fg⟩ := bk9 ai.out) | (go_at_call 20; (with_reducible refine (impl_TakesLocks.calls aJ false _ jX.out).mono ?_); rintro e w' ⟨rfl, ⟨nd, rfl⟩⟩))
     go_meet
     case rel => exact ⟨_, (true), (by first | rfl | (simp; done) | (simp [*]; done)), H', ⟨by have := hL.out; first | omega | exact Nat.le_refl _⟩, ⟨by (with_reducible repeat (first | apply Kd.V_alloc | apply Kd.V_drewN | apply Kd.V_drew)); exact Kd.V_mono HO_841000.out (fun _ hk => ⟨hk.1.1.1.1.1.1, ⟨hk.1.1.1.1.1.2.1, ⟨hk.1.1.1.2, ⟨hk.1.1.2, ⟨hk.1.1.1.1.1.2.2.1, ⟨hk.1.1.1.1.1.2.2.2.1, ⟨hk.1.1.1.1.1.2.2.2.2.1, ⟨hk.1.1.1.1.1.2.2.2.2.2, ⟨hk.1.2, hk.2⟩⟩⟩⟩⟩⟩⟩⟩⟩)⟩, ⟨by (with_reducible repeat (first | apply Kd.R_alloc | apply Kd.R_drewN | apply Kd.R_drew)); exact Kd.R_mono HO_842007.out (fun _ hk => hk.2)⟩, ⟨by (with_reducible repeat (first | apply Kd.R_alloc | apply Kd.R_drewN | apply Kd.R_drew)); exact Kd.R_mono HO_842008.out (fun _ hk => hk.2)⟩, ⟨by (with_reducible repeat (first | apply Kd.V_alloc | apply Kd.V_drewN | apply Kd.V_drew)); exact Kd.V_mono ak.out (fun _ hk => ⟨hk.1.1.2.2.2.1, ⟨hk.1.1.2.2.2.2.1, ⟨hk.1.1.2.1, ⟨hk.1.1.2.2.1, ⟨hk.1.1.2.2.2.2.2.1, ⟨hk.1.1.2.2.2.2.2.2.1, ⟨hk.1.1.2.2.2.2.2.2.2.1, ⟨hk.1.1.2.2.2.2.2.2.2.2, ⟨hk.1.2, hk.2⟩⟩⟩⟩⟩⟩⟩⟩⟩)⟩, ⟨by (with_reducible repeat (first | apply Kd.R_alloc | apply Kd.R_drewN | apply Kd.R_drew)); exact Kd.R_mono al.out (fun _ hk => hk.2)⟩, ⟨by (with_reducible repeat (first | apply Kd.R_alloc | apply Kd.R_drewN | apply Kd.R_drew)); exact Kd.R_mono am.out (fun _ hk => hk.2)⟩, ⟨BH ad.out⟩, ⟨BH aa.out⟩, ⟨BH ab.out⟩, ⟨BH ac.out⟩, ⟨BH aj.out⟩, ⟨BH ai.out⟩, ⟨BT HB.out⟩⟩
    subst h5
    replace H := HT H
    by_cases hQ : aJ = 3
    rotate_left
    ·rw [if_neg hQ] at H
     have hR : (aJ == 3) = false := beq_eq_false_iff_ne.mpr hQ
     have c77b1 : (aJ != 3) = true := bne_iff_ne.mpr hQ
     have H' := AM_ H
     clear H
     have lK := aN.out
     have lL := aM.out
     have lM := az.out
     have lN := ay.out
     have lO := aD.out
     have lP := aC.out
     have lQ := aP.out
     have lR := aO.out
     have lS := ao.out
     have lT := aU.out
     obtain ⟨fh, fi⟩ := bk1 aj.out
     have lU := aR.out
     have lV := aQ.out
     have lW := aB.out
     have lX := aA.out
     have lY := aF.out
     have lZ := aE.out
     have l1 := aT.out
     have l2 := aS.out
     obtain ⟨fj, fk, fl, fm, fn, fo, fp, fq, fr, fs, ft, fu, fv, fw, fx, fy, fz, fA⟩ := bk9 ai.out
     go_wp2_with (first | ((with_reducible refine G1 19 rfl ?_); refine GC (some 76) Try.func19 #[.agg #[.slice bR a7.length bP], .slice bU bb.length bT, .agg #[.int .i64 bd, .int .i64 aJ, .int .i64 be, .int .i64 bf, .int .i64 bg, .int .i64 bh, .int .i64 bi, .slice bG aW.length bB, .slice bH aX.length bC], .int .i64 bn] ?_; (with_reducible refine (spec_WriteCode.calls kj6 _ _ a7 _ _ bb bd aJ be bf bg bh bi _ _ aW _ _ aX bn bQ _ (CRV ak) (Kd.V_reads' ak.out).2.1 (CRR ap) (Kd.R_reads' ap.out).2.1 (CRR al) (Kd.R_reads' al.out).2.1 (CRR am) (Kd.R_reads' am.out).2.1 hM.out).mono ?_); rintro e oa ⟨rfl, hb⟩; refine ⟨_, rfl, ?_⟩; replace HO_841000 := AM_ (Kd.V_below (by (with_reducible repeat (first | apply Kd.V_alloc | apply Kd.V_drewN | apply Kd.V_drew)); exact HO_841000.out) hb); replace HO_842007 := RB HO_842007 hb; replace HO_842008 := RB HO_842008 hb; replace ak := AM_ (Kd.V_below (by (with_reducible repeat (first | apply Kd.V_alloc | apply Kd.V_drewN | apply Kd.V_drew)); exact ak.out) hb); replace ap := RB ap hb; replace al := RB al hb; replace am := RB am hb; replace ad := BV ad hb; replace aa := BV aa hb; replace ab := BV ab hb; replace ac := BV ac hb; replace aj := BV aj hb; replace ai := BV ai hb; replace HB := BW HB hb; (try clear hb); obtain ⟨fB, fC, fD, fE, fF, fG, fH, fI, fJ, fK, fL, fM, fN, fO, fP, fQ, fR, fS⟩ := bk9 ai.out) | (go_at_call 20; (with_reducible refine (impl_TakesLocks.calls aJ true _ jX.out).mono ?_); rintro e w' ⟨rfl, ⟨nd, rfl⟩⟩))
     go_meet
     case rel => exact ⟨_, (false), (by first | rfl | (simp; done) | (simp [*]; done)), H', ⟨by have := hL.out; first | omega | exact Nat.le_refl _⟩, ⟨by (with_reducible repeat (first | apply Kd.V_alloc | apply Kd.V_drewN | apply Kd.V_drew)); exact Kd.V_mono HO_841000.out (fun _ hk => ⟨hk.1.1.1.1.1.1, ⟨hk.1.1.1.1.1.2.1, ⟨hk.1.1.1.2, ⟨hk.1.1.2, ⟨hk.1.1.1.1.1.2.2.1, ⟨hk.1.1.1.1.1.2.2.2.1, ⟨hk.1.1.1.1.1.2.2.2.2.1, ⟨hk.1.1.1.1.1.2.2.2.2.2, ⟨hk.1.2, hk.2⟩⟩⟩⟩⟩⟩⟩⟩⟩)⟩, ⟨by (with_reducible repeat (first | apply Kd.R_alloc | apply Kd.R_drewN | apply Kd.R_drew)); exact Kd.R_mono HO_842007.out (fun _ hk => hk.2)⟩, ⟨by (with_reducible repeat (first | apply Kd.R_alloc | apply Kd.R_drewN | apply Kd.R_drew)); exact Kd.R_mono HO_842008.out (fun _ hk => hk.2)⟩, ⟨by (with_reducible repeat (first | apply Kd.V_alloc | apply Kd.V_drewN | apply Kd.V_drew)); exact Kd.V_mono ak.out (fun _ hk => ⟨hk.1.1.2.2.2.1, ⟨hk.1.1.2.2.2.2.1, ⟨hk.1.1.2.1, ⟨hk.1.1.2.2.1, ⟨hk.1.1.2.2.2.2.2.1, ⟨hk.1.1.2.2.2.2.2.2.1, ⟨hk.1.1.2.2.2.2.2.2.2.1, ⟨hk.1.1.2.2.2.2.2.2.2.2, ⟨hk.1.2, hk.2⟩⟩⟩⟩⟩⟩⟩⟩⟩)⟩, ⟨by (with_reducible repeat (first | apply Kd.R_alloc | apply Kd.R_drewN | apply Kd.R_drew)); exact Kd.R_mono al.out (fun _ hk => hk.2)⟩, ⟨by (with_reducible repeat (first | apply Kd.R_alloc | apply Kd.R_drewN | apply Kd.R_drew)); exact Kd.R_mono am.out (fun _ hk => hk.2)⟩, ⟨BH ad.out⟩, ⟨BH aa.out⟩, ⟨BH ab.out⟩, ⟨BH ac.out⟩, ⟨BH aj.out⟩, ⟨BH ai.out⟩, ⟨BT HB.out⟩⟩
    rw [if_pos hQ] at H
    have hR : (aJ == 3) = true := beq_iff_eq.mpr hQ
    have c77b1 : (aJ != 3) = false := bne_eq_false_iff_eq.mpr hQ
    clear hQ
    by_cases hS : a9 = 0
    ·rw [if_pos hS] at H
     have hT : (a9 == 0) = true := beq_iff_eq.mpr hS
     have c78b1 : (a9 != 0) = false := bne_eq_false_iff_eq.mpr hS
     clear hS
     have H' := AM_ H
     clear H
     have np := aN.out
     have nq := aM.out
     have nr := az.out
     have ns := ay.out
     have nt := aD.out
     have nu := aC.out
     have nv := aP.out
     have nw := aO.out
     have nx := ao.out
     have ny := aU.out
     obtain ⟨gY, gZ⟩ := bk1 aj.out
     have nz := aR.out
     have nA := aQ.out
     have nB := aB.out
     have nC := aA.out
     have nD := aF.out
     have nE := aE.out
     have nF := aT.out
     have nG := aS.out
     obtain ⟨g0, g1, g2, g3, g4, g5, g6, g7, g8, g9, ha, hc, he, hf, hh, hi, hj, hl⟩ := bk9 ai.out
     go_wp2_with (first | ((with_reducible refine G1 19 rfl ?_); refine GC (some 76) Try.func19 #[.agg #[.slice bR a7.length bP], .slice bU bb.length bT, .agg #[.int .i64 bd, .int .i64 aJ, .int .i64 be, .int .i64 bf, .int .i64 bg, .int .i64 bh, .int .i64 bi, .slice bG aW.length bB, .slice bH aX.length bC], .int .i64 bn] ?_; (with_reducible refine (spec_WriteCode.calls kj6 _ _ a7 _ _ bb bd aJ be bf bg bh bi _ _ aW _ _ aX bn bQ _ (CRV ak) (Kd.V_reads' ak.out).2.1 (CRR ap) (Kd.R_reads' ap.out).2.1 (CRR al) (Kd.R_reads' al.out).2.1 (CRR am) (Kd.R_reads' am.out).2.1 hM.out).mono ?_); rintro e oz ⟨rfl, hb⟩; refine ⟨_, rfl, ?_⟩; replace HO_841000 := AM_ (Kd.V_below (by (with_reducible repeat (first | apply Kd.V_alloc | apply Kd.V_drewN | apply Kd.V_drew)); exact HO_841000.out) hb); replace HO_842007 := RB HO_842007 hb; replace HO_842008 := RB HO_842008 hb; replace ak := AM_ (Kd.V_below (by (with_reducible repeat (first | apply Kd.V_alloc | apply Kd.V_drewN | apply Kd.V_drew)); exact ak.out) hb); replace ap := RB ap hb; replace al := RB al hb; replace am := RB am hb; replace ad := BV ad hb; replace aa := BV aa hb; replace ab := BV ab hb; replace ac := BV ac hb; replace aj := BV aj hb; replace ai := BV ai hb; replace HB := BW HB hb; (try clear hb); obtain ⟨hm, hn, ho, hp, hq, hr, hs, ht, hu, hv, hw, hx, hy, hz, hA, hB, hC, hD⟩ := bk9 ai.out) | (go_at_call 20; (with_reducible refine (impl_TakesLocks.calls aJ true _ jX.out).mono ?_); rintro e w' ⟨rfl, ⟨nd, rfl⟩⟩))
     go_meet
     case rel => exact ⟨_, (false), (by first | rfl | (simp; done) | (simp [*]; done)), H', ⟨by have := hL.out; first | omega | exact Nat.le_refl _⟩, ⟨by (with_reducible repeat (first | apply Kd.V_alloc | apply Kd.V_drewN | apply Kd.V_drew)); exact Kd.V_mono HO_841000.out (fun _ hk => ⟨hk.1.1.1.1.1.1, ⟨hk.1.1.1.1.1.2.1, ⟨hk.1.1.1.2, ⟨hk.1.1.2, ⟨hk.1.1.1.1.1.2.2.1, ⟨hk.1.1.1.1.1.2.2.2.1, ⟨hk.1.1.1.1.1.2.2.2.2.1, ⟨hk.1.1.1.1.1.2.2.2.2.2, ⟨hk.1.2, hk.2⟩⟩⟩⟩⟩⟩⟩⟩⟩)⟩, ⟨by (with_reducible repeat (first | apply Kd.R_alloc | apply Kd.R_drewN | apply Kd.R_drew)); exact Kd.R_mono HO_842007.out (fun _ hk => hk.2)⟩, ⟨by (with_reducible repeat (first | apply Kd.R_alloc | apply Kd.R_drewN | apply Kd.R_drew)); exact Kd.R_mono HO_842008.out (fun _ hk => hk.2)⟩, ⟨by (with_reducible repeat (first | apply Kd.V_alloc | apply Kd.V_drewN | apply Kd.V_drew)); exact Kd.V_mono ak.out (fun _ hk => ⟨hk.1.1.2.2.2.1, ⟨hk.1.1.2.2.2.2.1, ⟨hk.1.1.2.1, ⟨hk.1.1.2.2.1, ⟨hk.1.1.2.2.2.2.2.1, ⟨hk.1.1.2.2.2.2.2.2.1, ⟨hk.1.1.2.2.2.2.2.2.2.1, ⟨hk.1.1.2.2.2.2.2.2.2.2, ⟨hk.1.2, hk.2⟩⟩⟩⟩⟩⟩⟩⟩⟩)⟩, ⟨by (with_reducible repeat (first | apply Kd.R_alloc | apply Kd.R_drewN | apply Kd.R_drew)); exact Kd.R_mono al.out (fun _ hk => hk.2)⟩, ⟨by (with_reducible repeat (first | apply Kd.R_alloc | apply Kd.R_drewN | apply Kd.R_drew)); exact Kd.R_mono am.out (fun _ hk => hk.2)⟩, ⟨BH ad.out⟩, ⟨BH aa.out⟩, ⟨BH ab.out⟩, ⟨BH ac.out⟩, ⟨BH aj.out⟩, ⟨BH ai.out⟩, ⟨BT HB.out⟩⟩
    rw [if_neg hS] at H
    have hT : (a9 == 0) = false := beq_eq_false_iff_ne.mpr hS
    have c78b1 : (a9 != 0) = true := bne_iff_ne.mpr hS
    have H' := AM_ H
    clear H
    have nH := aN.out
    have nI := aM.out
    have nJ := az.out
    have nK := ay.out
    have nL := aD.out
    have nM := aC.out
    have nN := aP.out
    have nO := aO.out
    have nP := ao.out
    have nQ := aU.out
    obtain ⟨hE, hF⟩ := bk1 aj.out
    have nR := aR.out
    have nS := aQ.out
    have nT := aB.out
    have nU := aA.out
    have l3 := aF.out
    have l4 := aE.out
    have l5 := aT.out
    have l6 := aS.out
    obtain ⟨fT, fU, fV, fW, fX, fY, fZ, f0, f1, f2, f3, f5, f6, f7, f8, f9, ga, gb⟩ := bk9 ai.out
    go_wp2_with (first | ((with_reducible refine G1 19 rfl ?_); refine GC (some 76) Try.func19 #[.agg #[.slice bR a7.length bP], .slice bU bb.length bT, .agg #[.int .i64 bd, .int .i64 aJ, .int .i64 be, .int .i64 bf, .int .i64 bg, .int .i64 bh, .int .i64 bi, .slice bG aW.length bB, .slice bH aX.length bC], .int .i64 bn] ?_; (with_reducible refine (spec_WriteCode.calls kj6 _ _ a7 _ _ bb bd aJ be bf bg bh bi _ _ aW _ _ aX bn bQ _ (CRV ak) (Kd.V_reads' ak.out).2.1 (CRR ap) (Kd.R_reads' ap.out).2.1 (CRR al) (Kd.R_reads' al.out).2.1 (CRR am) (Kd.R_reads' am.out).2.1 hM.out).mono ?_); rintro e ob ⟨rfl, hb⟩; refine ⟨_, rfl, ?_⟩; replace HO_841000 := AM_ (Kd.V_below (by (with_reducible repeat (first | apply Kd.V_alloc | apply Kd.V_drewN | apply Kd.V_drew)); exact HO_841000.out) hb); replace HO_842007 := RB HO_842007 hb; replace HO_842008 := RB HO_842008 hb; replace ak := AM_ (Kd.V_below (by (with_reducible repeat (first | apply Kd.V_alloc | apply Kd.V_drewN | apply Kd.V_drew)); exact ak.out) hb); replace ap := RB ap hb; replace al := RB al hb; replace am := RB am hb; replace ad := BV ad hb; replace aa := BV aa hb; replace ab := BV ab hb; replace ac := BV ac hb; replace aj := BV aj hb; replace ai := BV ai hb; replace HB := BW HB hb; (try clear hb); obtain ⟨gc, ge, gf, gg, gh, gi, gj, gk, gl, gm, gn, go, gp, gq, gr, gs, gt, gu⟩ := bk9 ai.out) | (go_at_call 20; (with_reducible refine (impl_TakesLocks.calls aJ true _ jX.out).mono ?_); rintro e w' ⟨rfl, ⟨nd, rfl⟩⟩))
    go_meet
    case rel => exact ⟨_, ((a9 != 6)), (by first | rfl | (simp; done) | (simp [*]; done)), H', ⟨by have := hL.out; first | omega | exact Nat.le_refl _⟩, ⟨by (with_reducible repeat (first | apply Kd.V_alloc | apply Kd.V_drewN | apply Kd.V_drew)); exact Kd.V_mono HO_841000.out (fun _ hk => ⟨hk.1.1.1.1.1.1, ⟨hk.1.1.1.1.1.2.1, ⟨hk.1.1.1.2, ⟨hk.1.1.2, ⟨hk.1.1.1.1.1.2.2.1, ⟨hk.1.1.1.1.1.2.2.2.1, ⟨hk.1.1.1.1.1.2.2.2.2.1, ⟨hk.1.1.1.1.1.2.2.2.2.2, ⟨hk.1.2, hk.2⟩⟩⟩⟩⟩⟩⟩⟩⟩)⟩, ⟨by (with_reducible repeat (first | apply Kd.R_alloc | apply Kd.R_drewN | apply Kd.R_drew)); exact Kd.R_mono HO_842007.out (fun _ hk => hk.2)⟩, ⟨by (with_reducible repeat (first | apply Kd.R_alloc | apply Kd.R_drewN | apply Kd.R_drew)); exact Kd.R_mono HO_842008.out (fun _ hk => hk.2)⟩, ⟨by (with_reducible repeat (first | apply Kd.V_alloc | apply Kd.V_drewN | apply Kd.V_drew)); exact Kd.V_mono ak.out (fun _ hk => ⟨hk.1.1.2.2.2.1, ⟨hk.1.1.2.2.2.2.1, ⟨hk.1.1.2.1, ⟨hk.1.1.2.2.1, ⟨hk.1.1.2.2.2.2.2.1, ⟨hk.1.1.2.2.2.2.2.2.1, ⟨hk.1.1.2.2.2.2.2.2.2.1, ⟨hk.1.1.2.2.2.2.2.2.2.2, ⟨hk.1.2, hk.2⟩⟩⟩⟩⟩⟩⟩⟩⟩)⟩, ⟨by (with_reducible repeat (first | apply Kd.R_alloc | apply Kd.R_drewN | apply Kd.R_drew)); exact Kd.R_mono al.out (fun _ hk => hk.2)⟩, ⟨by (with_reducible repeat (first | apply Kd.R_alloc | apply Kd.R_drewN | apply Kd.R_drew)); exact Kd.R_mono am.out (fun _ hk => hk.2)⟩, ⟨BH ad.out⟩, ⟨BH aa.out⟩, ⟨BH ab.out⟩, ⟨BH ac.out⟩, ⟨BH aj.out⟩, ⟨BH ai.out⟩, ⟨BT HB.out⟩⟩
   case rest =>
    clear hW
    try clear c3
    try clear gz
    try clear cm
    try clear c33b1
    try clear gB
    try clear cn
    try clear c36b1
    try clear h4
    try clear hN
    try clear bX
    try clear c73b1
    try clear hO
    try clear hP
    try clear c74b1
    try clear h5
    try clear hQ
    try clear hR
    try clear c77b1
    try clear hS
    try clear hT
    try clear c78b1
    try clear b0
    try clear cJ
    try clear c131b1
    try clear b1
    try clear dp
    try clear c132b1
    try clear fT fU fV fW fX fY fZ f0 f1
    try clear gc ge gf gg gh gi gj gk gl
    try clear fh
    try clear fj fk fl fm fn fo fp fq fr
    try clear fB fC fD fE fF fG fH fI fJ
    try clear eF
    try clear eH eI eJ eK eL eM eN eO eP
    try clear eZ e0 e1 e2 e3 e4 e5 e6 e7
    try clear d3
    try clear d5 d6 d7 d8 d9 ea eb ec ed
    try clear en eo ep eq er es et eu ev
    try clear dq
    try clear dt du dv dw dx dy dz dA dB
    try clear dL dM dN dO dP dQ dR dS dT
    try clear cK
    try clear cM cN cO cP cQ cR cS cT cU
    try clear c6 c7 c8 c9 da db dc dd de
    try clear co
    try clear cq cr ct cu cv cw cx cy cz
    try clear gE
    try clear gG gH gI gJ gK gL gM gN gO
    try clear gY
    try clear g0 g1 g2 g3 g4 g5 g6 g7 g8
    try clear hm hn ho hp hq hr hs ht hu
    try clear hE
    try clear f2 f3 f5 f6 f7 f8 f9 ga gb
    try clear gm gn go gp gq gr gs gt gu
    try clear fi
    try clear fs ft fu fv fw fx fy fz fA
    try clear fK fL fM fN fO fP fQ fR fS
    try clear eG
    try clear eQ eR eS eT eU eV eW eX eY
    try clear e8 e9 fa fb fc fd fe ff fg
    try clear d4
    try clear ee ef eg eh ei ej ek el em
    try clear ew ex ey ez eA eB eC eD eE
    try clear dr
    try clear dC dD dE dF dG dH dI dJ dK
    try clear dU dV dW dX dY dZ d0 d1 d2
    try clear cL
    try clear cV cW cX cY cZ c1 c2 c4 c5
    try clear df dg dh di dj dk dl dm dn
    try clear cp
    try clear cA cB cC cD cE cF cG cH cI
    try clear gF
    try clear gP gQ gR gS gT gU gV gW gX
    try clear gZ
    try clear g9 ha hc he hf hh hi hj hl
    try clear hv hw hx hy hz hA hB hC hD
    try clear hF
    obtain ⟨kq, bS, rfl, HA, oc, HO_841000, HO_842007, HO_842008, HO_880000, HO_881007, HO_881008, ad, aa, ab, ac, aj, ai, HB⟩ := hcut
    cases kq with
    | zero => exact absurd HA.out (by simp [laws_FnSchemes.j1])
    | succ kj51 =>
     have H := HA.out
     clear HA
     simp only [laws_FnSchemes.j1] at H
     by_cases hG : bS = true
     ·subst hG
      replace H := HT H
      obtain rfl := SI H
      go_wp2
      go_ret
      exact QT (BT HB.out)
     replace hG := Bool.eq_false_iff.mpr hG
     subst hG
     replace H := HF H
     by_cases b6 : bK = 0
     rotate_left
     ·rw [if_neg b6] at H
      have hX : (bK == 0) = false := beq_eq_false_iff_ne.mpr b6
      have c185b1 : (bK != 0) = true := bne_iff_ne.mpr b6
      obtain rfl := SI H
      go_wp2
      go_ret
      exact QT (BT HB.out)
     rw [if_pos b6] at H
     have hX : (bK == 0) = true := beq_iff_eq.mpr b6
     have c185b1 : (bK != 0) = false := bne_eq_false_iff_eq.mpr b6
     clear b6
     by_cases b7 : aV = 2
     ·rw [if_pos b7] at H
      have hY : (aV == 2) = true := beq_iff_eq.mpr b7
      have c186b1 : (aV != 2) = false := bne_eq_false_iff_eq.mpr b7
      clear b7
      obtain rfl := SI H
      have l7 := bL.out
      have l8 := av.out
      have l9 := bD.out
      have ma := bN.out
      have mb := aY.out
      have mc := bO.out
      have md := ay.out
      have me := az.out
      have mf := aA.out
      have mg := aB.out
      obtain ⟨h6, h7, h8, h9, ia, ib, ic, id, ie, ig, ih, ii, ij, ik, il, im, io, ip⟩ := bk9 aa.out
      have mh := bV.out
      have mi := bM.out
      have mj := a8.out
      have mk := bW.out
      have ml := aC.out
      have mm := aD.out
      have mo := aE.out
      have mp := aF.out
      obtain ⟨iq, ir, it, iu, iv, iw, ix, iy, iz, iA⟩ := bk5 ab.out
      go_wp2
      go_ret
      exact QT (BT HB.out)
     rw [if_neg b7] at H
     have hY : (aV == 2) = false := beq_eq_false_iff_ne.mpr b7
     have c186b1 : (aV != 2) = true := bne_iff_ne.mpr b7
     replace H := HI H
     obtain ⟨iB, H⟩ := H
     have mq := DE iB
     clear iB
     replace H := HI H
     obtain ⟨iC, H⟩ := H
     have mr := DE iC
     clear iC
     obtain ⟨⟨ms, mt, mu, mv, mw⟩, my, H⟩ := OB H
     obtain rfl := SI H
     have mz := bL.out
     have mA := av.out
     have mB := bD.out
     have mC := bN.out
     have mD := aY.out
     have mE := bO.out
     have mF := ay.out
     have mG := az.out
     have mH := aA.out
     have mI := aB.out
     obtain ⟨iD, iE, iF, iG, iH, iI, iJ, iK, iL, iM, iN, iO, iP, iQ, iR, iS, iT, iU⟩ := bk9 aa.out
     try go_wp2
     replace HO_841000 := AM_ (Kd.V_drew HO_841000.out)
     replace HO_842007 := AM_ (Kd.R_drew HO_842007.out)
     replace HO_842008 := AM_ (Kd.R_drew HO_842008.out)
     replace HO_880000 := AM_ (Kd.V_drew HO_880000.out)
     replace HO_881007 := AM_ (Kd.R_drew HO_881007.out)
     replace HO_881008 := AM_ (Kd.R_drew HO_881008.out)
     replace ad := BD1 ad
     replace aa := BD1 aa
     replace ab := BD1 ab
     replace ac := BD1 ac
     replace aj := BD1 aj
     replace ai := BD1 ai
     replace HB := BD2 HB
     have hH : 0 ≤ (bF : Int) := DT
     have hI : bF < (aw.length : Int) := DT
     obtain ⟨hU, gv, gw, mJ, bY, ca, cb⟩ := at_L3 (Kd.V_reads' HO_841000.out).2.2 bF hH hI
     cases mJ
     obtain ⟨nV, hce884, hMe884, gx⟩ := Kd.V_get HO_841000.out [] bF hH (by first | exact hI | exact DT | (have e_ := (Kd.V_reads' HO_841000.out).1; omega))
     obtain ⟨ua884_0, uc884_0, rfl, ul884_0, ge884_0⟩ := Kd.FK_slice_open hMe884
     have hv884_0 := gx 0 _ rfl
     rw [Nat.add_zero, show ((Kd.slice 52 k52)).sz = 1 from rfl, Nat.mul_one] at hv884_0
     replace hv884_0 := Option.some.inj (hv884_0.symm.trans bY)
     injection hv884_0 with hva_ hvn_ hvc_
     rw [hva_] at ge884_0
     rw [hvc_] at ul884_0
     have HL884_0 := AM_ (show Kd.V k52 52 _ w.heap.size _ _ (rd_L3 aw bF) from Kd.V_mk ul884_0 ge884_0)
     clear hva_ hvn_ hvc_ ge884_0 ul884_0
     clear gx hce884
     have bE := AM_ cb
     have hJ := AM_ ca
     clear cb ca
     replace hH := ET hH
     replace hI := ET hI
     refine start_ (n := 9) (S := fun w' => w'.cell? ⟨an, 0, none⟩ = some (.int .i64 bo) ∧ w'.cell? ⟨an, 1, none⟩ = some (.int .i64 bp) ∧ w'.cell? ⟨an, 2, none⟩ = some (.int .i64 bq) ∧ w'.cell? ⟨an, 3, none⟩ = some (.int .i64 br) ∧ w'.cell? ⟨an, 4, none⟩ = some (.int .i64 bu) ∧ w'.cell? ⟨aG, 0, none⟩ = some (.slice (some hU) aw.length a6) ∧ w'.cell? (hU.add (bF).toNat) = some (.slice gv (rd_L3 aw bF).length gw)) (ds := []) (lo 0 9) (by kernel_rfl) rfl rfl ⟨bc ab.out 0, bc ab.out 1, bc ab.out 2, bc ab.out 3, bc ab.out 4, bc ad.out 0, bY⟩ (fun ax => ?_); refine with_tabW laws_FnSchemes.tab16 laws_FnSchemes.bits16 (fun bk b2 => ?_)
     generalize wc.drew = od at HO_841000 HO_842007 HO_842008 HO_880000 HO_881007 HO_881008 ad aa ab ac aj ai HB HL884_0 bE bY ax ⊢
     refine PV 1 (some 112) (bs 2 9) bk ?_
     refine PV 3 (some 114) (bs 10 9) bk ?_
     refine TX 0 (some 111) (bs 11 9) bk b2 ax ?_
     refine TX 2 (some 113) (lo 4 9) bk b2 ax ?_
     iterate 2 first | refine PS bk ?_ | refine TS bk b2 ax ?_
     refine OS bk (fun K hK => ?_)
     refine GO Try.func21 #[.slice gv (rd_L3 aw bF).length gw] ?_
     with_reducible refine (spec_LatestVersion.calls kj51 _ _ (rd_L3 aw bF) ms mt mu mv mw _ ?side1 hJ.out my.out).mono ?_
     (case side1 => repeat (first | exact (by repeat (first | (with_reducible exact bE.out) | (with_reducible refine Kd.C_alloc ?_ _) | (with_reducible refine Kd.C_drewN ?_ _) | (with_reducible refine Kd.C_drew ?_) | exact bE.out)) | (with_reducible refine Kd.C_alloc ?_ _) | (with_reducible refine Kd.C_drewN ?_ _) | (with_reducible refine Kd.C_drew ?_)))
     rintro e oe ⟨rfl, hb⟩
     have HS6_ := (hb.cell (World.block_lt_of_cell? _ _ (ax.2.2.2.2.2.2))).trans (ax.2.2.2.2.2.2)
     refine ⟨_, rfl, ?_⟩
     replace HO_841000 := AM_ (Kd.V_below (by (with_reducible repeat (first | apply Kd.V_alloc | apply Kd.V_drewN | apply Kd.V_drew)); exact HO_841000.out) hb)
     replace HO_842007 := RB HO_842007 hb
     replace HO_842008 := RB HO_842008 hb
     replace HO_880000 := AM_ (Kd.V_below (by (with_reducible repeat (first | apply Kd.V_alloc | apply Kd.V_drewN | apply Kd.V_drew)); exact HO_880000.out) hb)
     replace HO_881007 := RB HO_881007 hb
     replace HO_881008 := RB HO_881008 hb
     replace HL884_0 := AM_ (Kd.V_below (by (with_reducible repeat (first | apply Kd.V_alloc | apply Kd.V_drewN | apply Kd.V_drew)); exact HL884_0.out) hb)
     replace ad := BV ad hb
     replace aa := BV aa hb
     replace ab := BV ab hb
     replace ac := BV ac hb
     replace aj := BV aj hb
     replace ai := BV ai hb
     replace bE := AM_ (Kd.C_below (by repeat (first | (with_reducible exact bE.out) | (with_reducible refine Kd.C_alloc ?_ _) | (with_reducible refine Kd.C_drewN ?_ _) | (with_reducible refine Kd.C_drew ?_) | exact bE.out)) hb)
     replace HB := BW HB hb
     (try clear hb)
     refine hK.out _ _ ⟨bc ab.out 0, bc ab.out 1, bc ab.out 2, bc ab.out 3, bc ab.out 4, bc ad.out 0, HS6_⟩ (fun ax => ?_)
     clear hK K
     refine NM 117 ?_
     iterate 2 refine PS bk ?_
     refine done_ (done_of bk.out (by kernel_rfl)) ?_
     try go_wp2
     go_ret
     exact QT (BT HB.out)

/-- THE ONE PURE STATEMENT of laws_FnSchemes: yours. -/
def laws_FnSchemes.Pure : Prop := ∀ (l0 : List Int), l0.length ≤ maxLen → l0.length * 1 ≤ 140737488351232 → (∀ x ∈ l0, (Lit.int .u8 x).wf = true) → ∃ k, laws_FnSchemes.f k l0 = some true
theorem laws_FnSchemes.walk (P : laws_FnSchemes.Pure) (a0 : Option Addr) (len0 cap0 : Nat) (z0 : List Int) (w : World) (w0 : (a0 = none ∧ len0 = 0 ∧ cap0 = 0 ∧ z0 = []) ∨ ∃ x, a0 = some x ∧ len0 ≤ cap0 ∧ cap0 ≤ maxLen ∧ z0.length = cap0 ∧ (∀ i, i < z0.length → w.cell? (x.add i) = some (.int .u8 (z0.getD i 0))) ∧ ∀ n ∈ z0, (Lit.int .u8 n).wf = true) (y0 : len0 * 1 ≤ 140737488351232) :
  Calls Try.prog 4 #[.slice a0 len0 cap0] w fun e w' => e = .returned (.bool true) ∧ Below w.heap.size w w' := by
 obtain ⟨l0, rfl, aa, hm0, ab, ac⟩ := ReadsInt.ofRowC w0
 obtain ⟨k, h⟩ := P l0 hm0 y0 ab
 refine (laws_FnSchemes.calls k _ _ l0 true w (Kd.C_of_reads (d := (0 : Int)) (h1 := fun _ => rfl) aa) ac h).mono ?_
 rintro e w' ⟨rfl, hd⟩
 exact ⟨rfl, hd⟩

end Go.Proofs.Ytdgknikgfjhohaa.PFnSchemes
