-- Printed by wip/myprint.py.
import Derived.Test.YtdgknikgfjhohaaPFnSchemesx4
namespace Go.Proofs.Ytdgknikgfjhohaa.PFnSchemes
open Go.RowKit Go.Proofs.YtdgknikgfjhohaaW.PrintWords Go.Proofs.YtdgknikgfjhohaaW.PrintLast Go.Proofs.YtdgknikgfjhohaaW.PrintMore
set_option maxHeartbeats 8000000
set_option maxRecDepth 100000
set_option linter.unusedVariables false
set_option linter.unusedSimpArgs false

/-! ### spec_l3Any: function 122 -/
def spec_l3Any.f (k : Nat) (s0_0 : List Int) (s0_1 : Int) (s0_2 : Int) : Option ((List (S52)) × Int × Int) := (spec_l3Chain.f k s0_0 s0_1 s0_2).bind fun bt165 => ((spec_l1Below.f s0_0 bt165.2.1 bt165.2.2 (bt165.1.length : Int)).bind fun bt170 => ((spec_l1Below.f s0_0 bt170.2.1 bt170.2.2 16).bind fun bt173 => (if bt173.1 = 0 then ((spec_l1PickInt.f s0_0 bt173.2.1 bt173.2.2 (([0, 1, 3, 1000, 1001] : List Int))).bind fun bt179 => (if 0 ≤ bt170.1 then (if bt170.1 < (bt165.1.length : Int) then (some ((bt165.1.set (bt170.1 : Int).toNat (⟨(rd_T52 bt165.1 bt170.1).f0, (rd_T52 bt165.1 bt170.1).f1, (rd_T52 bt165.1 bt170.1).f2, (rd_T52 bt165.1 bt170.1).f3, bt179.1⟩ : S52)), bt179.2.1, bt179.2.2)) else (none)) else (none))) else (if bt173.1 = 1 then ((spec_l1PickInt.f s0_0 bt173.2.1 bt173.2.2 (([(-1), 0, 999, 1000] : List Int))).bind fun bt186 => (if 0 ≤ bt170.1 then (if bt170.1 < (bt165.1.length : Int) then (some ((bt165.1.set (bt170.1 : Int).toNat (⟨(rd_T52 bt165.1 bt170.1).f0, (rd_T52 bt165.1 bt170.1).f1, (rd_T52 bt165.1 bt170.1).f2, bt186.1, (rd_T52 bt165.1 bt170.1).f4⟩ : S52)), bt186.2.1, bt186.2.2)) else (none)) else (none))) else (if bt173.1 = 2 then ((spec_l1PickInt.f s0_0 bt173.2.1 bt173.2.2 (([(-2), 100, 99] : List Int))).bind fun bt193 => (if 0 ≤ bt170.1 then (if bt170.1 < (bt165.1.length : Int) then (some ((bt165.1.set (bt170.1 : Int).toNat (⟨(rd_T52 bt165.1 bt170.1).f0, bt193.1, (rd_T52 bt165.1 bt170.1).f2, (rd_T52 bt165.1 bt170.1).f3, (rd_T52 bt165.1 bt170.1).f4⟩ : S52)), bt193.2.1, bt193.2.2)) else (none)) else (none))) else (if bt173.1 = 3 then (if 1 ≤ (bt165.1.length : Int) then (some ((bt165.1.drop (1 : Int).toNat), bt173.2.1, bt173.2.2)) else (none)) else (if bt173.1 = 4 then ((spec_l1PickInt.f s0_0 bt173.2.1 bt173.2.2 (([0, 9, 10] : List Int))).bind fun bt203 => (if 0 ≤ bt170.1 then (if bt170.1 < (bt165.1.length : Int) then (some ((bt165.1.set (bt170.1 : Int).toNat (⟨bt203.1, (rd_T52 bt165.1 bt170.1).f1, (rd_T52 bt165.1 bt170.1).f2, (rd_T52 bt165.1 bt170.1).f3, (rd_T52 bt165.1 bt170.1).f4⟩ : S52)), bt203.2.1, bt203.2.2)) else (none)) else (none))) else (some (bt165.1, bt173.2.1, bt173.2.2)))))))))
theorem spec_l3Any.mono : ∀ a0 a1 a2 k, LeO (spec_l3Any.f k a0 a1 a2) (spec_l3Any.f (k + 1) a0 a1 a2) := by
 intro a0 a1 a2 k
 unfold spec_l3Any.f
 repeat' (with_reducible first | exact spec_l3Chain.mono .. | exact LeO.refl _ | exact LeO.none _ | refine LeO.ite ?_ ?_ | refine LeO.bind ?_ (fun _ => ?_))
theorem spec_l3Any.calls (k : Nat) (g : Nat) (s0_0 : List Int) (s0_1 : Int) (s0_2 : Int) (r1 : List (S52)) (r2 : Int) (r3 : Int) (w0 w : World) (hI : IsS164 w0 w g s0_0 s0_1 s0_2) (hB : Below w0.heap.size w0 w) (h : spec_l3Any.f k s0_0 s0_1 s0_2 = some (r1, r2, r3)) :
  Calls Try.prog 122 #[.pointer (some ⟨g, 0, none⟩)] w fun e w' => ∃ dk : Value, e = .returned (dk) ∧ Kd.Q k52 52 w' w.heap.size (fun _ => True) dk r1 ∧ IsS164 w0 w' g s0_0 r2 r3 ∧ Below w0.heap.size w0 w' ∧ KeepBut w w' g none := by
 have ad := AM_ hI
 have HK := AM_ (KeepBut.refl w g none)
 have HL := AM_ hB.size
 clear hI
 have HW0 := AM_ hB.size
 have HB := AM_ hB
 clear hB
 have H : ((spec_l3Chain.f k s0_0 s0_1 s0_2).bind fun bt165 => ((spec_l1Below.f s0_0 bt165.2.1 bt165.2.2 (bt165.1.length : Int)).bind fun bt170 => ((spec_l1Below.f s0_0 bt170.2.1 bt170.2.2 16).bind fun bt173 => (if bt173.1 = 0 then ((spec_l1PickInt.f s0_0 bt173.2.1 bt173.2.2 (([0, 1, 3, 1000, 1001] : List Int))).bind fun bt179 => (if 0 ≤ bt170.1 then (if bt170.1 < (bt165.1.length : Int) then (some ((bt165.1.set (bt170.1 : Int).toNat (⟨(rd_T52 bt165.1 bt170.1).f0, (rd_T52 bt165.1 bt170.1).f1, (rd_T52 bt165.1 bt170.1).f2, (rd_T52 bt165.1 bt170.1).f3, bt179.1⟩ : S52)), bt179.2.1, bt179.2.2)) else (none)) else (none))) else (if bt173.1 = 1 then ((spec_l1PickInt.f s0_0 bt173.2.1 bt173.2.2 (([(-1), 0, 999, 1000] : List Int))).bind fun bt186 => (if 0 ≤ bt170.1 then (if bt170.1 < (bt165.1.length : Int) then (some ((bt165.1.set (bt170.1 : Int).toNat (⟨(rd_T52 bt165.1 bt170.1).f0, (rd_T52 bt165.1 bt170.1).f1, (rd_T52 bt165.1 bt170.1).f2, bt186.1, (rd_T52 bt165.1 bt170.1).f4⟩ : S52)), bt186.2.1, bt186.2.2)) else (none)) else (none))) else (if bt173.1 = 2 then ((spec_l1PickInt.f s0_0 bt173.2.1 bt173.2.2 (([(-2), 100, 99] : List Int))).bind fun bt193 => (if 0 ≤ bt170.1 then (if bt170.1 < (bt165.1.length : Int) then (some ((bt165.1.set (bt170.1 : Int).toNat (⟨(rd_T52 bt165.1 bt170.1).f0, bt193.1, (rd_T52 bt165.1 bt170.1).f2, (rd_T52 bt165.1 bt170.1).f3, (rd_T52 bt165.1 bt170.1).f4⟩ : S52)), bt193.2.1, bt193.2.2)) else (none)) else (none))) else (if bt173.1 = 3 then (if 1 ≤ (bt165.1.length : Int) then (some ((bt165.1.drop (1 : Int).toNat), bt173.2.1, bt173.2.2)) else (none)) else (if bt173.1 = 4 then ((spec_l1PickInt.f s0_0 bt173.2.1 bt173.2.2 (([0, 9, 10] : List Int))).bind fun bt203 => (if 0 ≤ bt170.1 then (if bt170.1 < (bt165.1.length : Int) then (some ((bt165.1.set (bt170.1 : Int).toNat (⟨bt203.1, (rd_T52 bt165.1 bt170.1).f1, (rd_T52 bt165.1 bt170.1).f2, (rd_T52 bt165.1 bt170.1).f3, (rd_T52 bt165.1 bt170.1).f4⟩ : S52)), bt203.2.1, bt203.2.2)) else (none)) else (none))) else (some (bt165.1, bt173.2.1, bt173.2.2)))))))))) = some (r1, r2, r3) := h
 clear h
 obtain ⟨⟨ab, bx, bz⟩, A2, H⟩ := OB H
 obtain ⟨⟨aa, bA, bB⟩, A3, H⟩ := OB H
 obtain ⟨⟨ae, aG, aH⟩, A4, H⟩ := OB H
 go_enter Try.func122, Try.ntmps122
 go_upto_if 13 with (first | ((with_reducible refine G1 137 rfl ?_); refine GC (some 6) Try.func137 #[.pointer (some ⟨g, 0, none⟩)] ?_; (with_reducible refine (spec_l3Chain.calls k g s0_0 s0_1 s0_2 ab bx bz w0 _ ?side1 ?side2 A2.out).mono ?_); (case side1 => exact IZ ad); (case side2 => exact BZ1 HB ad); rintro e ec ⟨dM, rfl, dl, hi, hb, hk⟩; refine ⟨_, rfl, ?_⟩; have ac := AM_ (Kd.R_lower dl (KS HK)); replace HK := KY HK hk; replace HB := AM_ (hb); replace ad := AM_ (hi); (try clear hb); (try clear dl); obtain ⟨aI, af, ce⟩ := Kd.R_slice ac.out; subst ce) | ((with_reducible refine G1 54 rfl ?_); refine GC (some 10) Try.func54 #[.pointer (some ⟨g, 0, none⟩), .int .i64 (ab.length : Int)] ?_; (with_reducible refine (spec_l1Below.calls g s0_0 bx bz (ab.length : Int) aa bA bB w0 _ ?side1 ?side2 A3.out).mono ?_); (case side1 => exact IZ ad); (case side2 => exact BZ1 HB ad); rintro e ed ⟨rfl, hi, hb, hk⟩; refine ⟨_, rfl, ?_⟩; replace ac := RK1 ac ad hk; replace HK := KY HK hk; replace HB := AM_ (hb); replace ad := AM_ (hi); (try clear hb)) | ((with_reducible refine G1 54 rfl ?_); refine GC (some 12) Try.func54 #[.pointer (some ⟨g, 0, none⟩), .int .i64 16] ?_; (with_reducible refine (spec_l1Below.calls g s0_0 bA bB 16 ae aG aH w0 _ ?side1 ?side2 A4.out).mono ?_); (case side1 => exact IZ ad); (case side2 => exact BZ1 HB ad); rintro e dN ⟨rfl, hi, hb, hk⟩; refine ⟨_, rfl, ?_⟩; replace ac := RK1 ac ad hk; replace HK := KY HK hk; replace HB := AM_ (hb); replace ad := AM_ (hi); (try clear hb)))
 by_cases c5 : ae = 0
 ·rw [if_pos c5] at H
  have cf : (ae == 0) = true := beq_iff_eq.mpr c5
  have c5b1 : (ae != 0) = false := bne_eq_false_iff_eq.mpr c5
  clear c5
  obtain ⟨bC, aJ⟩ : ∃ y_ : List Int, y_ = (([0, 1, 3, 1000, 1001] : List Int)) := ⟨_, rfl⟩
  rw [← aJ] at H
  have a5 := AM_ aJ
  clear aJ
  obtain ⟨⟨aw, cg, ch⟩, A6, H⟩ := OB H
  replace H := HI H
  obtain ⟨c7, H⟩ := H
  have dO := DE c7
  clear c7
  replace H := HI H
  obtain ⟨c8, H⟩ := H
  have dP := DE c8
  clear c8
  obtain ⟨ci, aK⟩ : ∃ y_ : List (S52), y_ = (ab.set (aa : Int).toNat (⟨(rd_T52 ab aa).f0, (rd_T52 ab aa).f1, (rd_T52 ab aa).f2, (rd_T52 ab aa).f3, aw⟩ : S52)) := ⟨_, rfl⟩
  rw [← aK] at H
  have bD := AM_ aK
  clear aK
  simp only [Option.some.injEq, Prod.mk.injEq] at H
  obtain ⟨rfl, rfl, rfl⟩ := H
  go_wp2_with (first | ((with_reducible refine G2 18 rfl ?_); refine Kd.R_lit (Kd.int .i64) _ 3 ?hg (N := 18) ?hd (xs := ([0, 1, 3, 1000, 1001] : List Int)) (inner := [.int .i64 0, .int .i64 1, .int .i64 3, .int .i64 1000, .int .i64 1001]) (ok := fun _ => True) (okp := fun _ => True) ?hr ?hp (fun _ hk => hk) trivial (Below.refl _ _) (Nat.le_refl _) (by simp) ?_; (case hd => rfl); (case hg => rfl); (case hr => first | (go_simp; done) | (go_simp; rfl)); (case hp => exact (Reps.one (show Kd.M (Kd.int .i64) _ _ _ 0 [.int .i64 0] from rfl) (Reps.one (show Kd.M (Kd.int .i64) _ _ _ 1 [.int .i64 1] from rfl) (Reps.one (show Kd.M (Kd.int .i64) _ _ _ 3 [.int .i64 3] from rfl) (Reps.one (show Kd.M (Kd.int .i64) _ _ _ 1000 [.int .i64 1000] from rfl) (Reps.one (show Kd.M (Kd.int .i64) _ _ _ 1001 [.int .i64 1001] from rfl) (Reps.none _ _))))))); intro dQ ee aL hb hg_ hnew_; clear hg_ hnew_; (first | rw [← a5.out] at aL | (simp only [Int.reduceToNat] at aL; rw [← a5.out] at aL)); replace ac := RB ac hb; have aj := AM_ (Kd.R_lower aL (KS HK)); replace HK := KX HK hb; replace HB := BW1 HB ad hb; replace ad := IB ad hb; clear hb aL; obtain ⟨cj, ck, cl⟩ := Kd.R_slice aj.out; subst cl) | ((with_reducible refine G1 98 rfl ?_); refine GC (some 19) Try.func98 #[.pointer (some ⟨g, 0, none⟩), .slice cj bC.length ck] ?_; (with_reducible refine (spec_l1PickInt.calls g s0_0 aG aH _ _ bC aw cg ch w0 _ ?side1 ?side2 (CRR aj) (Kd.R_reads' aj.out).2.1 ?side5 A6.out).mono ?_); (case side1 => exact IZ ad); (case side2 => exact BZ1 HB ad); (case side5 => exact far_slice (IsS164.own_ne ad.out aj.out (by decide))); rintro e ax ⟨rfl, hi, hb, hk⟩; refine ⟨_, rfl, ?_⟩; replace ac := RK1 ac ad hk; replace aj := RK1 aj ad hk; replace HK := KY HK hk; replace HB := AM_ (hb); replace ad := AM_ (hi); (try clear hb); have p9 : 0 ≤ (aa : Int) := DT; have q9 : (aa : Int) < ((ab.length : Int) : Int) := DT; obtain ⟨av, ef, dm, dn, dR, cl9, dp⟩ := Kd.R_form ac.out (by omega); (first | cases dm | (injection dm with ea_ en_ ec_; (first | subst ea_ | (injection ea_ with ea_; subst ea_)); subst ec_; clear en_)); have dS := AM_ dn; have eg := AM_ dp; clear dn dR dp; obtain ⟨eh, cm, dq, ay, az⟩ := Kd.R_elem ac.out z52 (aa : Int) p9 q9; obtain rfl := k52_openM dq; have dr : ax.cell? ⟨av, (aa : Int).toNat * 5, none⟩ = some (.int .i64 ((rd_T52 ab aa).f0)) := ay 0 _ rfl; have dt : ax.cell? ⟨av, (aa : Int).toNat * 5 + 1, none⟩ = some (.int .i64 ((rd_T52 ab aa).f1)) := ay 1 _ rfl; have du : ax.cell? ⟨av, (aa : Int).toNat * 5 + 2, none⟩ = some (.int .i64 ((rd_T52 ab aa).f2)) := ay 2 _ rfl; have dv : ax.cell? ⟨av, (aa : Int).toNat * 5 + 3, none⟩ = some (.int .i64 ((rd_T52 ab aa).f3)) := ay 3 _ rfl; have dw : ax.cell? ⟨av, (aa : Int).toNat * 5 + 4, none⟩ = some (.int .i64 ((rd_T52 ab aa).f4)) := ay 4 _ rfl; have hf9_0 : ax.frozen? ⟨av, (aa : Int).toNat * 5, none⟩ = false := az 0; have hf9_1 : ax.frozen? ⟨av, (aa : Int).toNat * 5 + 1, none⟩ = false := az 1; have hf9_2 : ax.frozen? ⟨av, (aa : Int).toNat * 5 + 2, none⟩ = false := az 2; have hf9_3 : ax.frozen? ⟨av, (aa : Int).toNat * 5 + 3, none⟩ = false := az 3; have hf9_4 : ax.frozen? ⟨av, (aa : Int).toNat * 5 + 4, none⟩ = false := az 4; clear cm ay az; (try clear dq); replace p9 := eq_true p9; replace q9 := eq_true q9; have bE := AM_ (show Kd.R k52 52 ax w.heap.size (fun _ => True) (.slice (some ⟨av, 0, none⟩) ab.length af) ab from (RT ac.out)); obtain ⟨dT, a6, bF, aM, a7⟩ := Kd.R_elem bE.out z52 (aa : Int) (DT) (by have h_ : (aa : Int) < ((ab.length : Int) : Int) := DT; first | exact h_ | (have e_ := (Kd.R_reads' ac.out).1; omega) | simpa using h_); obtain rfl := k52_openM bF; have HP18 := Kd.R_seg bE.out (aa : Int) (DT) (by have h_ : (aa : Int) < ((ab.length : Int) : Int) := DT; first | exact h_ | (have e_ := (Kd.R_reads' ac.out).1; omega) | simpa using h_) (seg := [.int .i64 aw]) (j := 4) a6 aM (show 5 ≤ 5 from by decide) (x' := (⟨(rd_T52 ab aa).f0, (rd_T52 ab aa).f1, (rd_T52 ab aa).f2, (rd_T52 ab aa).f3, aw⟩ : S52)) (k52_mkM _ _ _ (⟨(rd_T52 ab aa).f0, (rd_T52 ab aa).f1, (rd_T52 ab aa).f2, (rd_T52 ab aa).f3, aw⟩ : S52) ) (fun _ hk => hk); have bk := aM 4 _ rfl; (try simp only [show (k52).sz = 5 from rfl, Nat.mul_one, Nat.add_zero] at bk); have hf18_4 := a7 4; (try simp only [show (k52).sz = 5 from rfl, Nat.mul_one, Nat.add_zero] at hf18_4); clear a6 aM a7; (try clear bF)) | ((with_reducible refine gate_store (t := 3) (p := 21) rfl ?_); refine store_event (t := 3) (p := 21) (v := ?vo_w19) (w1 := (ax.setCell ⟨av, (aa : Int).toNat * 5 + 4, none⟩ (.int .i64 aw))) ?hg ?ho ?hn ?hr ?_; (case ho => rfl); (case hg => rfl); (case hn => rfl); (case hr => first | (go_simp; done) | (go_simp; rfl)); intro cn hw; have hg : ax.grownBy cn (some av) := (by rw [hw]; exact HP18.2); have hp_ : Kd.R k52 52 cn w.heap.size (fun _ => True) (.slice (some ⟨av, 0, none⟩) ab.length af) ci := (by rw [hw, bD.out]; exact HP18.1); clear HP18; replace ad := AM_ (IsS164.grown (IZ ad) hg (IsS164.own_ne ad.out ac.out (by decide))); replace aj := AM_ (Kd.R_over' (v := (.slice (some ⟨av, 0, none⟩) ab.length af)) (RT aj.out) (Kd.R_typed ac.out) (by decide) hg); replace HB := AM_ ((by rw [hw]; exact below_set (HB.out) (Nat.le_trans HL.out dS.out) : Below w0.heap.size w0 cn)); replace HK := AM_ (KeepBut.trans (KZ HK) (KeepBut.of_grown hg g) (Kd.R_base2 ac.out)); replace ac := AM_ (hp_); clear hg hw hp_))
  go_ret
  exact ⟨_, ER, Kd.Q_of_R (RT ac.out), IZ ad, BZ1 HB ad, KZ HK⟩
 rw [if_neg c5] at H
 have cf : (ae == 0) = false := beq_eq_false_iff_ne.mpr c5
 have c5b1 : (ae != 0) = true := bne_iff_ne.mpr c5
 by_cases bm : ae = 1
 ·rw [if_pos bm] at H
  have bG : (ae == 1) = true := beq_iff_eq.mpr bm
  have c20b1 : (ae != 1) = false := bne_eq_false_iff_eq.mpr bm
  clear bm
  obtain ⟨bH, aN⟩ : ∃ y_ : List Int, y_ = (([(-1), 0, 999, 1000] : List Int)) := ⟨_, rfl⟩
  rw [← aN] at H
  have a8 := AM_ aN
  clear aN
  obtain ⟨⟨aA, co, cp⟩, dU, H⟩ := OB H
  replace H := HI H
  obtain ⟨dx, H⟩ := H
  have dy := DE dx
  clear dx
  replace H := HI H
  obtain ⟨dz, H⟩ := H
  have dA := DE dz
  clear dz
  obtain ⟨cq, aO⟩ : ∃ y_ : List (S52), y_ = (ab.set (aa : Int).toNat (⟨(rd_T52 ab aa).f0, (rd_T52 ab aa).f1, (rd_T52 ab aa).f2, aA, (rd_T52 ab aa).f4⟩ : S52)) := ⟨_, rfl⟩
  rw [← aO] at H
  have bI := AM_ aO
  clear aO
  simp only [Option.some.injEq, Prod.mk.injEq] at H
  obtain ⟨rfl, rfl, rfl⟩ := H
  go_wp2_with (first | ((with_reducible refine G2 27 rfl ?_); refine Kd.R_lit (Kd.int .i64) _ 3 ?hg (N := 27) ?hd (xs := ([(-1), 0, 999, 1000] : List Int)) (inner := [.int .i64 (-1), .int .i64 0, .int .i64 999, .int .i64 1000]) (ok := fun _ => True) (okp := fun _ => True) ?hr ?hp (fun _ hk => hk) trivial (Below.refl _ _) (Nat.le_refl _) (by simp) ?_; (case hd => rfl); (case hg => rfl); (case hr => first | (go_simp; done) | (go_simp; rfl)); (case hp => exact (Reps.one (show Kd.M (Kd.int .i64) _ _ _ (-1) [.int .i64 (-1)] from rfl) (Reps.one (show Kd.M (Kd.int .i64) _ _ _ 0 [.int .i64 0] from rfl) (Reps.one (show Kd.M (Kd.int .i64) _ _ _ 999 [.int .i64 999] from rfl) (Reps.one (show Kd.M (Kd.int .i64) _ _ _ 1000 [.int .i64 1000] from rfl) (Reps.none _ _)))))); intro dV ei aP hb hg_ hnew_; clear hg_ hnew_; (first | rw [← a8.out] at aP | (simp only [Int.reduceToNat] at aP; rw [← a8.out] at aP)); replace ac := RB ac hb; have ak := AM_ (Kd.R_lower aP (KS HK)); replace HK := KX HK hb; replace HB := BW1 HB ad hb; replace ad := IB ad hb; clear hb aP; obtain ⟨cr, ct, cu⟩ := Kd.R_slice ak.out; subst cu) | ((with_reducible refine G1 98 rfl ?_); refine GC (some 28) Try.func98 #[.pointer (some ⟨g, 0, none⟩), .slice cr bH.length ct] ?_; (with_reducible refine (spec_l1PickInt.calls g s0_0 aG aH _ _ bH aA co cp w0 _ ?side1 ?side2 (CRR ak) (Kd.R_reads' ak.out).2.1 ?side5 dU.out).mono ?_); (case side1 => exact IZ ad); (case side2 => exact BZ1 HB ad); (case side5 => exact far_slice (IsS164.own_ne ad.out ak.out (by decide))); rintro e aB ⟨rfl, hi, hb, hk⟩; refine ⟨_, rfl, ?_⟩; replace ac := RK1 ac ad hk; replace ak := RK1 ak ad hk; replace HK := KY HK hk; replace HB := AM_ (hb); replace ad := AM_ (hi); (try clear hb); have cv : 0 ≤ (aa : Int) := DT; have cw : (aa : Int) < ((ab.length : Int) : Int) := DT; obtain ⟨ag, dW, bJ, bK, cx, cl24, bL⟩ := Kd.R_form ac.out (by omega); (first | cases bJ | (injection bJ with ea_ en_ ec_; (first | subst ea_ | (injection ea_ with ea_; subst ea_)); subst ec_; clear en_)); have cy := AM_ bK; have dX := AM_ bL; clear bK cx bL; obtain ⟨dY, bM, bN, an, ao⟩ := Kd.R_elem ac.out z52 (aa : Int) cv cw; obtain rfl := k52_openM bN; have cz : aB.cell? ⟨ag, (aa : Int).toNat * 5, none⟩ = some (.int .i64 ((rd_T52 ab aa).f0)) := an 0 _ rfl; have cA : aB.cell? ⟨ag, (aa : Int).toNat * 5 + 1, none⟩ = some (.int .i64 ((rd_T52 ab aa).f1)) := an 1 _ rfl; have cB : aB.cell? ⟨ag, (aa : Int).toNat * 5 + 2, none⟩ = some (.int .i64 ((rd_T52 ab aa).f2)) := an 2 _ rfl; have cC : aB.cell? ⟨ag, (aa : Int).toNat * 5 + 3, none⟩ = some (.int .i64 ((rd_T52 ab aa).f3)) := an 3 _ rfl; have cD : aB.cell? ⟨ag, (aa : Int).toNat * 5 + 4, none⟩ = some (.int .i64 ((rd_T52 ab aa).f4)) := an 4 _ rfl; have hf24_0 : aB.frozen? ⟨ag, (aa : Int).toNat * 5, none⟩ = false := ao 0; have hf24_1 : aB.frozen? ⟨ag, (aa : Int).toNat * 5 + 1, none⟩ = false := ao 1; have hf24_2 : aB.frozen? ⟨ag, (aa : Int).toNat * 5 + 2, none⟩ = false := ao 2; have hf24_3 : aB.frozen? ⟨ag, (aa : Int).toNat * 5 + 3, none⟩ = false := ao 3; have hf24_4 : aB.frozen? ⟨ag, (aa : Int).toNat * 5 + 4, none⟩ = false := ao 4; clear bM an ao; (try clear bN); replace cv := eq_true cv; replace cw := eq_true cw; have bO := AM_ (show Kd.R k52 52 aB w.heap.size (fun _ => True) (.slice (some ⟨ag, 0, none⟩) ab.length af) ab from (RT ac.out)); obtain ⟨dZ, a9, bP, aQ, ba⟩ := Kd.R_elem bO.out z52 (aa : Int) (DT) (by have h_ : (aa : Int) < ((ab.length : Int) : Int) := DT; first | exact h_ | (have e_ := (Kd.R_reads' ac.out).1; omega) | simpa using h_); obtain rfl := k52_openM bP; have HP33 := Kd.R_seg bO.out (aa : Int) (DT) (by have h_ : (aa : Int) < ((ab.length : Int) : Int) := DT; first | exact h_ | (have e_ := (Kd.R_reads' ac.out).1; omega) | simpa using h_) (seg := [.int .i64 aA]) (j := 3) a9 aQ (show 4 ≤ 5 from by decide) (x' := (⟨(rd_T52 ab aa).f0, (rd_T52 ab aa).f1, (rd_T52 ab aa).f2, aA, (rd_T52 ab aa).f4⟩ : S52)) (k52_mkM _ _ _ (⟨(rd_T52 ab aa).f0, (rd_T52 ab aa).f1, (rd_T52 ab aa).f2, aA, (rd_T52 ab aa).f4⟩ : S52) ) (fun _ hk => hk); have bn := aQ 3 _ rfl; (try simp only [show (k52).sz = 5 from rfl, Nat.mul_one, Nat.add_zero] at bn); have hf33_3 := ba 3; (try simp only [show (k52).sz = 5 from rfl, Nat.mul_one, Nat.add_zero] at hf33_3); clear a9 aQ ba; (try clear bP)) | ((with_reducible refine gate_store (t := 3) (p := 30) rfl ?_); refine store_event (t := 3) (p := 30) (v := ?vo_w34) (w1 := (aB.setCell ⟨ag, (aa : Int).toNat * 5 + 3, none⟩ (.int .i64 aA))) ?hg ?ho ?hn ?hr ?_; (case ho => rfl); (case hg => rfl); (case hn => rfl); (case hr => first | (go_simp; done) | (go_simp; rfl)); intro cE hw; have hg : aB.grownBy cE (some ag) := (by rw [hw]; exact HP33.2); have hp_ : Kd.R k52 52 cE w.heap.size (fun _ => True) (.slice (some ⟨ag, 0, none⟩) ab.length af) cq := (by rw [hw, bI.out]; exact HP33.1); clear HP33; replace ad := AM_ (IsS164.grown (IZ ad) hg (IsS164.own_ne ad.out ac.out (by decide))); replace ak := AM_ (Kd.R_over' (v := (.slice (some ⟨ag, 0, none⟩) ab.length af)) (RT ak.out) (Kd.R_typed ac.out) (by decide) hg); replace HB := AM_ ((by rw [hw]; exact below_set (HB.out) (Nat.le_trans HL.out cy.out) : Below w0.heap.size w0 cE)); replace HK := AM_ (KeepBut.trans (KZ HK) (KeepBut.of_grown hg g) (Kd.R_base2 ac.out)); replace ac := AM_ (hp_); clear hg hw hp_))
  go_ret
  exact ⟨_, ER, Kd.Q_of_R (RT ac.out), IZ ad, BZ1 HB ad, KZ HK⟩
 rw [if_neg bm] at H
 have bG : (ae == 1) = false := beq_eq_false_iff_ne.mpr bm
 have c20b1 : (ae != 1) = true := bne_iff_ne.mpr bm
 by_cases bo : ae = 2
 ·rw [if_pos bo] at H
  have bQ : (ae == 2) = true := beq_iff_eq.mpr bo
  have c35b1 : (ae != 2) = false := bne_eq_false_iff_eq.mpr bo
  clear bo
  obtain ⟨bR, aR⟩ : ∃ y_ : List Int, y_ = (([(-2), 100, 99] : List Int)) := ⟨_, rfl⟩
  rw [← aR] at H
  have bb := AM_ aR
  clear aR
  obtain ⟨⟨aC, cF, cG⟩, d0, H⟩ := OB H
  replace H := HI H
  obtain ⟨dB, H⟩ := H
  have dC := DE dB
  clear dB
  replace H := HI H
  obtain ⟨dD, H⟩ := H
  have dE := DE dD
  clear dD
  obtain ⟨cH, aS⟩ : ∃ y_ : List (S52), y_ = (ab.set (aa : Int).toNat (⟨(rd_T52 ab aa).f0, aC, (rd_T52 ab aa).f2, (rd_T52 ab aa).f3, (rd_T52 ab aa).f4⟩ : S52)) := ⟨_, rfl⟩
  rw [← aS] at H
  have bS := AM_ aS
  clear aS
  simp only [Option.some.injEq, Prod.mk.injEq] at H
  obtain ⟨rfl, rfl, rfl⟩ := H
  go_wp2_with (first | ((with_reducible refine G2 36 rfl ?_); refine Kd.R_lit (Kd.int .i64) _ 3 ?hg (N := 36) ?hd (xs := ([(-2), 100, 99] : List Int)) (inner := [.int .i64 (-2), .int .i64 100, .int .i64 99]) (ok := fun _ => True) (okp := fun _ => True) ?hr ?hp (fun _ hk => hk) trivial (Below.refl _ _) (Nat.le_refl _) (by simp) ?_; (case hd => rfl); (case hg => rfl); (case hr => first | (go_simp; done) | (go_simp; rfl)); (case hp => exact (Reps.one (show Kd.M (Kd.int .i64) _ _ _ (-2) [.int .i64 (-2)] from rfl) (Reps.one (show Kd.M (Kd.int .i64) _ _ _ 100 [.int .i64 100] from rfl) (Reps.one (show Kd.M (Kd.int .i64) _ _ _ 99 [.int .i64 99] from rfl) (Reps.none _ _))))); intro d1 ej aT hb hg_ hnew_; clear hg_ hnew_; (first | rw [← bb.out] at aT | (simp only [Int.reduceToNat] at aT; rw [← bb.out] at aT)); replace ac := RB ac hb; have al := AM_ (Kd.R_lower aT (KS HK)); replace HK := KX HK hb; replace HB := BW1 HB ad hb; replace ad := IB ad hb; clear hb aT; obtain ⟨cI, cJ, cK⟩ := Kd.R_slice al.out; subst cK) | ((with_reducible refine G1 98 rfl ?_); refine GC (some 37) Try.func98 #[.pointer (some ⟨g, 0, none⟩), .slice cI bR.length cJ] ?_; (with_reducible refine (spec_l1PickInt.calls g s0_0 aG aH _ _ bR aC cF cG w0 _ ?side1 ?side2 (CRR al) (Kd.R_reads' al.out).2.1 ?side5 d0.out).mono ?_); (case side1 => exact IZ ad); (case side2 => exact BZ1 HB ad); (case side5 => exact far_slice (IsS164.own_ne ad.out al.out (by decide))); rintro e aD ⟨rfl, hi, hb, hk⟩; refine ⟨_, rfl, ?_⟩; replace ac := RK1 ac ad hk; replace al := RK1 al ad hk; replace HK := KY HK hk; replace HB := AM_ (hb); replace ad := AM_ (hi); (try clear hb); have cL : 0 ≤ (aa : Int) := DT; have cM : (aa : Int) < ((ab.length : Int) : Int) := DT; obtain ⟨ah, d2, bT, bU, cN, cl39, bV⟩ := Kd.R_form ac.out (by omega); (first | cases bT | (injection bT with ea_ en_ ec_; (first | subst ea_ | (injection ea_ with ea_; subst ea_)); subst ec_; clear en_)); have cO := AM_ bU; have d3 := AM_ bV; clear bU cN bV; obtain ⟨d4, bW, bX, ap, aq⟩ := Kd.R_elem ac.out z52 (aa : Int) cL cM; obtain rfl := k52_openM bX; have cP : aD.cell? ⟨ah, (aa : Int).toNat * 5, none⟩ = some (.int .i64 ((rd_T52 ab aa).f0)) := ap 0 _ rfl; have cQ : aD.cell? ⟨ah, (aa : Int).toNat * 5 + 1, none⟩ = some (.int .i64 ((rd_T52 ab aa).f1)) := ap 1 _ rfl; have cR : aD.cell? ⟨ah, (aa : Int).toNat * 5 + 2, none⟩ = some (.int .i64 ((rd_T52 ab aa).f2)) := ap 2 _ rfl; have cS : aD.cell? ⟨ah, (aa : Int).toNat * 5 + 3, none⟩ = some (.int .i64 ((rd_T52 ab aa).f3)) := ap 3 _ rfl; have cT : aD.cell? ⟨ah, (aa : Int).toNat * 5 + 4, none⟩ = some (.int .i64 ((rd_T52 ab aa).f4)) := ap 4 _ rfl; have hf39_0 : aD.frozen? ⟨ah, (aa : Int).toNat * 5, none⟩ = false := aq 0; have hf39_1 : aD.frozen? ⟨ah, (aa : Int).toNat * 5 + 1, none⟩ = false := aq 1; have hf39_2 : aD.frozen? ⟨ah, (aa : Int).toNat * 5 + 2, none⟩ = false := aq 2; have hf39_3 : aD.frozen? ⟨ah, (aa : Int).toNat * 5 + 3, none⟩ = false := aq 3; have hf39_4 : aD.frozen? ⟨ah, (aa : Int).toNat * 5 + 4, none⟩ = false := aq 4; clear bW ap aq; (try clear bX); replace cL := eq_true cL; replace cM := eq_true cM; have bY := AM_ (show Kd.R k52 52 aD w.heap.size (fun _ => True) (.slice (some ⟨ah, 0, none⟩) ab.length af) ab from (RT ac.out)); obtain ⟨d5, bd, bZ, aU, be⟩ := Kd.R_elem bY.out z52 (aa : Int) (DT) (by have h_ : (aa : Int) < ((ab.length : Int) : Int) := DT; first | exact h_ | (have e_ := (Kd.R_reads' ac.out).1; omega) | simpa using h_); obtain rfl := k52_openM bZ; have HP48 := Kd.R_seg bY.out (aa : Int) (DT) (by have h_ : (aa : Int) < ((ab.length : Int) : Int) := DT; first | exact h_ | (have e_ := (Kd.R_reads' ac.out).1; omega) | simpa using h_) (seg := [.int .i64 aC]) (j := 1) bd aU (show 2 ≤ 5 from by decide) (x' := (⟨(rd_T52 ab aa).f0, aC, (rd_T52 ab aa).f2, (rd_T52 ab aa).f3, (rd_T52 ab aa).f4⟩ : S52)) (k52_mkM _ _ _ (⟨(rd_T52 ab aa).f0, aC, (rd_T52 ab aa).f2, (rd_T52 ab aa).f3, (rd_T52 ab aa).f4⟩ : S52) ) (fun _ hk => hk); have bp := aU 1 _ rfl; (try simp only [show (k52).sz = 5 from rfl, Nat.mul_one, Nat.add_zero] at bp); have hf48_1 := be 1; (try simp only [show (k52).sz = 5 from rfl, Nat.mul_one, Nat.add_zero] at hf48_1); clear bd aU be; (try clear bZ)) | ((with_reducible refine gate_store (t := 3) (p := 39) rfl ?_); refine store_event (t := 3) (p := 39) (v := ?vo_w49) (w1 := (aD.setCell ⟨ah, (aa : Int).toNat * 5 + 1, none⟩ (.int .i64 aC))) ?hg ?ho ?hn ?hr ?_; (case ho => rfl); (case hg => rfl); (case hn => rfl); (case hr => first | (go_simp; done) | (go_simp; rfl)); intro cU hw; have hg : aD.grownBy cU (some ah) := (by rw [hw]; exact HP48.2); have hp_ : Kd.R k52 52 cU w.heap.size (fun _ => True) (.slice (some ⟨ah, 0, none⟩) ab.length af) cH := (by rw [hw, bS.out]; exact HP48.1); clear HP48; replace ad := AM_ (IsS164.grown (IZ ad) hg (IsS164.own_ne ad.out ac.out (by decide))); replace al := AM_ (Kd.R_over' (v := (.slice (some ⟨ah, 0, none⟩) ab.length af)) (RT al.out) (Kd.R_typed ac.out) (by decide) hg); replace HB := AM_ ((by rw [hw]; exact below_set (HB.out) (Nat.le_trans HL.out cO.out) : Below w0.heap.size w0 cU)); replace HK := AM_ (KeepBut.trans (KZ HK) (KeepBut.of_grown hg g) (Kd.R_base2 ac.out)); replace ac := AM_ (hp_); clear hg hw hp_))
  go_ret
  exact ⟨_, ER, Kd.Q_of_R (RT ac.out), IZ ad, BZ1 HB ad, KZ HK⟩
 rw [if_neg bo] at H
 have bQ : (ae == 2) = false := beq_eq_false_iff_ne.mpr bo
 have c35b1 : (ae != 2) = true := bne_iff_ne.mpr bo
 by_cases bq : ae = 3
 ·rw [if_pos bq] at H
  have b0 : (ae == 3) = true := beq_iff_eq.mpr bq
  have c50b1 : (ae != 3) = false := bne_eq_false_iff_eq.mpr bq
  clear bq
  replace H := HI H
  obtain ⟨cV, H⟩ := H
  have dF := ET cV
  have c51b1 : decide (1 ≤ (ab.length : Int)) = true := DE cV
  clear cV
  obtain ⟨a4, aV⟩ : ∃ y_ : List (S52), y_ = (ab.drop (1 : Int).toNat) := ⟨_, rfl⟩
  rw [← aV] at H
  have bf := AM_ aV
  clear aV
  simp only [Option.some.injEq, Prod.mk.injEq] at H
  obtain ⟨rfl, rfl, rfl⟩ := H
  have cW : (1 : Int) ≤ ((ab.length : Int) : Int) := DT
  obtain ⟨i056, bg, _, hsz56, _⟩ := info_parts info52
  have hcut56 := cut_from (P := Try.prog) 62 52 .i64 Try.underlying62 bg 5 hsz56 aI ab.length af 1 (by omega) cW
  have aW := Kd.Q_drop (k := (1 : Int).toNat) (Kd.Q_of_R ac.out) (by omega)
  obtain ⟨dG, hA56⟩ : ∃ A1, A1 = (if af = (1 : Int).toNat then aI else (aI : Option Addr).map (·.add ((1 : Int).toNat * 5))) := ⟨_, rfl⟩
  obtain ⟨dH, br⟩ : ∃ c1, c1 = af - (1 : Int).toNat := ⟨_, rfl⟩
  have bu : a4.length = ab.length - (1 : Int).toNat := (by rw [bf.out, List.length_drop])
  rw [← bf.out] at aW
  rw [← bu, ← hA56, ← br] at hcut56
  replace aW : Kd.Q k52 52 dN w.heap.size (fun _ => True) (.slice dG a4.length dH) a4 := (by rw [hA56, br, bu]; exact aW)
  have HE56 : Aside0 ((Value.slice dG a4.length dH).ownBlock = (.slice aI ab.length af : Value).ownBlock) := ⟨by rw [hA56]; split <;> (cases (aI : Option Addr) <;> rfl)⟩
  clear bu bg hsz56 ac hA56 br
  have b1 := AM_ aW
  clear aW
  replace cW := ET cW
  try go_wp2
  go_ret
  exact ⟨_, ER, by (with_reducible repeat (first | apply Kd.Q_alloc | apply Kd.Q_drewN | apply Kd.Q_drew)); exact b1.out, IZ ad, BZ1 HB ad, KZ HK⟩
 rw [if_neg bq] at H
 have b0 : (ae == 3) = false := beq_eq_false_iff_ne.mpr bq
 have c50b1 : (ae != 3) = true := bne_iff_ne.mpr bq
 by_cases bv : ae = 4
 rotate_left
 ·rw [if_neg bv] at H
  have b2 : (ae == 4) = false := beq_eq_false_iff_ne.mpr bv
  have c57b1 : (ae != 4) = true := bne_iff_ne.mpr bv
  simp only [Option.some.injEq, Prod.mk.injEq] at H
  obtain ⟨rfl, rfl, rfl⟩ := H
  try go_wp2
  go_ret
  exact ⟨_, ER, Kd.Q_of_R (RT ac.out), IZ ad, BZ1 HB ad, KZ HK⟩
 rw [if_pos bv] at H
 have b2 : (ae == 4) = true := beq_iff_eq.mpr bv
 have c57b1 : (ae != 4) = false := bne_eq_false_iff_eq.mpr bv
 clear bv
 obtain ⟨b3, aX⟩ : ∃ y_ : List Int, y_ = (([0, 9, 10] : List Int)) := ⟨_, rfl⟩
 rw [← aX] at H
 have bh := AM_ aX
 clear aX
 obtain ⟨⟨aE, cX, cY⟩, d6, H⟩ := OB H
 replace H := HI H
 obtain ⟨dI, H⟩ := H
 have dJ := DE dI
 clear dI
 replace H := HI H
 obtain ⟨dK, H⟩ := H
 have dL := DE dK
 clear dK
 obtain ⟨cZ, aY⟩ : ∃ y_ : List (S52), y_ = (ab.set (aa : Int).toNat (⟨aE, (rd_T52 ab aa).f1, (rd_T52 ab aa).f2, (rd_T52 ab aa).f3, (rd_T52 ab aa).f4⟩ : S52)) := ⟨_, rfl⟩
 rw [← aY] at H
 have b4 := AM_ aY
 clear aY
 simp only [Option.some.injEq, Prod.mk.injEq] at H
 obtain ⟨rfl, rfl, rfl⟩ := H
 go_wp2_with (first | ((with_reducible refine G2 49 rfl ?_); refine Kd.R_lit (Kd.int .i64) _ 3 ?hg (N := 49) ?hd (xs := ([0, 9, 10] : List Int)) (inner := [.int .i64 0, .int .i64 9, .int .i64 10]) (ok := fun _ => True) (okp := fun _ => True) ?hr ?hp (fun _ hk => hk) trivial (Below.refl _ _) (Nat.le_refl _) (by simp) ?_; (case hd => rfl); (case hg => rfl); (case hr => first | (go_simp; done) | (go_simp; rfl)); (case hp => exact (Reps.one (show Kd.M (Kd.int .i64) _ _ _ 0 [.int .i64 0] from rfl) (Reps.one (show Kd.M (Kd.int .i64) _ _ _ 9 [.int .i64 9] from rfl) (Reps.one (show Kd.M (Kd.int .i64) _ _ _ 10 [.int .i64 10] from rfl) (Reps.none _ _))))); intro d7 ek aZ hb hg_ hnew_; clear hg_ hnew_; (first | rw [← bh.out] at aZ | (simp only [Int.reduceToNat] at aZ; rw [← bh.out] at aZ)); replace ac := RB ac hb; have am := AM_ (Kd.R_lower aZ (KS HK)); replace HK := KX HK hb; replace HB := BW1 HB ad hb; replace ad := IB ad hb; clear hb aZ; obtain ⟨c0, c2, c6⟩ := Kd.R_slice am.out; subst c6) | ((with_reducible refine G1 98 rfl ?_); refine GC (some 50) Try.func98 #[.pointer (some ⟨g, 0, none⟩), .slice c0 b3.length c2] ?_; (with_reducible refine (spec_l1PickInt.calls g s0_0 aG aH _ _ b3 aE cX cY w0 _ ?side1 ?side2 (CRR am) (Kd.R_reads' am.out).2.1 ?side5 d6.out).mono ?_); (case side1 => exact IZ ad); (case side2 => exact BZ1 HB ad); (case side5 => exact far_slice (IsS164.own_ne ad.out am.out (by decide))); rintro e aF ⟨rfl, hi, hb, hk⟩; refine ⟨_, rfl, ?_⟩; replace ac := RK1 ac ad hk; replace am := RK1 am ad hk; replace HK := KY HK hk; replace HB := AM_ (hb); replace ad := AM_ (hi); (try clear hb); have da : 0 ≤ (aa : Int) := DT; have db : (aa : Int) < ((ab.length : Int) : Int) := DT; obtain ⟨ai, d8, b6, b7, dc, cl61, b8⟩ := Kd.R_form ac.out (by omega); (first | cases b6 | (injection b6 with ea_ en_ ec_; (first | subst ea_ | (injection ea_ with ea_; subst ea_)); subst ec_; clear en_)); have dd := AM_ b7; have d9 := AM_ b8; clear b7 dc b8; obtain ⟨ea, ca, cb, ar, au⟩ := Kd.R_elem ac.out z52 (aa : Int) da db; obtain rfl := k52_openM cb; have de : aF.cell? ⟨ai, (aa : Int).toNat * 5, none⟩ = some (.int .i64 ((rd_T52 ab aa).f0)) := ar 0 _ rfl; have df : aF.cell? ⟨ai, (aa : Int).toNat * 5 + 1, none⟩ = some (.int .i64 ((rd_T52 ab aa).f1)) := ar 1 _ rfl; have dg : aF.cell? ⟨ai, (aa : Int).toNat * 5 + 2, none⟩ = some (.int .i64 ((rd_T52 ab aa).f2)) := ar 2 _ rfl; have dh : aF.cell? ⟨ai, (aa : Int).toNat * 5 + 3, none⟩ = some (.int .i64 ((rd_T52 ab aa).f3)) := ar 3 _ rfl; have di : aF.cell? ⟨ai, (aa : Int).toNat * 5 + 4, none⟩ = some (.int .i64 ((rd_T52 ab aa).f4)) := ar 4 _ rfl; have hf61_0 : aF.frozen? ⟨ai, (aa : Int).toNat * 5, none⟩ = false := au 0; have hf61_1 : aF.frozen? ⟨ai, (aa : Int).toNat * 5 + 1, none⟩ = false := au 1; have hf61_2 : aF.frozen? ⟨ai, (aa : Int).toNat * 5 + 2, none⟩ = false := au 2; have hf61_3 : aF.frozen? ⟨ai, (aa : Int).toNat * 5 + 3, none⟩ = false := au 3; have hf61_4 : aF.frozen? ⟨ai, (aa : Int).toNat * 5 + 4, none⟩ = false := au 4; clear ca ar au; (try clear cb); replace da := eq_true da; replace db := eq_true db; have cc := AM_ (show Kd.R k52 52 aF w.heap.size (fun _ => True) (.slice (some ⟨ai, 0, none⟩) ab.length af) ab from (RT ac.out)); obtain ⟨eb, bi, cd, a3, bj⟩ := Kd.R_elem cc.out z52 (aa : Int) (DT) (by have h_ : (aa : Int) < ((ab.length : Int) : Int) := DT; first | exact h_ | (have e_ := (Kd.R_reads' ac.out).1; omega) | simpa using h_); obtain rfl := k52_openM cd; have HP70 := Kd.R_seg cc.out (aa : Int) (DT) (by have h_ : (aa : Int) < ((ab.length : Int) : Int) := DT; first | exact h_ | (have e_ := (Kd.R_reads' ac.out).1; omega) | simpa using h_) (seg := [.int .i64 aE]) (j := 0) bi a3 (show 1 ≤ 5 from by decide) (x' := (⟨aE, (rd_T52 ab aa).f1, (rd_T52 ab aa).f2, (rd_T52 ab aa).f3, (rd_T52 ab aa).f4⟩ : S52)) (k52_mkM _ _ _ (⟨aE, (rd_T52 ab aa).f1, (rd_T52 ab aa).f2, (rd_T52 ab aa).f3, (rd_T52 ab aa).f4⟩ : S52) ) (fun _ hk => hk); have bw := a3 0 _ rfl; (try simp only [show (k52).sz = 5 from rfl, Nat.mul_one, Nat.add_zero] at bw); have hf70_0 := bj 0; (try simp only [show (k52).sz = 5 from rfl, Nat.mul_one, Nat.add_zero] at hf70_0); clear bi a3 bj; (try clear cd)) | ((with_reducible refine gate_store (t := 3) (p := 52) rfl ?_); refine store_event (t := 3) (p := 52) (v := ?vo_w71) (w1 := (aF.setCell ⟨ai, (aa : Int).toNat * 5, none⟩ (.int .i64 aE))) ?hg ?ho ?hn ?hr ?_; (case ho => rfl); (case hg => rfl); (case hn => rfl); (case hr => first | (go_simp; done) | (go_simp; rfl)); intro dj hw; have hg : aF.grownBy dj (some ai) := (by rw [hw]; exact HP70.2); have hp_ : Kd.R k52 52 dj w.heap.size (fun _ => True) (.slice (some ⟨ai, 0, none⟩) ab.length af) cZ := (by rw [hw, b4.out]; exact HP70.1); clear HP70; replace ad := AM_ (IsS164.grown (IZ ad) hg (IsS164.own_ne ad.out ac.out (by decide))); replace am := AM_ (Kd.R_over' (v := (.slice (some ⟨ai, 0, none⟩) ab.length af)) (RT am.out) (Kd.R_typed ac.out) (by decide) hg); replace HB := AM_ ((by rw [hw]; exact below_set (HB.out) (Nat.le_trans HL.out dd.out) : Below w0.heap.size w0 dj)); replace HK := AM_ (KeepBut.trans (KZ HK) (KeepBut.of_grown hg g) (Kd.R_base2 ac.out)); replace ac := AM_ (hp_); clear hg hw hp_))
 go_ret
 exact ⟨_, ER, Kd.Q_of_R (RT ac.out), IZ ad, BZ1 HB ad, KZ HK⟩

/-! ### spec_l4Any: function 88 -/
def spec_l4Any.f (k : Nat) (s0_0 : List Int) (s0_1 : Int) (s0_2 : Int) : Option ((List (List (S52))) × Int × Int) := (spec_l4Store.f k s0_0 s0_1 s0_2).bind fun bt208 => ((spec_l1Below.f s0_0 bt208.2.1 bt208.2.2 12).bind fun bt214 => (if bt214.1 = 0 then ((spec_l1Below.f s0_0 bt214.2.1 bt214.2.2 6).bind fun bt217 => ((spec_l3Any.f k s0_0 bt217.2.1 bt217.2.2).bind fun bt220 => (if 0 ≤ bt217.1 then (if bt217.1 < (bt208.1.length : Int) then (some ((bt208.1.set (bt217.1 : Int).toNat bt220.1), bt220.2.1, bt220.2.2)) else (none)) else (none)))) else (if bt214.1 = 1 then (if 1 ≤ (bt208.1.length : Int) then (some ((bt208.1.drop 1), bt214.2.1, bt214.2.2)) else (none)) else (some (bt208.1, bt214.2.1, bt214.2.2)))))
theorem spec_l4Any.mono : ∀ a0 a1 a2 k, LeO (spec_l4Any.f k a0 a1 a2) (spec_l4Any.f (k + 1) a0 a1 a2) := by
 intro a0 a1 a2 k
 unfold spec_l4Any.f
 repeat' (with_reducible first | exact spec_l3Any.mono .. | exact spec_l4Store.mono .. | exact LeO.refl _ | exact LeO.none _ | refine LeO.ite ?_ ?_ | refine LeO.bind ?_ (fun _ => ?_))
def spec_l4Any.T4 : Bool × List (List Nat × List Nat) := (true, [([], []), ([0], [0]), ([], []), ([2], [2]), ([], []), ([4, 3], [4]), ([1, 3, 0, 1, 2, 3, 4, 5], [1, 3]), ([6, 5, 5, 0, 1, 2, 3, 4, 5], [5, 6])])
def spec_l4Any.B4 : List Nat := [0, 1, 0, 4, 0, 28, 63, 127]
theorem spec_l4Any.tab4 : rtab .any (opsOf Try.f88 4) = spec_l4Any.T4 := by kernel_rfl
theorem spec_l4Any.bits4 : waitsOk spec_l4Any.T4.2 spec_l4Any.B4 = true := by kernel_rfl
theorem spec_l4Any.calls (k : Nat) (g : Nat) (s0_0 : List Int) (s0_1 : Int) (s0_2 : Int) (r1 : List (List (S52))) (r2 : Int) (r3 : Int) (w0 w : World) (hI : IsS164 w0 w g s0_0 s0_1 s0_2) (hB : Below w0.heap.size w0 w) (h : spec_l4Any.f k s0_0 s0_1 s0_2 = some (r1, r2, r3)) :
  Calls Try.prog 88 #[.pointer (some ⟨g, 0, none⟩)] w fun e w' => ∃ bu : Value, e = .returned (.agg #[bu]) ∧ Kd.V (Kd.slice 52 k52) 62 w' w.heap.size (fun k_ => (w.heap.size ≤ k_)) bu r1 ∧ IsS164 w0 w' g s0_0 r2 r3 ∧ Below w0.heap.size w0 w' ∧ KeepBut w w' g none := by
 have bU := Try.underlying34
 have ah := AM_ hI
 have HK := AM_ (KeepBut.refl w g none)
 have HL := AM_ hB.size
 clear hI
 have HW0 := AM_ hB.size
 have HB := AM_ hB
 clear hB
 have H : ((spec_l4Store.f k s0_0 s0_1 s0_2).bind fun bt208 => ((spec_l1Below.f s0_0 bt208.2.1 bt208.2.2 12).bind fun bt214 => (if bt214.1 = 0 then ((spec_l1Below.f s0_0 bt214.2.1 bt214.2.2 6).bind fun bt217 => ((spec_l3Any.f k s0_0 bt217.2.1 bt217.2.2).bind fun bt220 => (if 0 ≤ bt217.1 then (if bt217.1 < (bt208.1.length : Int) then (some ((bt208.1.set (bt217.1 : Int).toNat bt220.1), bt220.2.1, bt220.2.2)) else (none)) else (none)))) else (if bt214.1 = 1 then (if 1 ≤ (bt208.1.length : Int) then (some ((bt208.1.drop 1), bt214.2.1, bt214.2.2)) else (none)) else (some (bt208.1, bt214.2.1, bt214.2.2)))))) = some (r1, r2, r3) := h
 clear h
 obtain ⟨⟨ae, aN, aO⟩, A2, H⟩ := OB H
 obtain ⟨⟨ak, aP, aQ⟩, A3, H⟩ := OB H
 go_enter Try.func88, Try.ntmps88
 go_upto_if 8 with (first | ((with_reducible refine G2 2 rfl ?_); refine BX 2 #[.slice none 0 0] 34 ?_; intro ad hg b6 hbox hb; replace HB := BW1 HB ah hb; have ab := AM_ (hbox); have bv := GK HK hg; have GE207 := GE1 HW0 HK hg; replace HK := KX HK hb; have am := NI ah hg; have ag := NJ ah hg; replace ah := IB ah hb; clear hb hbox hg) | ((with_reducible refine G1 121 rfl ?_); refine GC (some 5) Try.func121 #[.pointer (some ⟨g, 0, none⟩)] ?_; (with_reducible refine (spec_l4Store.calls k g s0_0 s0_1 s0_2 ae aN aO w0 _ ?side1 ?side2 A2.out).mono ?_); (case side1 => exact IZ ah); (case side2 => exact BZ1 HB ah); rintro e b7 ⟨bV, rfl, aL, hi, hb, hk⟩; refine ⟨_, rfl, ?_⟩; have aa := AM_ (Kd.N_lower (Kd.N_mono (ok' := fun k_ => (w.heap.size ≤ k_) ∧ k_ ≠ ad ∧ k_ ≠ g) (Kd.S_N (Kd.S_bound aL)) (fun k_ hk_ => ⟨(Nat.le_trans (KS HK) hk_.2.1), (Kd.freshB (BG1 ab) k_ hk_.2.1), (IsS164.fresh (IZ ah) k_ hk_.2.1)⟩)) (KS HK)); replace ab := KB ab hk ag; replace HK := KY HK hk; replace HB := AM_ (hb); replace ah := AM_ (hi); (try clear hb); (try clear aL)) | ((with_reducible refine G2 3 rfl ?_); refine BX 3 #[.slice none 0 0] 34 ?_; intro af hg b8 hbox hb; replace aa := AM_ (Kd.N_below (Kd.N_elderB (by (with_reducible repeat (first | apply Kd.N_alloc | apply Kd.N_drewN | apply Kd.N_drew)); exact aa.out) af (Nat.le_of_eq hg.symm)) hb); replace HB := BW1 HB ah hb; have ac := AM_ (hbox); have bw := GK HK hg; have GE213 := GE1 HW0 HK hg; replace HK := KX HK hb; have aq := NP ab hg; have ar := NQ ab hg; replace ab := BV ab hb; have az := NI ah hg; have aj := NJ ah hg; replace ah := IB ah hb; clear hb hbox hg; obtain ⟨an, ai, bj⟩ := Kd.N_slice aa.out; subst bj; have bx := ar.out; have bz := aq.out; have bA := aj.out; have bB := az.out; obtain ⟨a6, a7⟩ := bk1 ac.out) | ((with_reducible refine G1 54 rfl ?_); refine GC (some 7) Try.func54 #[.pointer (some ⟨g, 0, none⟩), .int .i64 12] ?_; (with_reducible refine (spec_l1Below.calls g s0_0 aN aO 12 ak aP aQ w0 _ ?side1 ?side2 A3.out).mono ?_); (case side1 => exact IZ ah); (case side2 => exact BZ1 HB ah); rintro e bW ⟨rfl, hi, hb, hk⟩; refine ⟨_, rfl, ?_⟩; replace ab := KB ab hk ag; replace aa := AM_ (Kd.N_mono (Kd.N_keep (Kd.N_mono (ok := fun k_ => ((((w.heap.size ≤ k_)) ∧ (k_ ≠ ad ∧ k_ ≠ g)) ∧ k_ ≠ af)) (by (with_reducible repeat (first | apply Kd.N_alloc | apply Kd.N_drewN | apply Kd.N_drew)); exact (Kd.N_mono (Kd.N_far (p := ⟨af, 0, none⟩) (Kd.N_mono aa.out (fun k_ hk => (⟨hk, hk.2⟩ : _ ∧ k_ ≠ af))) (fun _ hk => hk.2) (.slice an ae.length ai)) (fun _ h_ => h_.1))) (fun k_ hk_ => (⟨hk_, hk_.1.2.2⟩ : _ ∧ k_ ≠ g))) hk (fun _ h => h.2)) (fun _ h => h.1)); replace ac := AM_ (KeepBut.blk hk (g' := af) (o := .cells #[.slice an ae.length ai] 34 (0, 0)) (by (with_reducible repeat (first | refine blk_drewN ?_ _ | refine blk_drew ?_ | refine blk_alloc ?_ _)); refine blk_put (cs := #[.slice none 0 0]) ?_ 0 _ rfl; (with_reducible repeat (first | refine blk_drewN ?_ _ | refine blk_drew ?_ | refine blk_alloc ?_ _)); exact ac.out) aj.out (by simp)); replace HK := KY HK hk; replace HB := AM_ (hb); replace ah := AM_ (hi); (try clear hb)))
 by_cases c4 : ak = 0
 rotate_left
 ·rw [if_neg c4] at H
  have bk : (ak == 0) = false := beq_eq_false_iff_ne.mpr c4
  have c4b1 : (ak != 0) = true := bne_iff_ne.mpr c4
  obtain ⟨a8, a9⟩ := bk1 ac.out
  by_cases aJ : ak = 1
  rotate_left
  ·rw [if_neg aJ] at H
   have aR : (ak == 1) = false := beq_eq_false_iff_ne.mpr aJ
   have c26b1 : (ak != 1) = true := bne_iff_ne.mpr aJ
   simp only [Option.some.injEq, Prod.mk.injEq] at H
   obtain ⟨rfl, rfl, rfl⟩ := H
   have bC := ag.out
   have bD := am.out
   obtain ⟨ba, bb⟩ := bk1 ab.out
   try go_wp2
   refine bodyPost_ret (results_cell_row rfl _ _ ad 34 #[.slice an ae.length ai] (0, 0) _ rfl (by (with_reducible repeat (first | refine blk_drewN ?_ _ | refine blk_drew ?_ | refine blk_alloc ?_ _)); refine blk_put (cs := #[.slice none 0 0]) ?_ 0 _ rfl; (with_reducible repeat (first | refine blk_drewN ?_ _ | refine blk_drew ?_ | refine blk_alloc ?_ _)); exact ab.out) Try.underlying34 rfl (by kernel_rfl)) rfl ?_
   exact ⟨_, ER, Kd.N_V (by (with_reducible repeat (first | apply Kd.N_alloc | apply Kd.N_drewN | apply Kd.N_drew)); exact Kd.N_mono (Kd.N_far (p := ⟨ad, 0, none⟩) (Kd.N_mono aa.out (fun k_ hk => (⟨hk, hk.1.2.1⟩ : _ ∧ k_ ≠ ad))) (fun _ hk => hk.2) (.slice an ae.length ai)) (fun _ hk => hk.1.1.1)), IZ ah, BZ1 HB ah, KZ HK⟩
  rw [if_pos aJ] at H
  have aR : (ak == 1) = true := beq_iff_eq.mpr aJ
  have c26b1 : (ak != 1) = false := bne_eq_false_iff_eq.mpr aJ
  clear aJ
  replace H := HI H
  obtain ⟨bm, H⟩ := H
  have bE := ET bm
  have c27b1 : decide (1 ≤ (ae.length : Int)) = true := DE bm
  clear bm
  obtain ⟨ao, av⟩ : ∃ y_ : List (List (S52)), y_ = (ae.drop 1) := ⟨_, rfl⟩
  rw [← av] at H
  have aE := AM_ av
  clear av
  simp only [Option.some.injEq, Prod.mk.injEq] at H
  obtain ⟨rfl, rfl, rfl⟩ := H
  have bn : (1 : Int) ≤ ((ae.length : Int) : Int) := DT
  obtain ⟨i037, aF, _, hsz37, _⟩ := info_parts info62
  have hroom37 : ae.length ≤ ai := (Kd.N_reads' aa.out).2.1
  have hC37 : Kd.F (Kd.slice 52 k52) _ _ an ae.length ae := (Kd.V_at (base := w.heap.size) (Kd.N_V aa.out)).2.2
  have hcut37 := cut_from (P := Try.prog) 32 62 .i64 Try.underlying32 aF 1 hsz37 an ae.length ai 1 (by omega) bn
  have aw := Kd.F_cut (m := (1 : Int).toNat) (c := ai) hC37 (by omega) hroom37
  obtain ⟨bo, hA37⟩ : ∃ A1, A1 = (if ai = (1 : Int).toNat then an else (an : Option Addr).map (·.add ((1 : Int).toNat * 1))) := ⟨_, rfl⟩
  obtain ⟨bp, aA⟩ : ∃ c1, c1 = ai - (1 : Int).toNat := ⟨_, rfl⟩
  have ax : ao.length = ae.length - (1 : Int).toNat := (by rw [aE.out, List.length_drop] <;> omega)
  rw [show (ae).drop (1 : Int).toNat = ao from aE.out.symm] at aw
  replace aw : Kd.F (Kd.slice 52 k52) _ _ bo ao.length ao := (by rw [hA37]; exact aw)
  rw [← ax, ← hA37, ← aA] at hcut37
  have aS := AM_ (show Kd.V (Kd.slice 52 k52) 62 _ w.heap.size _ (.slice bo ao.length bp) ao from Kd.V_mk (by rw [ax, aA]; exact Nat.sub_le_sub_right hroom37 _) aw)
  have bF := AM_ (show ao.length ≤ bp from by rw [ax, aA]; exact Nat.sub_le_sub_right hroom37 _)
  clear aw hC37 hroom37 aF hsz37 aA
  have KY37 := AM_ ax
  have KA37 := AM_ hA37
  clear ax hA37
  replace bn := ET bn
  have bG := ag.out
  have bH := am.out
  obtain ⟨bd, be⟩ := bk1 ab.out
  try go_wp2
  refine bodyPost_ret (results_cell_row rfl _ _ ad 34 #[.slice bo ao.length bp] (0, 0) _ rfl (by (with_reducible repeat (first | refine blk_drewN ?_ _ | refine blk_drew ?_ | refine blk_alloc ?_ _)); refine blk_put (cs := #[.slice none 0 0]) ?_ 0 _ rfl; exact BG1 ab) Try.underlying34 rfl (by kernel_rfl)) rfl ?_
  exact ⟨_, ER, by (with_reducible repeat (first | apply Kd.V_alloc | apply Kd.V_drewN | apply Kd.V_drew)); exact Kd.V_mono (VF1 (VF1 (Kd.V_mono (Kd.V_mono aS.out (fun k_ hk => (⟨hk, hk.2⟩ : _ ∧ k_ ≠ af))) (fun k_ hk => (⟨hk, hk.1.1.2.1⟩ : _ ∧ k_ ≠ ad))) (fun _ hk => hk.1.2)) (fun _ hk => hk.2)) (fun _ hk => hk.1.1.1.1), IZ ah, BZ1 HB ah, KZ HK⟩
 rw [if_pos c4] at H
 have bk : (ak == 0) = true := beq_iff_eq.mpr c4
 have c4b1 : (ak != 0) = false := bne_eq_false_iff_eq.mpr c4
 clear c4
 obtain ⟨⟨al, aT, aU⟩, A5, H⟩ := OB H
 obtain ⟨⟨au, aV, aW⟩, A6, H⟩ := OB H
 replace H := HI H
 obtain ⟨c7, H⟩ := H
 have bX := DE c7
 clear c7
 replace H := HI H
 obtain ⟨c8, H⟩ := H
 have bY := DE c8
 clear c8
 obtain ⟨bq, ay⟩ : ∃ y_ : List (List (S52)), y_ = (ae.set (al : Int).toNat au) := ⟨_, rfl⟩
 rw [← ay] at H
 have aX := AM_ ay
 clear ay
 simp only [Option.some.injEq, Prod.mk.injEq] at H
 obtain ⟨rfl, rfl, rfl⟩ := H
 try go_wp2
 replace aa := AM_ (Kd.N_drew aa.out)
 replace ab := BD1 ab
 replace ac := BD1 ac
 replace ah := AM_ (IsS164.drew ah.out)
 replace HK := AM_ (keep_drew HK.out)
 replace HB := BD2 HB
 refine start_ (n := 8) (S := fun w' => w'.cell? ⟨af, 0, none⟩ = some (.slice an ae.length ai)) (ds := [7]) (lo 0 8) (by kernel_rfl) rfl rfl ((blk_cell ac.out 0).trans rfl) (fun ap => ?_); refine with_tabW spec_l4Any.tab4 spec_l4Any.bits4 (fun aB bZ => ?_)
 generalize bW.drew = ca at aa ab ac ah HK HB ap ⊢
 refine PS aB ?_
 refine PV 2 (some 12) (bs 5 8) aB ?_
 refine PV 4 (some 14) (bs 21 8) aB ?_
 refine tk (i := 1) (N := some 11) (v := ?_) (a' := ?_) (bs 23 8) rfl rfl aB bZ ?_ ap ?_ ?_
 rotate_left
 ·intro w' s0
  go_simp
  with_reducible rfl
 rotate_left
 ·simp only[pA,pS,pZ,pK,pV]
  rfl
 refine one_ (i := 3) (N := some 13) (lo 5 8) rfl rfl (one_of aB.out (by kernel_rfl)) (by decide) (fun K hK => ?_)
 refine GO Try.func54 #[.pointer (some ⟨g, 0, none⟩), .int .i64 6] ?_
 with_reducible refine (spec_l1Below.calls g s0_0 aP aQ 6 al aT aU w0 _ ?side1 ?side2 A5.out).mono ?_
 (case side1 => exact IZ ah)
 (case side2 => exact BZ1 HB ah)
 rintro e cb ⟨rfl, hi, hb, hk⟩
 refine ⟨_, rfl, ?_⟩
 replace ab := KB ab hk ag
 replace aa := AM_ (Kd.N_mono (Kd.N_keep (Kd.N_mono (ok := fun k_ => ((((w.heap.size ≤ k_)) ∧ (k_ ≠ ad ∧ k_ ≠ g)) ∧ k_ ≠ af)) (by (with_reducible repeat (first | apply Kd.N_alloc | apply Kd.N_drewN | apply Kd.N_drew)); exact aa.out) (fun k_ hk_ => (⟨hk_, hk_.1.2.2⟩ : _ ∧ k_ ≠ g))) hk (fun _ h => h.2)) (fun _ h => h.1))
 replace ac := KB ac hk aj
 replace HK := KY HK hk
 replace HB := AM_ (hb)
 replace ah := AM_ (hi)
 (try clear hb)
 (try clear hk)
 (try clear hi)
 refine hK.out _ _ ((blk_cell ac.out 0).trans rfl) (fun ap => ?_)
 clear hK K
 refine NM 13 ?_
 refine OS aB (fun K hK => ?_)
 refine GO Try.func122 #[.pointer (some ⟨g, 0, none⟩)] ?_
 with_reducible refine (spec_l3Any.calls k g s0_0 aT aU au aV aW w0 _ ?side1 ?side2 A6.out).mono ?_
 (case side1 => exact IZ ah)
 (case side2 => exact BZ1 HB ah)
 rintro e b0 ⟨b1, rfl, aL, hi, hb, hk⟩
 refine ⟨_, rfl, ?_⟩
 replace ab := KB ab hk ag
 replace aa := AM_ (Kd.N_mono (Kd.N_told (Kd.N_oldK (Kd.N_mono (ok := fun k_ => ((((w.heap.size ≤ k_)) ∧ (k_ ≠ ad ∧ k_ ≠ g)) ∧ k_ ≠ af)) (by (with_reducible repeat (first | apply Kd.N_alloc | apply Kd.N_drewN | apply Kd.N_drew)); exact aa.out) (fun k_ hk_ => (⟨hk_, hk_.1.2.2⟩ : _ ∧ k_ ≠ g))) hk) (Kd.Q_base aL)) (fun _ h_ => h_.1))
 replace ac := KB ac hk aj
 have aG := AM_ (Kd.Q_lower (Kd.Q_newM (M := fun k_ => (w.heap.size ≤ k_)) aL (KS HK) (fun k_ h_ => h_)) (KS HK))
 replace HK := KY HK hk
 replace HB := AM_ (hb)
 replace ah := AM_ (hi)
 (try clear hb)
 (try clear hk)
 (try clear hi)
 (try clear aL)
 have p9 : 0 ≤ (al : Int) := DT
 have q9 : (al : Int) < ((ae.length : Int) : Int) := DT
 obtain ⟨Aq221, cq221, eq221, _⟩ := Kd.Q_slice aG.out
 subst eq221
 obtain ⟨aC, cc, bI, bJ, b2, cl9, bK⟩ := Kd.N_form aa.out (by omega)
 (first | cases bI | (injection bI with ea_ en_ ec_; (first | subst ea_ | (injection ea_ with ea_; subst ea_)); subst ec_; clear en_))
 have b3 := AM_ bJ
 have cd := AM_ bK
 clear bJ b2 bK
 obtain ⟨ce, br, bL, aY, aZ⟩ := Kd.N_elem aa.out [] (al : Int) p9 q9
 obtain ⟨ua9_0, uc9_0, rfl, ul9_0, ge9_0⟩ := Kd.FK_slice_open bL
 have a3 := aY 0 _ rfl
 have hf9_0 := aZ 0
 (try simp only [show ((Kd.slice 52 k52)).sz = 1 from rfl, Nat.mul_one, Nat.add_zero] at a3)
 (try simp only [show ((Kd.slice 52 k52)).sz = 1 from rfl, Nat.mul_one, Nat.add_zero] at hf9_0)
 clear br aY aZ; (try clear bL)
 replace p9 := ET p9
 replace q9 := ET q9
 have HN0_go9 := AM_ (show g ≠ aC from by have h_ := IsS164.own_neN ah.out aa.out (by decide); intro e_; exact h_ (by rw [e_]; rfl))
 have aD := AM_ (show Kd.N (Kd.slice 52 k52) 62 _ w.heap.size (fun k_ => (w.heap.size ≤ k_) ∧ some k_ ≠ ((.slice Aq221 au.length cq221) : Value).ownBlock ∧ k_ ≠ ad ∧ k_ ≠ af ∧ k_ ≠ g) (.slice (some ⟨aC, 0, none⟩) ae.length ai) ae from (Kd.N_mono (aa.out) (fun k_ hk => ⟨hk.1.1.1, ⟨hk.2, ⟨hk.1.1.2.1, ⟨hk.1.2, hk.1.1.2.2⟩⟩⟩⟩)))
 replace aD := AM_ (show Kd.N (Kd.slice 52 k52) 62 _ w.heap.size (fun k_ => (w.heap.size ≤ k_) ∧ k_ ≠ ad ∧ k_ ≠ af ∧ k_ ≠ g) (.slice (some ⟨aC, 0, none⟩) ae.length ai) ae from Kd.N_mono aD.out (fun k_ hk => ⟨hk.1, ⟨hk.2.2.1, ⟨hk.2.2.2.1, hk.2.2.2.2⟩⟩⟩))
 obtain ⟨b4, aH, a4, aI, a5⟩ := Kd.N_elem aD.out [] (al : Int) (DT) (by have h_ : (al : Int) < ((ae.length : Int) : Int) := DT; first | exact h_ | (have e_ := (Kd.N_reads' aa.out).1; omega) | simpa using h_)
 obtain ⟨ua21_0, uc21_0, rfl, ul21_0, ge21_0⟩ := Kd.FK_slice_open a4
 have HP21 := (Kd.N_seg aD.out (al : Int) (DT) (by have h_ : (al : Int) < ((ae.length : Int) : Int) := DT; first | exact h_ | (have e_ := (Kd.N_reads' aa.out).1; omega) | simpa using h_) (seg := [(.slice Aq221 au.length cq221)]) (j := 0) aH aI (show 1 ≤ 1 from by decide) (x' := au) (Kd.FK_Q (Kd.Q_mono (ok' := (fun k_ => ((fun k_ => (w.heap.size ≤ k_) ∧ k_ ≠ ad ∧ k_ ≠ af ∧ k_ ≠ g)) k_ ∧ k_ ≠ aC)) (IsS164.apartQ ah.out (Kd.Q_types (Kd.Q_types (Kd.Q_apart' (aG.out) (Kd.N_typed aa.out) (by decide)) ab.out (by decide)) ac.out (by decide)) (by decide)) (fun k_ hk => ⟨⟨hk.1.1.1.1.1, ⟨hk.1.1.2, ⟨hk.1.2, hk.2⟩⟩⟩, fun e_ => (hk.1.1.1.2) (by rw [e_]; rfl)⟩))) (fun _ hk => hk)).1
 (try simp only [show ((Kd.slice 52 k52)).sz = 1 from rfl, Nat.mul_one, Nat.add_zero] at HP21)
 rw [← aX.out] at HP21
 have HQ21 := AM_ HP21
 clear aH aI a5 HP21; (try clear a4)
 refine hK.out _ _ ((blk_cell ac.out 0).trans rfl) (fun ap => ?_)
 clear hK K
 refine NM 15 ?_
 refine PS aB ?_
 refine last_ (i := 7) (N := none) (lo 8 8) rfl rfl (one_of aB.out (by kernel_rfl)) (by decide) (fun K hK => ?_)
 refine skip_ (w1 := ?_) (by rfl) rfl ?_ ?_
 rotate_left
 ·go_simp
  rfl
 refine hK.out _ _ ?_
 clear hK K
 refine done_ (done_of aB.out (by kernel_rfl)) ?_
 generalize aK : b0.setCell ⟨aC, (al : Int).toNat, none⟩ ((.slice Aq221 au.length cq221)) = aM
 have bM : Aside0 (Kd.N (Kd.slice 52 k52) 62 aM w.heap.size (fun k_ => (w.heap.size ≤ k_) ∧ k_ ≠ ad ∧ k_ ≠ g ∧ k_ ≠ af) (.slice (some ⟨aC, 0, none⟩) ae.length ai) bq) := by subst aK; exact ⟨by (with_reducible repeat (first | apply Kd.N_alloc | apply Kd.N_drewN | apply Kd.N_drew)); exact Kd.N_mono HQ21.out (fun _ hk => ⟨hk.1, ⟨hk.2.1, ⟨hk.2.2.2, hk.2.2.1⟩⟩⟩)⟩
 have bN : Aside0 (aM.heap[ad]? = some (.cells #[.slice none 0 0] 34 (0, 0))) := by subst aK; exact ⟨by (with_reducible repeat (first | refine blk_drewN ?_ _ | refine blk_drew ?_ | refine blk_alloc ?_ _)); refine blk_far ?_ (by have h_ := Kd.N_away (g := ad) aa.out (fun _ hk => by first | exact hk.2.1 | simp [hk]); intro e_; exact h_ (by rw [e_]; rfl)) _; (with_reducible repeat (first | refine blk_drewN ?_ _ | refine blk_drew ?_ | refine blk_alloc ?_ _)); exact ab.out⟩
 have bO : Aside0 (aM.heap[af]? = some (.cells #[.slice (some ⟨aC, 0, none⟩) ae.length ai] 34 (0, 0))) := by subst aK; exact ⟨by (with_reducible repeat (first | refine blk_drewN ?_ _ | refine blk_drew ?_ | refine blk_alloc ?_ _)); refine blk_far ?_ (by have h_ := Kd.N_away (g := af) aa.out (fun _ hk => by first | exact hk.2.2.1 | simp [hk]); intro e_; exact h_ (by rw [e_]; rfl)) _; (with_reducible repeat (first | refine blk_drewN ?_ _ | refine blk_drew ?_ | refine blk_alloc ?_ _)); exact ac.out⟩
 have bP : Aside0 (IsS164 w0 aM g s0_0 aV aW) := by subst aK; exact ⟨IZ ah⟩
 have bQ : Aside0 (KeepBut w aM g none) := by subst aK; exact ⟨KZ HK⟩
 have bR : Aside0 (Below w0.heap.size w0 aM) := by subst aK; exact ⟨by repeat (first | (with_reducible first | exact HB.out | apply below_alloc | apply pw_below_drewN | apply below_drew1 | refine below_set ?_ (Nat.le_trans HL.out b3.out) | refine below_set ?_ (IsS164.ge ah.out) | refine below_set ?_ GE207.out | refine below_set ?_ GE213.out) | exact HB.out)⟩
 (try clear aa)
 (try clear ab)
 (try clear ac)
 (try clear ah)
 (try clear HK)
 (try clear HB)
 clear aK
 have aa := bM
 have ab := bN
 have ac := bO
 have ah := bP
 have HK := bQ
 have HB := bR
 clear bM bN bO bP bQ bR
 obtain ⟨bf, bg⟩ := bk1 ac.out
 have bS := ag.out
 have bT := am.out
 obtain ⟨bh, bi⟩ := bk1 ab.out
 try go_wp2
 refine bodyPost_ret (results_cell_row rfl _ _ ad 34 #[.slice (some ⟨aC, 0, none⟩) ae.length ai] (0, 0) _ rfl (by (with_reducible repeat (first | refine blk_drewN ?_ _ | refine blk_drew ?_ | refine blk_alloc ?_ _)); refine blk_put (cs := #[.slice none 0 0]) ?_ 0 _ rfl; (with_reducible repeat (first | refine blk_drewN ?_ _ | refine blk_drew ?_ | refine blk_alloc ?_ _)); exact ab.out) Try.underlying34 rfl (by kernel_rfl)) rfl ?_
 exact ⟨_, ER, Kd.N_V (by (with_reducible repeat (first | apply Kd.N_alloc | apply Kd.N_drewN | apply Kd.N_drew)); exact Kd.N_mono (Kd.N_far (p := ⟨ad, 0, none⟩) (Kd.N_mono aa.out (fun k_ hk => (⟨hk, hk.2.1⟩ : _ ∧ k_ ≠ ad))) (fun _ hk => hk.2) (.slice (some ⟨aC, 0, none⟩) ae.length ai)) (fun _ hk => hk.1.1)), IZ ah, BZ1 HB ah, KZ HK⟩

/-! ### spec_l5Before: function 67 -/
def spec_l5Before.f (aa : Int) (ac : Int) (ab : Int) (ad : Int) : Option (Bool) := if aa < ab then (some true) else (if aa = ab then (some (decide (ac < ad))) else (some false))
theorem spec_l5Before.calls (ad : Int) (ag : Int) (ae : Int) (ah : Int) (r : Bool) (w : World) (h : spec_l5Before.f ad ag ae ah = some r) :
  Calls Try.prog 67 #[.agg #[.int .i64 ad, .int .i64 ag], .agg #[.int .i64 ae, .int .i64 ah]] w fun e w' => e = .returned (.bool r) ∧ Below w.heap.size w w' := by
 have aO := Try.underlying116
 have HB := AM_ (Below.refl w.heap.size w)
 unfold spec_l5Before.f at h
 have H := h
 clear h
 by_cases c3 : ad < ae
 ·rw [if_pos c3] at H
  have aE := DE c3
  clear c3
  obtain rfl := SI H
  go_enter Try.func67, Try.ntmps67
  go_wp2_with (first | ((with_reducible refine G2 2 rfl ?_); refine BY 2 #[.int .i64 ad, .int .i64 ag] 116 HB ?_; clear HB; intro ai w4 aa aj HB) | ((with_reducible refine G2 3 rfl ?_); refine BZ 3 #[.int .i64 ae, .int .i64 ah] 116 HB ?_; clear HB; intro ak w5 hg hb af al HB; have ab := NP aa hg; have ac := NQ aa hg; replace aa := BV aa hb; clear hb hg; have aT := ab.out; have aU := ac.out; obtain ⟨aF, aG, aH, aI⟩ := bk2 aa.out; obtain ⟨aJ, aK, aL, aM⟩ := bk2 af.out))
  go_ret
  exact QT (BT HB.out)
 rw [if_neg c3] at H
 have aE := decide_eq_false c3
 clear c3
 by_cases c9 : ad = ae
 rotate_left
 ·rw [if_neg c9] at H
  have aN : (ad == ae) = false := beq_eq_false_iff_ne.mpr c9
  have c9b1 : (ad != ae) = true := bne_iff_ne.mpr c9
  obtain rfl := SI H
  go_enter Try.func67, Try.ntmps67
  go_wp2_with (first | ((with_reducible refine G2 2 rfl ?_); refine BY 2 #[.int .i64 ad, .int .i64 ag] 116 HB ?_; clear HB; intro ai aV aa aj HB) | ((with_reducible refine G2 3 rfl ?_); refine BZ 3 #[.int .i64 ae, .int .i64 ah] 116 HB ?_; clear HB; intro ak aW hg hb af al HB; have ab := NP aa hg; have ac := NQ aa hg; replace aa := BV aa hb; clear hb hg; have aP := ab.out; have aQ := ac.out; obtain ⟨am, an, ao, ap⟩ := bk2 aa.out; obtain ⟨aq, ar, au, av⟩ := bk2 af.out))
  go_ret
  exact QT (BT HB.out)
 rw [if_pos c9] at H
 have aN : (ad == ae) = true := beq_iff_eq.mpr c9
 have c9b1 : (ad != ae) = false := bne_eq_false_iff_eq.mpr c9
 clear c9
 obtain rfl := SI H
 go_enter Try.func67, Try.ntmps67
 go_wp2_with (first | ((with_reducible refine G2 2 rfl ?_); refine BY 2 #[.int .i64 ad, .int .i64 ag] 116 HB ?_; clear HB; intro ai aX aa aj HB) | ((with_reducible refine G2 3 rfl ?_); refine BZ 3 #[.int .i64 ae, .int .i64 ah] 116 HB ?_; clear HB; intro ak aY hg hb af al HB; have ab := NP aa hg; have ac := NQ aa hg; replace aa := BV aa hb; clear hb hg; have aR := ab.out; have aS := ac.out; obtain ⟨aw, ax, ay, az⟩ := bk2 aa.out; obtain ⟨aA, aB, aC, aD⟩ := bk2 af.out))
 go_ret
 exact QT (BT HB.out)

end Go.Proofs.Ytdgknikgfjhohaa.PFnSchemes
