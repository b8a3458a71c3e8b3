-- Printed by wip/myprint.py.
import Derived.Test.YtdgknikgfjhohaaPFnSchemesx18
namespace Go.Proofs.Ytdgknikgfjhohaa.PFnSchemes
open Go.RowKit Go.Proofs.YtdgknikgfjhohaaW.PrintWords Go.Proofs.YtdgknikgfjhohaaW.PrintLast Go.Proofs.YtdgknikgfjhohaaW.PrintMore
set_option maxHeartbeats 8000000
set_option maxRecDepth 100000
set_option linter.unusedVariables false
set_option linter.unusedSimpArgs false

/-! ### spec_IsValidVersion: function 100 -/
def spec_IsValidVersion.j0 : Nat → Bool → Int → Int → Int → Int → Int → Option (Bool)
 | 0, _, _, _, _, _, _ => none
 | k + 1, ag, aa, ab, ac, ad, ae => if ag = true then (some false) else (if ac = 0 then (if aa = 0 then (some (ab == (-1))) else (some false)) else ((spec_l1In.f aa 1 9).bind fun af => (some af)))
def spec_IsValidVersion.f (k : Nat) (ae : Int) (ab : Int) (aa : Int) (ac : Int) (ad : Int) : Option (Bool) := (spec_l1In.f ab (-1) 99).bind fun af => (if af = true then ((spec_l1In.f aa 0 999).bind fun ag => (if ag = true then ((spec_l1In.f ac aa 999).bind fun ah => (if ah = true then ((spec_l1In.f ad 1 1000).bind fun ai => (spec_IsValidVersion.j0 k (!ai) ae ab aa ac ad)) else (spec_IsValidVersion.j0 k true ae ab aa ac ad))) else (spec_IsValidVersion.j0 k true ae ab aa ac ad))) else (spec_IsValidVersion.j0 k true ae ab aa ac ad))
theorem spec_IsValidVersion.mono_l : ∀ k, (∀ y0 y1 y2 y3 y4 y5, LeO (spec_IsValidVersion.j0 k y0 y1 y2 y3 y4 y5) (spec_IsValidVersion.j0 (k + 1) y0 y1 y2 y3 y4 y5))
 | 0 => fun _ _ _ _ _ _ r h => by simp [spec_IsValidVersion.j0] at h
 | k + 1 => by
  have aa := spec_IsValidVersion.mono_l k
  all_goals intros; unfold spec_IsValidVersion.j0
  all_goals repeat' (with_reducible first | exact aa .. | exact LeO.refl _ | exact LeO.none _ | refine LeO.ite ?_ ?_ | refine LeO.bind ?_ (fun _ => ?_))
theorem spec_IsValidVersion.mono : ∀ a0 a1 a2 a3 a4 k, LeO (spec_IsValidVersion.f k a0 a1 a2 a3 a4) (spec_IsValidVersion.f (k + 1) a0 a1 a2 a3 a4) := by
 intro a0 a1 a2 a3 a4 k
 have aa := spec_IsValidVersion.mono_l k
 unfold spec_IsValidVersion.f
 repeat' (with_reducible first | exact aa .. | exact LeO.refl _ | exact LeO.none _ | refine LeO.ite ?_ ?_ | refine LeO.bind ?_ (fun _ => ?_))
theorem spec_IsValidVersion.calls (k : Nat) (ad : Int) (ac : Int) (ab : Int) (ae : Int) (ag : Int) (r : Bool) (w : World) (h : spec_IsValidVersion.f k ad ac ab ae ag = some r) :
  Calls Try.prog 100 #[.agg #[.int .i64 ad, .int .i64 ac, .int .i64 ab, .int .i64 ae, .int .i64 ag]] w fun e w' => e = .returned (.bool r) ∧ Below w.heap.size w w' := by
 have bO := Try.underlying52
 have HB := AM_ (Below.refl w.heap.size w)
 unfold spec_IsValidVersion.f at h
 have H := h
 clear h
 have bI := AM_ H
 clear H
 go_enter Try.func100, Try.ntmps100
 go_upto_region 1 with (first | ((with_reducible refine G2 1 rfl ?_); refine BY 1 #[.int .i64 ad, .int .i64 ac, .int .i64 ab, .int .i64 ae, .int .i64 ag] 52 HB ?_; clear HB; intro aZ w3 aa bN HB))
 (try simp only [pA, pS, pZ, pK])
 go_cut [26] (fun bP wc => ∃ (kq : Nat) (af : Bool), bP = .bool af ∧ Aside0 (spec_IsValidVersion.j0 kq af ad ac ab ae ag = some r) ∧ Aside0 (kq ≤ k) ∧ Aside0 (wc.heap[aZ]? = some (.cells #[.int .i64 ad, .int .i64 ac, .int .i64 ab, .int .i64 ae, .int .i64 ag] 52 (0, 0))) ∧ Aside0 (Below w.heap.size w wc))
 case first =>
  have H := bI.out
  clear bI
  obtain ⟨bJ, A4, H⟩ := OB H
  by_cases c5 : bJ = true
  rotate_left
  ·replace c5 := Bool.eq_false_iff.mpr c5
   subst c5
   replace H := HF H
   have H' := AM_ H
   clear H
   obtain ⟨ah, ai, aj, ak, al, am, an, ao, ap, aq⟩ := bk5 aa.out
   go_wp2_with (first | ((with_reducible refine G1 29 rfl ?_); refine GC (some 5) Try.func29 #[.int .i64 ac, .int .i64 (-1), .int .i64 99] ?_; (with_reducible refine MQ (spec_l1In.calls ac (-1) 99 false _ A4.out) ?_); intro nd))
   go_meet
   case rel => exact ⟨_, (true), (by first | rfl | (simp; done) | (simp [*]; done)), H', ⟨by first | omega | exact Nat.le_refl _⟩, ⟨BH aa.out⟩, ⟨BT HB.out⟩⟩
  subst c5
  replace H := HT H
  obtain ⟨bK, A6, H⟩ := OB H
  by_cases c7 : bK = true
  rotate_left
  ·replace c7 := Bool.eq_false_iff.mpr c7
   subst c7
   replace H := HF H
   have H' := AM_ H
   clear H
   obtain ⟨ar, au, av, aw, ax, ay, az, aA, aB, aC⟩ := bk5 aa.out
   go_wp2_with (first | ((with_reducible refine G1 29 rfl ?_); refine GC (some 5) Try.func29 #[.int .i64 ac, .int .i64 (-1), .int .i64 99] ?_; (with_reducible refine MQ (spec_l1In.calls ac (-1) 99 true _ A4.out) ?_); intro nd) | (go_at_call 29; (with_reducible refine (spec_l1In.calls ab 0 999 false _ A6.out).mono ?_); rintro e w' ⟨rfl, ⟨nd, rfl⟩⟩))
   go_meet
   case rel => exact ⟨_, (true), (by first | rfl | (simp; done) | (simp [*]; done)), H', ⟨by first | omega | exact Nat.le_refl _⟩, ⟨BH aa.out⟩, ⟨BT HB.out⟩⟩
  subst c7
  replace H := HT H
  obtain ⟨bL, A8, H⟩ := OB H
  by_cases c9 : bL = true
  rotate_left
  ·replace c9 := Bool.eq_false_iff.mpr c9
   subst c9
   replace H := HF H
   have H' := AM_ H
   clear H
   obtain ⟨aD, aE, aF, aG, aH, aI, aJ, aK, aL, aM⟩ := bk5 aa.out
   go_wp2_with (first | ((with_reducible refine G1 29 rfl ?_); refine GC (some 5) Try.func29 #[.int .i64 ac, .int .i64 (-1), .int .i64 99] ?_; (with_reducible refine MQ (spec_l1In.calls ac (-1) 99 true _ A4.out) ?_); intro nd) | (go_at_call 29; (with_reducible refine (spec_l1In.calls ab 0 999 true _ A6.out).mono ?_); rintro e w' ⟨rfl, ⟨nd, rfl⟩⟩) | (go_at_call 29; (with_reducible refine (spec_l1In.calls ae ab 999 false _ A8.out).mono ?_); rintro e w' ⟨rfl, ⟨nd, rfl⟩⟩))
   go_meet
   case rel => exact ⟨_, (true), (by first | rfl | (simp; done) | (simp [*]; done)), H', ⟨by first | omega | exact Nat.le_refl _⟩, ⟨BH aa.out⟩, ⟨BT HB.out⟩⟩
  subst c9
  replace H := HT H
  obtain ⟨a5, bQ, H⟩ := OB H
  have H' := AM_ H
  clear H
  obtain ⟨aN, aO, aP, aQ, aR, aS, aT, aU, aV, aW⟩ := bk5 aa.out
  go_wp2_with (first | ((with_reducible refine G1 29 rfl ?_); refine GC (some 5) Try.func29 #[.int .i64 ac, .int .i64 (-1), .int .i64 99] ?_; (with_reducible refine MQ (spec_l1In.calls ac (-1) 99 true _ A4.out) ?_); intro nd) | (go_at_call 29; (with_reducible refine (spec_l1In.calls ab 0 999 true _ A6.out).mono ?_); rintro e w' ⟨rfl, ⟨nd, rfl⟩⟩) | (go_at_call 29; (with_reducible refine (spec_l1In.calls ae ab 999 true _ A8.out).mono ?_); rintro e w' ⟨rfl, ⟨nd, rfl⟩⟩) | (go_at_call 29; (with_reducible refine (spec_l1In.calls ag 1 1000 a5 _ bQ.out).mono ?_); rintro e w' ⟨rfl, ⟨nd, rfl⟩⟩))
  go_meet
  case rel => exact ⟨_, (!a5), (by first | rfl | (simp; done) | (simp [*]; done)), H', ⟨by first | omega | exact Nat.le_refl _⟩, ⟨BH aa.out⟩, ⟨BT HB.out⟩⟩
 case rest =>
  clear bI
  try clear c5
  try clear c7
  try clear c9
  try clear aN aO aP aQ aR
  try clear aD aE aF aG aH
  try clear ar au av aw ax
  try clear ah ai aj ak al
  try clear aS aT aU aV aW
  try clear aI aJ aK aL aM
  try clear ay az aA aB aC
  try clear am an ao ap aq
  obtain ⟨kq, af, rfl, HA, bS, aa, HB⟩ := hcut
  cases kq with
  | zero => exact absurd HA.out (by simp [spec_IsValidVersion.j0])
  | succ kj1 =>
   have H := HA.out
   clear HA
   simp only [spec_IsValidVersion.j0] at H
   by_cases a8 : af = true
   ·subst a8
    replace H := HT H
    obtain rfl := SI H
    go_wp2
    go_ret
    exact QT (BT HB.out)
   replace a8 := Bool.eq_false_iff.mpr a8
   subst a8
   replace H := HF H
   by_cases aX : ab = 0
   ·rw [if_pos aX] at H
    have a6 : (ab == 0) = true := beq_iff_eq.mpr aX
    have c16b1 : (ab != 0) = false := bne_eq_false_iff_eq.mpr aX
    clear aX
    by_cases aY : ad = 0
    rotate_left
    ·rw [if_neg aY] at H
     have a7 : (ad == 0) = false := beq_eq_false_iff_ne.mpr aY
     have c17b1 : (ad != 0) = true := bne_iff_ne.mpr aY
     obtain rfl := SI H
     obtain ⟨a9, ba, bb, bd, be, bf, bg, bh, bi, bj⟩ := bk5 aa.out
     go_wp2
     go_ret
     exact QT (BT HB.out)
    rw [if_pos aY] at H
    have a7 : (ad == 0) = true := beq_iff_eq.mpr aY
    have c17b1 : (ad != 0) = false := bne_eq_false_iff_eq.mpr aY
    clear aY
    obtain rfl := SI H
    obtain ⟨bk, bm, bn, bo, bp, bq, br, bu, bv, bw⟩ := bk5 aa.out
    go_wp2
    go_ret
    exact QT (BT HB.out)
   rw [if_neg aX] at H
   have a6 : (ab == 0) = false := beq_eq_false_iff_ne.mpr aX
   have c16b1 : (ab != 0) = true := bne_iff_ne.mpr aX
   obtain ⟨bM, bR, H⟩ := OB H
   obtain rfl := SI H
   obtain ⟨bx, bz, bA, bB, bC, bD, bE, bF, bG, bH⟩ := bk5 aa.out
   go_wp2_with (first | ((with_reducible refine G1 29 rfl ?_); refine GC (some 40) Try.func29 #[.int .i64 ad, .int .i64 1, .int .i64 9] ?_; (with_reducible refine MQ (spec_l1In.calls ad 1 9 bM _ bR.out) ?_); intro nd))
   go_ret
   exact QT (BT HB.out)

/-! ### spec_IsValidChain: function 64 -/
def spec_IsValidChain.l0 : Nat → List (S52) → Int → Option (Bool)
 | 0, _, _ => none
 | k + 1, x0, x3 => if x3 < (x0.length : Int) then (if 0 ≤ x3 then ((spec_IsValidVersion.f k ((rd_T52 x0 x3).f0) ((rd_T52 x0 x3).f1) ((rd_T52 x0 x3).f2) ((rd_T52 x0 x3).f3) ((rd_T52 x0 x3).f4)).bind fun aa => (if aa = true then (if (wrap64 (x3 + 1)) < (x0.length : Int) then (if 0 ≤ (wrap64 (x3 + 1)) then (if ((rd_T52 x0 x3).f2) ≥ ((rd_T52 x0 (wrap64 (x3 + 1))).f2) then (some false) else (if ((rd_T52 x0 x3).f4) > ((rd_T52 x0 (wrap64 (x3 + 1))).f2) then (some false) else (spec_IsValidChain.l0 k x0 (wrap64 (x3 + 1))))) else (none)) else (spec_IsValidChain.l0 k x0 (wrap64 (x3 + 1)))) else (some false))) else (none)) else (if (x0.length : Int) > 0 then (if 0 ≤ (wrap64 ((x0.length : Int) - 1)) then (if (wrap64 ((x0.length : Int) - 1)) < (x0.length : Int) then (some (((rd_T52 x0 (wrap64 ((x0.length : Int) - 1))).f4) == 1000)) else (none)) else (none)) else (some false))
def spec_IsValidChain.f (k : Nat) (l0 : List (S52)) : Option (Bool) := spec_IsValidChain.l0 k l0 0
theorem spec_IsValidChain.mono_l : ∀ k, (∀ y0 y1, LeO (spec_IsValidChain.l0 k y0 y1) (spec_IsValidChain.l0 (k + 1) y0 y1))
 | 0 => fun _ _ r h => by simp [spec_IsValidChain.l0] at h
 | k + 1 => by
  have aa := spec_IsValidChain.mono_l k
  all_goals intros; unfold spec_IsValidChain.l0
  all_goals repeat' (with_reducible first | exact aa .. | exact spec_IsValidVersion.mono .. | exact LeO.refl _ | exact LeO.none _ | refine LeO.ite ?_ ?_ | refine LeO.bind ?_ (fun _ => ?_))
theorem spec_IsValidChain.mono : ∀ a0 k, LeO (spec_IsValidChain.f k a0) (spec_IsValidChain.f (k + 1) a0) := by
 intro a0 k
 have aa := spec_IsValidChain.mono_l k
 unfold spec_IsValidChain.f
 repeat' (with_reducible first | exact aa .. | exact spec_IsValidVersion.mono .. | exact LeO.refl _ | exact LeO.none _ | refine LeO.ite ?_ ?_ | refine LeO.bind ?_ (fun _ => ?_))
theorem spec_IsValidChain.calls (k : Nat) (A0 : Option Addr) (c0 : Nat) (l0 : List (S52)) (r : Bool) (w : World) (bp : Kd.C k52 w A0 l0.length l0) (bq : l0.length ≤ c0) (h : spec_IsValidChain.f k l0 = some r) :
  Calls Try.prog 64 #[.slice A0 l0.length c0] w fun e w' => e = .returned (.bool r) ∧ Below w.heap.size w w' := by
 have bE := Try.underlying52
 have aQ := AM_ bp
 have bH := AM_ bq
 clear bp bq
 have HB := AM_ (Below.refl w.heap.size w)
 unfold spec_IsValidChain.f at h
 have H := h
 clear h
 have H' := AM_ H
 clear H
 go_enter Try.func64, Try.ntmps64
 go_wp2
 repeat (go_quiet (fail); try go_wp2)
 go_loopg [3] k (fun kq v3 w' => ∃ (aa : Int), v3 = .int .i64 aa ∧ Aside0 (spec_IsValidChain.l0 kq l0 aa = some r) ∧ Aside0 (kq ≤ k) ∧ Aside0 (Below w.heap.size w w'))
 case atStart => exact ⟨(0), (by first | rfl | (simp; done) | (simp [*]; done)), H', ⟨Nat.le_refl _⟩, ⟨BT HB.out⟩⟩
 case round =>
  clear H'
  obtain ⟨aa, rfl, HA, bj, HB⟩ := hrel
  cases gk with
  | zero => exact absurd HA.out (by simp [spec_IsValidChain.l0])
  | succ k1 =>
   have H := HA.out
   clear HA
   simp only [spec_IsValidChain.l0] at H
   by_cases c2 : aa < (l0.length : Int)
   rotate_left
   ·rw [if_neg c2] at H
    have bk := decide_eq_false c2
    clear c2
    by_cases be : (l0.length : Int) > 0
    rotate_left
    ·rw [if_neg be] at H
     have bg : decide (0 < (l0.length : Int)) = false := decide_eq_false be
     have c16b1 : decide (0 < l0.length) = false := decide_eq_false (by omega)
     clear be
     obtain rfl := SI H
     go_wp2
     repeat (go_quiet (fail); try go_wp2)
     go_ret
     exact QT (BT HB.out)
    rw [if_pos be] at H
    have bg : decide (0 < (l0.length : Int)) = true := DE be
    have c16b1 : decide (0 < l0.length) = true := decide_eq_true (by omega)
    clear be
    obtain ⟨aZ, a5⟩ : ∃ j_ : Int, (wrap64 ((l0.length : Int) - 1)) = j_ := ⟨_, rfl⟩
    replace H : (if 0 ≤ (aZ) then (if (aZ) < (l0.length : Int) then (some (((rd_T52 l0 (aZ)).f4) == 1000)) else (none)) else (none)) = some r := by first | (rw [a5] at H; exact H) | (simp only [a5] at H ⊢; exact H)
    have hji17w : (IntKind.i64.wrap ((l0.length : Int) - 1)) = aZ := (i64_w _).trans a5
    replace H := HI H
    obtain ⟨br, H⟩ := H
    have bu := DE br
    clear br
    replace H := HI H
    obtain ⟨bv, H⟩ := H
    have bw := DE bv
    clear bv
    obtain rfl := SI H
    have bb : 0 ≤ ((aZ) : Int) := DT
    have bd : (aZ) < (l0.length : Int) := DT
    obtain ⟨bx, bm, a6, a7, a8, a9, ba⟩ := at_T52 aQ.out (aZ) bb bd
    cases bm
    replace a6 := BC HB.out a6
    replace a7 := BC HB.out a7
    replace a8 := BC HB.out a8
    replace a9 := BC HB.out a9
    replace ba := BC HB.out ba
    replace bb := ET bb
    replace bd := ET bd
    go_wp2
    repeat (go_quiet (fail); try go_wp2)
    go_ret
    exact ⟨by first | rfl | (simp [errW_none, errW_some] <;> rfl) | (simp only [← a5]; first | rfl | (simp [errW_none, errW_some] <;> rfl)) | (simp [*, errW_none, errW_some] <;> rfl), BT HB.out⟩
   rw [if_pos c2] at H
   have bk := DE c2
   clear c2
   replace H := HI H
   obtain ⟨c3, H⟩ := H
   have bF := DE c3
   clear c3
   obtain ⟨bn, A4, H⟩ := OB H
   by_cases c5 : bn = true
   rotate_left
   ·replace c5 := Bool.eq_false_iff.mpr c5
    subst c5
    replace H := HF H
    obtain rfl := SI H
    have aO : 0 ≤ (aa : Int) := DT
    have aP : aa < (l0.length : Int) := DT
    obtain ⟨al, aX, ay, az, aA, aB, aC⟩ := at_T52 aQ.out aa aO aP
    cases aX
    replace ay := BC HB.out ay
    replace az := BC HB.out az
    replace aA := BC HB.out aA
    replace aB := BC HB.out aB
    replace aC := BC HB.out aC
    replace aO := ET aO
    replace aP := ET aP
    go_wp2_with (first | (go_at_call 100; (with_reducible refine (spec_IsValidVersion.calls k1 ((rd_T52 l0 aa).f0) ((rd_T52 l0 aa).f1) ((rd_T52 l0 aa).f2) ((rd_T52 l0 aa).f3) ((rd_T52 l0 aa).f4) false _ A4.out).mono ?_); rintro e bz ⟨rfl, hb⟩; replace HB := BW HB hb; (try clear hb)))
    repeat (go_quiet (first | (go_at_call 100; (with_reducible refine (spec_IsValidVersion.calls k1 ((rd_T52 l0 aa).f0) ((rd_T52 l0 aa).f1) ((rd_T52 l0 aa).f2) ((rd_T52 l0 aa).f3) ((rd_T52 l0 aa).f4) false _ A4.out).mono ?_); rintro e bz ⟨rfl, hb⟩; replace HB := BW HB hb; (try clear hb))); try go_wp2_with (first | (go_at_call 100; (with_reducible refine (spec_IsValidVersion.calls k1 ((rd_T52 l0 aa).f0) ((rd_T52 l0 aa).f1) ((rd_T52 l0 aa).f2) ((rd_T52 l0 aa).f3) ((rd_T52 l0 aa).f4) false _ A4.out).mono ?_); rintro e bz ⟨rfl, hb⟩; replace HB := BW HB hb; (try clear hb))))
    go_ret
    exact QT (BT HB.out)
   subst c5
   replace H := HT H
   by_cases c6 : (wrap64 (aa + 1)) < (l0.length : Int)
   rotate_left
   ·rw [if_neg c6] at H
    have bh := decide_eq_false c6
    clear c6
    have H' := AM_ H
    clear H
    have aO : 0 ≤ (aa : Int) := DT
    have aP : aa < (l0.length : Int) := DT
    obtain ⟨al, aX, ay, az, aA, aB, aC⟩ := at_T52 aQ.out aa aO aP
    cases aX
    replace ay := BC HB.out ay
    replace az := BC HB.out az
    replace aA := BC HB.out aA
    replace aB := BC HB.out aB
    replace aC := BC HB.out aC
    replace aO := ET aO
    replace aP := ET aP
    go_wp2_with (first | (go_at_call 100; (with_reducible refine (spec_IsValidVersion.calls k1 ((rd_T52 l0 aa).f0) ((rd_T52 l0 aa).f1) ((rd_T52 l0 aa).f2) ((rd_T52 l0 aa).f3) ((rd_T52 l0 aa).f4) true _ A4.out).mono ?_); rintro e bA ⟨rfl, hb⟩; replace HB := BW HB hb; (try clear hb)))
    repeat (go_quiet (first | (go_at_call 100; (with_reducible refine (spec_IsValidVersion.calls k1 ((rd_T52 l0 aa).f0) ((rd_T52 l0 aa).f1) ((rd_T52 l0 aa).f2) ((rd_T52 l0 aa).f3) ((rd_T52 l0 aa).f4) true _ A4.out).mono ?_); rintro e bA ⟨rfl, hb⟩; replace HB := BW HB hb; (try clear hb))); try go_wp2_with (first | (go_at_call 100; (with_reducible refine (spec_IsValidVersion.calls k1 ((rd_T52 l0 aa).f0) ((rd_T52 l0 aa).f1) ((rd_T52 l0 aa).f2) ((rd_T52 l0 aa).f3) ((rd_T52 l0 aa).f4) true _ A4.out).mono ?_); rintro e bA ⟨rfl, hb⟩; replace HB := BW HB hb; (try clear hb))))
    go_roundg k1
    case measure => have := bj.out; omega
    case rel => exact ⟨(wrap64 (aa + 1)), (by first | rfl | (simp; done) | (simp [*]; done)), H', ⟨by have := bj.out; omega⟩, ⟨BT HB.out⟩⟩
   rw [if_pos c6] at H
   have bh := DE c6
   clear c6
   obtain ⟨aH, aY⟩ : ∃ j_ : Int, (wrap64 (aa + 1)) = j_ := ⟨_, rfl⟩
   replace H : (if 0 ≤ (aH) then (if ((rd_T52 l0 aa).f2) ≥ ((rd_T52 l0 (aH)).f2) then (some false) else (if ((rd_T52 l0 aa).f4) > ((rd_T52 l0 (aH)).f2) then (some false) else (spec_IsValidChain.l0 k1 l0 aH))) else (none)) = some r := by first | (rw [aY] at H; exact H) | (simp only [aY] at H ⊢; exact H)
   (try rw [aY] at bh)
   (try rw [aY] at A4)
   have hji7w : (IntKind.i64.wrap (aa + 1)) = aH := (i64_w _).trans aY
   replace H := HI H
   obtain ⟨c8, H⟩ := H
   have bG := DE c8
   clear c8
   by_cases c9 : ((rd_T52 l0 aa).f2) ≥ ((rd_T52 l0 (aH)).f2)
   ·rw [if_pos c9] at H
    have bo : decide (((rd_T52 l0 (aH)).f2) ≤ ((rd_T52 l0 aa).f2)) = true := DE c9
    clear c9
    obtain rfl := SI H
    have aO : 0 ≤ (aa : Int) := DT
    have aP : aa < (l0.length : Int) := DT
    obtain ⟨al, aX, ay, az, aA, aB, aC⟩ := at_T52 aQ.out aa aO aP
    cases aX
    replace ay := BC HB.out ay
    replace az := BC HB.out az
    replace aA := BC HB.out aA
    replace aB := BC HB.out aB
    replace aC := BC HB.out aC
    replace aO := ET aO
    replace aP := ET aP
    go_wp2_with (first | (go_at_call 100; (with_reducible refine (spec_IsValidVersion.calls k1 ((rd_T52 l0 aa).f0) ((rd_T52 l0 aa).f1) ((rd_T52 l0 aa).f2) ((rd_T52 l0 aa).f3) ((rd_T52 l0 aa).f4) true _ A4.out).mono ?_); rintro e bB ⟨rfl, hb⟩; replace HB := BW HB hb; (try clear hb); have aD : 0 ≤ (aa : Int) := DT; have aE : aa < (l0.length : Int) := DT; obtain ⟨aI, aR, ab, ac, ad, ae, af⟩ := at_T52 aQ.out aa aD aE; obtain rfl : al = aI := (by injection aR); replace ab := BD HB.out ab; replace ac := BD HB.out ac; replace ad := BD HB.out ad; replace ae := BD HB.out ae; replace af := BD HB.out af; replace aD := eq_true aD; replace aE := eq_true aE; have aF : 0 ≤ ((aH) : Int) := DT; have aG : (aH) < (l0.length : Int) := DT; obtain ⟨aJ, aS, ag, ah, ai, aj, ak⟩ := at_T52 aQ.out (aH) aF aG; obtain rfl : al = aJ := (by injection aS); replace ag := BD HB.out ag; replace ah := BD HB.out ah; replace ai := BD HB.out ai; replace aj := BD HB.out aj; replace ak := BD HB.out ak; replace aF := eq_true aF; replace aG := eq_true aG))
    repeat (go_quiet (first | (go_at_call 100; (with_reducible refine (spec_IsValidVersion.calls k1 ((rd_T52 l0 aa).f0) ((rd_T52 l0 aa).f1) ((rd_T52 l0 aa).f2) ((rd_T52 l0 aa).f3) ((rd_T52 l0 aa).f4) true _ A4.out).mono ?_); rintro e bB ⟨rfl, hb⟩; replace HB := BW HB hb; (try clear hb); have aD : 0 ≤ (aa : Int) := DT; have aE : aa < (l0.length : Int) := DT; obtain ⟨aI, aR, ab, ac, ad, ae, af⟩ := at_T52 aQ.out aa aD aE; obtain rfl : al = aI := (by injection aR); replace ab := BD HB.out ab; replace ac := BD HB.out ac; replace ad := BD HB.out ad; replace ae := BD HB.out ae; replace af := BD HB.out af; replace aD := eq_true aD; replace aE := eq_true aE; have aF : 0 ≤ ((aH) : Int) := DT; have aG : (aH) < (l0.length : Int) := DT; obtain ⟨aJ, aS, ag, ah, ai, aj, ak⟩ := at_T52 aQ.out (aH) aF aG; obtain rfl : al = aJ := (by injection aS); replace ag := BD HB.out ag; replace ah := BD HB.out ah; replace ai := BD HB.out ai; replace aj := BD HB.out aj; replace ak := BD HB.out ak; replace aF := eq_true aF; replace aG := eq_true aG)); try go_wp2_with (first | (go_at_call 100; (with_reducible refine (spec_IsValidVersion.calls k1 ((rd_T52 l0 aa).f0) ((rd_T52 l0 aa).f1) ((rd_T52 l0 aa).f2) ((rd_T52 l0 aa).f3) ((rd_T52 l0 aa).f4) true _ A4.out).mono ?_); rintro e bB ⟨rfl, hb⟩; replace HB := BW HB hb; (try clear hb); have aD : 0 ≤ (aa : Int) := DT; have aE : aa < (l0.length : Int) := DT; obtain ⟨aI, aR, ab, ac, ad, ae, af⟩ := at_T52 aQ.out aa aD aE; obtain rfl : al = aI := (by injection aR); replace ab := BD HB.out ab; replace ac := BD HB.out ac; replace ad := BD HB.out ad; replace ae := BD HB.out ae; replace af := BD HB.out af; replace aD := eq_true aD; replace aE := eq_true aE; have aF : 0 ≤ ((aH) : Int) := DT; have aG : (aH) < (l0.length : Int) := DT; obtain ⟨aJ, aS, ag, ah, ai, aj, ak⟩ := at_T52 aQ.out (aH) aF aG; obtain rfl : al = aJ := (by injection aS); replace ag := BD HB.out ag; replace ah := BD HB.out ah; replace ai := BD HB.out ai; replace aj := BD HB.out aj; replace ak := BD HB.out ak; replace aF := eq_true aF; replace aG := eq_true aG)))
    go_ret
    exact ⟨by first | rfl | (simp [errW_none, errW_some] <;> rfl) | (simp only [← aY]; first | rfl | (simp [errW_none, errW_some] <;> rfl)) | (simp [*, errW_none, errW_some] <;> rfl), BT HB.out⟩
   rw [if_neg c9] at H
   have bo : decide (((rd_T52 l0 (aH)).f2) ≤ ((rd_T52 l0 aa).f2)) = false := decide_eq_false c9
   clear c9
   by_cases bf : ((rd_T52 l0 aa).f4) > ((rd_T52 l0 (aH)).f2)
   ·rw [if_pos bf] at H
    have bi : decide (((rd_T52 l0 (aH)).f2) < ((rd_T52 l0 aa).f4)) = true := DE bf
    clear bf
    obtain rfl := SI H
    have aO : 0 ≤ (aa : Int) := DT
    have aP : aa < (l0.length : Int) := DT
    obtain ⟨al, aX, ay, az, aA, aB, aC⟩ := at_T52 aQ.out aa aO aP
    cases aX
    replace ay := BC HB.out ay
    replace az := BC HB.out az
    replace aA := BC HB.out aA
    replace aB := BC HB.out aB
    replace aC := BC HB.out aC
    replace aO := ET aO
    replace aP := ET aP
    go_wp2_with (first | (go_at_call 100; (with_reducible refine (spec_IsValidVersion.calls k1 ((rd_T52 l0 aa).f0) ((rd_T52 l0 aa).f1) ((rd_T52 l0 aa).f2) ((rd_T52 l0 aa).f3) ((rd_T52 l0 aa).f4) true _ A4.out).mono ?_); rintro e bC ⟨rfl, hb⟩; replace HB := BW HB hb; (try clear hb); have aD : 0 ≤ (aa : Int) := DT; have aE : aa < (l0.length : Int) := DT; obtain ⟨aI, aR, ab, ac, ad, ae, af⟩ := at_T52 aQ.out aa aD aE; obtain rfl : al = aI := (by injection aR); replace ab := BD HB.out ab; replace ac := BD HB.out ac; replace ad := BD HB.out ad; replace ae := BD HB.out ae; replace af := BD HB.out af; replace aD := eq_true aD; replace aE := eq_true aE; have aF : 0 ≤ ((aH) : Int) := DT; have aG : (aH) < (l0.length : Int) := DT; obtain ⟨aJ, aS, ag, ah, ai, aj, ak⟩ := at_T52 aQ.out (aH) aF aG; obtain rfl : al = aJ := (by injection aS); replace ag := BD HB.out ag; replace ah := BD HB.out ah; replace ai := BD HB.out ai; replace aj := BD HB.out aj; replace ak := BD HB.out ak; replace aF := eq_true aF; replace aG := eq_true aG; have aK : 0 ≤ (aa : Int) := DT; have aL : aa < (l0.length : Int) := DT; obtain ⟨aT, aV, am, an, ao, ap, aq⟩ := at_T52 aQ.out aa aK aL; obtain rfl : al = aT := (by injection aV); replace am := BD HB.out am; replace an := BD HB.out an; replace ao := BD HB.out ao; replace ap := BD HB.out ap; replace aq := BD HB.out aq; replace aK := eq_true aK; replace aL := eq_true aL; have aM : 0 ≤ ((aH) : Int) := DT; have aN : (aH) < (l0.length : Int) := DT; obtain ⟨aU, aW, ar, au, av, aw, ax⟩ := at_T52 aQ.out (aH) aM aN; obtain rfl : al = aU := (by injection aW); replace ar := BD HB.out ar; replace au := BD HB.out au; replace av := BD HB.out av; replace aw := BD HB.out aw; replace ax := BD HB.out ax; replace aM := eq_true aM; replace aN := eq_true aN))
    repeat (go_quiet (first | (go_at_call 100; (with_reducible refine (spec_IsValidVersion.calls k1 ((rd_T52 l0 aa).f0) ((rd_T52 l0 aa).f1) ((rd_T52 l0 aa).f2) ((rd_T52 l0 aa).f3) ((rd_T52 l0 aa).f4) true _ A4.out).mono ?_); rintro e bC ⟨rfl, hb⟩; replace HB := BW HB hb; (try clear hb); have aD : 0 ≤ (aa : Int) := DT; have aE : aa < (l0.length : Int) := DT; obtain ⟨aI, aR, ab, ac, ad, ae, af⟩ := at_T52 aQ.out aa aD aE; obtain rfl : al = aI := (by injection aR); replace ab := BD HB.out ab; replace ac := BD HB.out ac; replace ad := BD HB.out ad; replace ae := BD HB.out ae; replace af := BD HB.out af; replace aD := eq_true aD; replace aE := eq_true aE; have aF : 0 ≤ ((aH) : Int) := DT; have aG : (aH) < (l0.length : Int) := DT; obtain ⟨aJ, aS, ag, ah, ai, aj, ak⟩ := at_T52 aQ.out (aH) aF aG; obtain rfl : al = aJ := (by injection aS); replace ag := BD HB.out ag; replace ah := BD HB.out ah; replace ai := BD HB.out ai; replace aj := BD HB.out aj; replace ak := BD HB.out ak; replace aF := eq_true aF; replace aG := eq_true aG; have aK : 0 ≤ (aa : Int) := DT; have aL : aa < (l0.length : Int) := DT; obtain ⟨aT, aV, am, an, ao, ap, aq⟩ := at_T52 aQ.out aa aK aL; obtain rfl : al = aT := (by injection aV); replace am := BD HB.out am; replace an := BD HB.out an; replace ao := BD HB.out ao; replace ap := BD HB.out ap; replace aq := BD HB.out aq; replace aK := eq_true aK; replace aL := eq_true aL; have aM : 0 ≤ ((aH) : Int) := DT; have aN : (aH) < (l0.length : Int) := DT; obtain ⟨aU, aW, ar, au, av, aw, ax⟩ := at_T52 aQ.out (aH) aM aN; obtain rfl : al = aU := (by injection aW); replace ar := BD HB.out ar; replace au := BD HB.out au; replace av := BD HB.out av; replace aw := BD HB.out aw; replace ax := BD HB.out ax; replace aM := eq_true aM; replace aN := eq_true aN)); try go_wp2_with (first | (go_at_call 100; (with_reducible refine (spec_IsValidVersion.calls k1 ((rd_T52 l0 aa).f0) ((rd_T52 l0 aa).f1) ((rd_T52 l0 aa).f2) ((rd_T52 l0 aa).f3) ((rd_T52 l0 aa).f4) true _ A4.out).mono ?_); rintro e bC ⟨rfl, hb⟩; replace HB := BW HB hb; (try clear hb); have aD : 0 ≤ (aa : Int) := DT; have aE : aa < (l0.length : Int) := DT; obtain ⟨aI, aR, ab, ac, ad, ae, af⟩ := at_T52 aQ.out aa aD aE; obtain rfl : al = aI := (by injection aR); replace ab := BD HB.out ab; replace ac := BD HB.out ac; replace ad := BD HB.out ad; replace ae := BD HB.out ae; replace af := BD HB.out af; replace aD := eq_true aD; replace aE := eq_true aE; have aF : 0 ≤ ((aH) : Int) := DT; have aG : (aH) < (l0.length : Int) := DT; obtain ⟨aJ, aS, ag, ah, ai, aj, ak⟩ := at_T52 aQ.out (aH) aF aG; obtain rfl : al = aJ := (by injection aS); replace ag := BD HB.out ag; replace ah := BD HB.out ah; replace ai := BD HB.out ai; replace aj := BD HB.out aj; replace ak := BD HB.out ak; replace aF := eq_true aF; replace aG := eq_true aG; have aK : 0 ≤ (aa : Int) := DT; have aL : aa < (l0.length : Int) := DT; obtain ⟨aT, aV, am, an, ao, ap, aq⟩ := at_T52 aQ.out aa aK aL; obtain rfl : al = aT := (by injection aV); replace am := BD HB.out am; replace an := BD HB.out an; replace ao := BD HB.out ao; replace ap := BD HB.out ap; replace aq := BD HB.out aq; replace aK := eq_true aK; replace aL := eq_true aL; have aM : 0 ≤ ((aH) : Int) := DT; have aN : (aH) < (l0.length : Int) := DT; obtain ⟨aU, aW, ar, au, av, aw, ax⟩ := at_T52 aQ.out (aH) aM aN; obtain rfl : al = aU := (by injection aW); replace ar := BD HB.out ar; replace au := BD HB.out au; replace av := BD HB.out av; replace aw := BD HB.out aw; replace ax := BD HB.out ax; replace aM := eq_true aM; replace aN := eq_true aN)))
    go_ret
    exact ⟨by first | rfl | (simp [errW_none, errW_some] <;> rfl) | (simp only [← aY]; first | rfl | (simp [errW_none, errW_some] <;> rfl)) | (simp [*, errW_none, errW_some] <;> rfl), BT HB.out⟩
   rw [if_neg bf] at H
   have bi : decide (((rd_T52 l0 (aH)).f2) < ((rd_T52 l0 aa).f4)) = false := decide_eq_false bf
   clear bf
   have H' := AM_ H
   clear H
   have aO : 0 ≤ (aa : Int) := DT
   have aP : aa < (l0.length : Int) := DT
   obtain ⟨al, aX, ay, az, aA, aB, aC⟩ := at_T52 aQ.out aa aO aP
   cases aX
   replace ay := BC HB.out ay
   replace az := BC HB.out az
   replace aA := BC HB.out aA
   replace aB := BC HB.out aB
   replace aC := BC HB.out aC
   replace aO := ET aO
   replace aP := ET aP
   go_wp2_with (first | (go_at_call 100; (with_reducible refine (spec_IsValidVersion.calls k1 ((rd_T52 l0 aa).f0) ((rd_T52 l0 aa).f1) ((rd_T52 l0 aa).f2) ((rd_T52 l0 aa).f3) ((rd_T52 l0 aa).f4) true _ A4.out).mono ?_); rintro e bD ⟨rfl, hb⟩; replace HB := BW HB hb; (try clear hb); have aD : 0 ≤ (aa : Int) := DT; have aE : aa < (l0.length : Int) := DT; obtain ⟨aI, aR, ab, ac, ad, ae, af⟩ := at_T52 aQ.out aa aD aE; obtain rfl : al = aI := (by injection aR); replace ab := BD HB.out ab; replace ac := BD HB.out ac; replace ad := BD HB.out ad; replace ae := BD HB.out ae; replace af := BD HB.out af; replace aD := eq_true aD; replace aE := eq_true aE; have aF : 0 ≤ ((aH) : Int) := DT; have aG : (aH) < (l0.length : Int) := DT; obtain ⟨aJ, aS, ag, ah, ai, aj, ak⟩ := at_T52 aQ.out (aH) aF aG; obtain rfl : al = aJ := (by injection aS); replace ag := BD HB.out ag; replace ah := BD HB.out ah; replace ai := BD HB.out ai; replace aj := BD HB.out aj; replace ak := BD HB.out ak; replace aF := eq_true aF; replace aG := eq_true aG; have aK : 0 ≤ (aa : Int) := DT; have aL : aa < (l0.length : Int) := DT; obtain ⟨aT, aV, am, an, ao, ap, aq⟩ := at_T52 aQ.out aa aK aL; obtain rfl : al = aT := (by injection aV); replace am := BD HB.out am; replace an := BD HB.out an; replace ao := BD HB.out ao; replace ap := BD HB.out ap; replace aq := BD HB.out aq; replace aK := eq_true aK; replace aL := eq_true aL; have aM : 0 ≤ ((aH) : Int) := DT; have aN : (aH) < (l0.length : Int) := DT; obtain ⟨aU, aW, ar, au, av, aw, ax⟩ := at_T52 aQ.out (aH) aM aN; obtain rfl : al = aU := (by injection aW); replace ar := BD HB.out ar; replace au := BD HB.out au; replace av := BD HB.out av; replace aw := BD HB.out aw; replace ax := BD HB.out ax; replace aM := eq_true aM; replace aN := eq_true aN))
   repeat (go_quiet (first | (go_at_call 100; (with_reducible refine (spec_IsValidVersion.calls k1 ((rd_T52 l0 aa).f0) ((rd_T52 l0 aa).f1) ((rd_T52 l0 aa).f2) ((rd_T52 l0 aa).f3) ((rd_T52 l0 aa).f4) true _ A4.out).mono ?_); rintro e bD ⟨rfl, hb⟩; replace HB := BW HB hb; (try clear hb); have aD : 0 ≤ (aa : Int) := DT; have aE : aa < (l0.length : Int) := DT; obtain ⟨aI, aR, ab, ac, ad, ae, af⟩ := at_T52 aQ.out aa aD aE; obtain rfl : al = aI := (by injection aR); replace ab := BD HB.out ab; replace ac := BD HB.out ac; replace ad := BD HB.out ad; replace ae := BD HB.out ae; replace af := BD HB.out af; replace aD := eq_true aD; replace aE := eq_true aE; have aF : 0 ≤ ((aH) : Int) := DT; have aG : (aH) < (l0.length : Int) := DT; obtain ⟨aJ, aS, ag, ah, ai, aj, ak⟩ := at_T52 aQ.out (aH) aF aG; obtain rfl : al = aJ := (by injection aS); replace ag := BD HB.out ag; replace ah := BD HB.out ah; replace ai := BD HB.out ai; replace aj := BD HB.out aj; replace ak := BD HB.out ak; replace aF := eq_true aF; replace aG := eq_true aG; have aK : 0 ≤ (aa : Int) := DT; have aL : aa < (l0.length : Int) := DT; obtain ⟨aT, aV, am, an, ao, ap, aq⟩ := at_T52 aQ.out aa aK aL; obtain rfl : al = aT := (by injection aV); replace am := BD HB.out am; replace an := BD HB.out an; replace ao := BD HB.out ao; replace ap := BD HB.out ap; replace aq := BD HB.out aq; replace aK := eq_true aK; replace aL := eq_true aL; have aM : 0 ≤ ((aH) : Int) := DT; have aN : (aH) < (l0.length : Int) := DT; obtain ⟨aU, aW, ar, au, av, aw, ax⟩ := at_T52 aQ.out (aH) aM aN; obtain rfl : al = aU := (by injection aW); replace ar := BD HB.out ar; replace au := BD HB.out au; replace av := BD HB.out av; replace aw := BD HB.out aw; replace ax := BD HB.out ax; replace aM := eq_true aM; replace aN := eq_true aN)); try go_wp2_with (first | (go_at_call 100; (with_reducible refine (spec_IsValidVersion.calls k1 ((rd_T52 l0 aa).f0) ((rd_T52 l0 aa).f1) ((rd_T52 l0 aa).f2) ((rd_T52 l0 aa).f3) ((rd_T52 l0 aa).f4) true _ A4.out).mono ?_); rintro e bD ⟨rfl, hb⟩; replace HB := BW HB hb; (try clear hb); have aD : 0 ≤ (aa : Int) := DT; have aE : aa < (l0.length : Int) := DT; obtain ⟨aI, aR, ab, ac, ad, ae, af⟩ := at_T52 aQ.out aa aD aE; obtain rfl : al = aI := (by injection aR); replace ab := BD HB.out ab; replace ac := BD HB.out ac; replace ad := BD HB.out ad; replace ae := BD HB.out ae; replace af := BD HB.out af; replace aD := eq_true aD; replace aE := eq_true aE; have aF : 0 ≤ ((aH) : Int) := DT; have aG : (aH) < (l0.length : Int) := DT; obtain ⟨aJ, aS, ag, ah, ai, aj, ak⟩ := at_T52 aQ.out (aH) aF aG; obtain rfl : al = aJ := (by injection aS); replace ag := BD HB.out ag; replace ah := BD HB.out ah; replace ai := BD HB.out ai; replace aj := BD HB.out aj; replace ak := BD HB.out ak; replace aF := eq_true aF; replace aG := eq_true aG; have aK : 0 ≤ (aa : Int) := DT; have aL : aa < (l0.length : Int) := DT; obtain ⟨aT, aV, am, an, ao, ap, aq⟩ := at_T52 aQ.out aa aK aL; obtain rfl : al = aT := (by injection aV); replace am := BD HB.out am; replace an := BD HB.out an; replace ao := BD HB.out ao; replace ap := BD HB.out ap; replace aq := BD HB.out aq; replace aK := eq_true aK; replace aL := eq_true aL; have aM : 0 ≤ ((aH) : Int) := DT; have aN : (aH) < (l0.length : Int) := DT; obtain ⟨aU, aW, ar, au, av, aw, ax⟩ := at_T52 aQ.out (aH) aM aN; obtain rfl : al = aU := (by injection aW); replace ar := BD HB.out ar; replace au := BD HB.out au; replace av := BD HB.out av; replace aw := BD HB.out aw; replace ax := BD HB.out ax; replace aM := eq_true aM; replace aN := eq_true aN)))
   go_roundg k1
   case measure => have := bj.out; omega
   case rel => exact ⟨(aH), (by first | rfl | (simp; done) | (simp only [← aY] <;> (first | rfl | simp)) | (simp [*]; done)), H', ⟨by have := bj.out; omega⟩, ⟨BT HB.out⟩⟩

/-! ### spec_LatestVersion: function 21 -/
def spec_LatestVersion.f (k : Nat) (l0 : List (S52)) : Option (Int × Int × Int × Int × Int) := (spec_IsValidChain.f k l0).bind fun aa => (if aa = true then (if 0 ≤ (wrap64 ((l0.length : Int) - 1)) then (if (wrap64 ((l0.length : Int) - 1)) < (l0.length : Int) then (some ((rd_T52 l0 (wrap64 ((l0.length : Int) - 1))).f0, (rd_T52 l0 (wrap64 ((l0.length : Int) - 1))).f1, (rd_T52 l0 (wrap64 ((l0.length : Int) - 1))).f2, (rd_T52 l0 (wrap64 ((l0.length : Int) - 1))).f3, (rd_T52 l0 (wrap64 ((l0.length : Int) - 1))).f4)) else (none)) else (none)) else (some (0, 0, 0, 0, 0)))
theorem spec_LatestVersion.mono : ∀ a0 k, LeO (spec_LatestVersion.f k a0) (spec_LatestVersion.f (k + 1) a0) := by
 intro a0 k
 unfold spec_LatestVersion.f
 repeat' (with_reducible first | exact spec_IsValidChain.mono .. | exact LeO.refl _ | exact LeO.none _ | refine LeO.ite ?_ ?_ | refine LeO.bind ?_ (fun _ => ?_))
theorem spec_LatestVersion.calls (k : Nat) (A0 : Option Addr) (c0 : Nat) (l0 : List (S52)) (r1 : Int) (r2 : Int) (r3 : Int) (r4 : Int) (r5 : Int) (w : World) (aJ : Kd.C k52 w A0 l0.length l0) (aK : l0.length ≤ c0) (h : spec_LatestVersion.f k l0 = some (r1, r2, r3, r4, r5)) :
  Calls Try.prog 21 #[.slice A0 l0.length c0] w fun e w' => e = .returned (.agg #[.int .i64 r1, .int .i64 r2, .int .i64 r3, .int .i64 r4, .int .i64 r5]) ∧ Below w.heap.size w w' := by
 have aO := Try.underlying52
 have aL := AM_ aJ
 have aP := AM_ aK
 clear aJ aK
 have HB := AM_ (Below.refl w.heap.size w)
 have H : ((spec_IsValidChain.f k l0).bind fun ai => (if ai = true then (if 0 ≤ (wrap64 ((l0.length : Int) - 1)) then (if (wrap64 ((l0.length : Int) - 1)) < (l0.length : Int) then (some ((rd_T52 l0 (wrap64 ((l0.length : Int) - 1))).f0, (rd_T52 l0 (wrap64 ((l0.length : Int) - 1))).f1, (rd_T52 l0 (wrap64 ((l0.length : Int) - 1))).f2, (rd_T52 l0 (wrap64 ((l0.length : Int) - 1))).f3, (rd_T52 l0 (wrap64 ((l0.length : Int) - 1))).f4)) else (none)) else (none)) else (some (0, 0, 0, 0, 0)))) = some (r1, r2, r3, r4, r5) := h
 clear h
 obtain ⟨ai, A2, H⟩ := OB H
 go_enter Try.func21, Try.ntmps21
 go_upto_if 5 with (first | ((with_reducible refine G2 2 rfl ?_); refine BY 2 #[.int .i64 0, .int .i64 0, .int .i64 0, .int .i64 0, .int .i64 0] 52 HB ?_; clear HB; intro aj w7 aa aM HB) | ((with_reducible refine G1 64 rfl ?_); refine GC (some 4) Try.func64 #[.slice A0 l0.length c0] ?_; (with_reducible refine MB (spec_IsValidChain.calls k _ _ l0 ai _ (CC aL HB) aP.out A2.out) ?_); intro w8 hb; replace aa := BV aa hb; replace HB := BW HB hb; (try clear hb)))
 by_cases c3 : ai = true
 rotate_left
 ·replace c3 := Bool.eq_false_iff.mpr c3
  subst c3
  replace H := HF H
  simp only [Option.some.injEq, Prod.mk.injEq] at H
  obtain ⟨rfl, rfl, rfl, rfl, rfl⟩ := H
  obtain ⟨am, an, ao, ap, aq, ar, au, av, aw, ax⟩ := bk5 aa.out
  try go_wp2
  refine bodyPost_ret (results_cell_row rfl _ _ aj 52 #[.int .i64 0, .int .i64 0, .int .i64 0, .int .i64 0, .int .i64 0] (0, 0) _ rfl (by (with_reducible repeat (first | refine blk_drewN ?_ _ | refine blk_drew ?_ | refine blk_alloc ?_ _)); apply BP5; (with_reducible repeat (first | refine blk_drewN ?_ _ | refine blk_drew ?_ | refine blk_alloc ?_ _)); exact aa.out) Try.underlying52 rfl (by kernel_rfl)) rfl ?_
  exact QT (BT HB.out)
 subst c3
 replace H := HT H
 obtain ⟨ab, ah⟩ : ∃ j_ : Int, (wrap64 ((l0.length : Int) - 1)) = j_ := ⟨_, rfl⟩
 replace H : (if 0 ≤ (ab) then (if (ab) < (l0.length : Int) then (some ((rd_T52 l0 (ab)).f0, (rd_T52 l0 (ab)).f1, (rd_T52 l0 (ab)).f2, (rd_T52 l0 (ab)).f3, (rd_T52 l0 (ab)).f4)) else (none)) else (none)) = some (r1, r2, r3, r4, r5) := by first | (rw [ah] at H; exact H) | (simp only [ah] at H ⊢; exact H)
 (try rw [ah] at A2)
 have hji4w : (IntKind.i64.wrap ((l0.length : Int) - 1)) = ab := (i64_w _).trans ah
 replace H := HI H
 obtain ⟨c5, H⟩ := H
 have aQ := DE c5
 clear c5
 replace H := HI H
 obtain ⟨c6, H⟩ := H
 have aR := DE c6
 clear c6
 simp only [Option.some.injEq, Prod.mk.injEq] at H
 obtain ⟨rfl, rfl, rfl, rfl, rfl⟩ := H
 have ak : 0 ≤ ((ab) : Int) := DT
 have al : (ab) < (l0.length : Int) := DT
 obtain ⟨aN, ay, ac, ad, ae, af, ag⟩ := at_T52 aL.out (ab) ak al
 cases ay
 replace ac := BD HB.out ac
 replace ad := BD HB.out ad
 replace ae := BD HB.out ae
 replace af := BD HB.out af
 replace ag := BD HB.out ag
 replace ak := ET ak
 replace al := ET al
 obtain ⟨az, aA, aB, aC, aD, aE, aF, aG, aH, aI⟩ := bk5 aa.out
 try go_wp2
 refine bodyPost_ret (results_cell_row rfl _ _ aj 52 #[.int .i64 ((rd_T52 l0 (ab)).f0), .int .i64 ((rd_T52 l0 (ab)).f1), .int .i64 ((rd_T52 l0 (ab)).f2), .int .i64 ((rd_T52 l0 (ab)).f3), .int .i64 ((rd_T52 l0 (ab)).f4)] (0, 0) _ rfl (by (with_reducible repeat (first | refine blk_drewN ?_ _ | refine blk_drew ?_ | refine blk_alloc ?_ _)); apply BP5; (with_reducible repeat (first | refine blk_drewN ?_ _ | refine blk_drew ?_ | refine blk_alloc ?_ _)); exact aa.out) Try.underlying52 rfl (by kernel_rfl)) rfl ?_
 exact ⟨by first | rfl | (simp [errW_none, errW_some] <;> rfl) | (simp only [← ah]; first | rfl | (simp [errW_none, errW_some] <;> rfl)) | (simp [*, errW_none, errW_some] <;> rfl), BT HB.out⟩

/-! ### spec_IsValidStore: function 26 -/
def spec_IsValidStore.l0 : Nat → Int → List (List (S52)) → Option (Bool)
 | 0, _, _ => none
 | k + 1, x3, aa => if x3 < (aa.length : Int) then (if 0 ≤ x3 then ((spec_IsValidChain.f k (rd_L3 aa x3)).bind fun ab => (if ab = true then (if 0 < ((rd_L3 aa x3).length : Int) then (if ((rd_T52 (rd_L3 aa x3) 0).f2) > 0 then (if ((rd_L3 aa x3).length : Int) > 50 then (some false) else (spec_IsValidStore.l0 k (wrap64 (x3 + 1)) aa)) else (if ((rd_L3 aa x3).length : Int) > 50 then (some false) else (spec_IsValidStore.l0 k (wrap64 (x3 + 1)) aa))) else (none)) else (some false))) else (none)) else (some ((aa.length : Int) == 6))
def spec_IsValidStore.f (k : Nat) (aa : List (List (S52))) : Option (Bool) := spec_IsValidStore.l0 k 0 aa
theorem spec_IsValidStore.mono_l : ∀ k, (∀ y0 y1, LeO (spec_IsValidStore.l0 k y0 y1) (spec_IsValidStore.l0 (k + 1) y0 y1))
 | 0 => fun _ _ r h => by simp [spec_IsValidStore.l0] at h
 | k + 1 => by
  have aa := spec_IsValidStore.mono_l k
  all_goals intros; unfold spec_IsValidStore.l0
  all_goals repeat' (with_reducible first | exact aa .. | exact spec_IsValidChain.mono .. | exact LeO.refl _ | exact LeO.none _ | refine LeO.ite ?_ ?_ | refine LeO.bind ?_ (fun _ => ?_))
theorem spec_IsValidStore.mono : ∀ a0 k, LeO (spec_IsValidStore.f k a0) (spec_IsValidStore.f (k + 1) a0) := by
 intro a0 k
 have aa := spec_IsValidStore.mono_l k
 unfold spec_IsValidStore.f
 repeat' (with_reducible first | exact aa .. | exact spec_IsValidChain.mono .. | exact LeO.refl _ | exact LeO.none _ | refine LeO.ite ?_ ?_ | refine LeO.bind ?_ (fun _ => ?_))
theorem spec_IsValidStore.calls (k : Nat) (a5 : Option Addr) (a6 : Nat) (ag : List (List (S52))) (r : Bool) (w : World) (bb : Kd.C (Kd.slice 52 k52) w a5 ag.length ag) (bd : ag.length ≤ a6) (h : spec_IsValidStore.f k ag = some r) :
  Calls Try.prog 26 #[.agg #[.slice a5 ag.length a6]] w fun e w' => e = .returned (.bool r) ∧ Below w.heap.size w w' := by
 have b0 := Try.underlying34
 have aq := AM_ bb
 have bY := AM_ bd
 clear bb bd
 have HB := AM_ (Below.refl w.heap.size w)
 unfold spec_IsValidStore.f at h
 have H := h
 clear h
 have H' := AM_ H
 clear H
 go_enter Try.func26, Try.ntmps26
 go_wp2_with (first | ((with_reducible refine G2 1 rfl ?_); (try (refine gate_guard (by rfl) ?_; dsimp only)); refine BY 1 #[.slice a5 ag.length a6] 34 HB ?_; clear HB; intro bo w2 ai bZ HB))
 go_loopg [3] k (fun kq v3 w' => ∃ (aa : Int), v3 = .int .i64 aa ∧ Aside0 (spec_IsValidStore.l0 kq aa ag = some r) ∧ Aside0 (kq ≤ k) ∧ Aside0 (w'.heap[bo]? = some (.cells #[(.slice a5 ag.length a6)] 34 (0, 0))) ∧ Aside0 (Below w.heap.size w w'))
 case atStart => exact ⟨(0), (by first | rfl | (simp; done) | (simp [*]; done)), H', ⟨Nat.le_refl _⟩, ⟨BH ai.out⟩, ⟨BT HB.out⟩⟩
 case round =>
  clear H'
  obtain ⟨aa, rfl, HA, br, ai, HB⟩ := hrel
  cases gk with
  | zero => exact absurd HA.out (by simp [spec_IsValidStore.l0])
  | succ k1 =>
   have H := HA.out
   clear HA
   simp only [spec_IsValidStore.l0] at H
   by_cases c3 : aa < (ag.length : Int)
   rotate_left
   ·rw [if_neg c3] at H
    have bR := decide_eq_false c3
    clear c3
    obtain rfl := SI H
    obtain ⟨bu, bv⟩ := bk1 ai.out
    go_wp2
    go_ret
    exact QT (BT HB.out)
   rw [if_pos c3] at H
   have bR := DE c3
   clear c3
   replace H := HI H
   obtain ⟨c4, H⟩ := H
   have b1 := DE c4
   clear c4
   obtain ⟨bS, A5, H⟩ := OB H
   by_cases c6 : bS = true
   rotate_left
   ·replace c6 := Bool.eq_false_iff.mpr c6
    subst c6
    replace H := HF H
    obtain rfl := SI H
    obtain ⟨bw, bx⟩ := bk1 ai.out
    have au : 0 ≤ (aa : Int) := DT
    have av : aa < (ag.length : Int) := DT
    obtain ⟨ar, aw, ax, aK, aj, ak, al⟩ := at_L3 aq.out aa au av
    cases aK
    replace aj := BC HB.out aj
    have ao := AM_ al
    have ap := AM_ ak
    clear al ak
    replace au := ET au
    replace av := ET av
    go_wp2_with (first | ((with_reducible refine G1 64 rfl ?_); refine GC (some 16) Try.func64 #[.slice aw (rd_L3 ag aa).length ax] ?_; (with_reducible refine MB (spec_IsValidChain.calls k1 _ _ (rd_L3 ag aa) false _ (CC ao HB) ap.out A5.out) ?_); intro b3 hb; replace ai := BV ai hb; replace HB := BW HB hb; (try clear hb)))
    go_ret
    exact QT (BT HB.out)
   subst c6
   replace H := HT H
   replace H := HI H
   obtain ⟨c7, H⟩ := H
   have b2 := DE c7
   have c7b1 : decide (0 < (rd_L3 ag aa).length) = true := decide_eq_true (by omega)
   clear c7
   by_cases c8 : ((rd_T52 (rd_L3 ag aa) 0).f2) > 0
   rotate_left
   ·rw [if_neg c8] at H
    have bT : decide (0 < ((rd_T52 (rd_L3 ag aa) 0).f2)) = false := decide_eq_false c8
    clear c8
    by_cases bn : ((rd_L3 ag aa).length : Int) > 50
    ·rw [if_pos bn] at H
     have bp : decide (50 < ((rd_L3 ag aa).length : Int)) = true := DE bn
     have c16b1 : decide (50 < (rd_L3 ag aa).length) = true := decide_eq_true (by omega)
     clear bn
     obtain rfl := SI H
     obtain ⟨bz, bA⟩ := bk1 ai.out
     have au : 0 ≤ (aa : Int) := DT
     have av : aa < (ag.length : Int) := DT
     obtain ⟨ar, aw, ax, aK, aj, ak, al⟩ := at_L3 aq.out aa au av
     cases aK
     replace aj := BC HB.out aj
     have ao := AM_ al
     have ap := AM_ ak
     clear al ak
     replace au := ET au
     replace av := ET av
     go_wp2_with (first | ((with_reducible refine G1 64 rfl ?_); refine GC (some 16) Try.func64 #[.slice aw (rd_L3 ag aa).length ax] ?_; (with_reducible refine MB (spec_IsValidChain.calls k1 _ _ (rd_L3 ag aa) true _ (CC ao HB) ap.out A5.out) ?_); intro b4 hb; replace ai := BV ai hb; replace HB := BW HB hb; (try clear hb); obtain ⟨bB, bC⟩ := bk1 ai.out; have aB : 0 ≤ (aa : Int) := DT; have aC : aa < (ag.length : Int) := DT; obtain ⟨aJ, aN, aO, aP, ah, am, an⟩ := at_L3 aq.out aa aB aC; obtain rfl : ar = aJ := (by injection aP); replace ah := BD HB.out ah; have ay := AM_ an; have aL := AM_ am; clear an am; replace aB := eq_true aB; replace aC := eq_true aC; have aD : 0 ≤ (0 : Int) := (by omega); have aE : 0 < ((rd_L3 ag aa).length : Int) := DT; obtain ⟨aX, aQ, ab, ac, ad, ae, af⟩ := at_T52 ay.out 0 aD aE; cases aQ; have qi640 : (0 < (rd_L3 ag aa).length) = True := eq_true (by omega); (try rw [show ((0 : Int)).toNat = 0 from rfl] at ab); (try rw [show 0 * 5 = 0 from rfl] at ab); (try rw [Addr.add_zero'] at ab); (try rw [show ((0 : Int)).toNat = 0 from rfl] at ac); (try rw [show 0 * 5 = 0 from rfl] at ac); (try rw [Addr.add_zero'] at ac); (try rw [show ((0 : Int)).toNat = 0 from rfl] at ad); (try rw [show 0 * 5 = 0 from rfl] at ad); (try rw [Addr.add_zero'] at ad); (try rw [show ((0 : Int)).toNat = 0 from rfl] at ae); (try rw [show 0 * 5 = 0 from rfl] at ae); (try rw [Addr.add_zero'] at ae); (try rw [show ((0 : Int)).toNat = 0 from rfl] at af); (try rw [show 0 * 5 = 0 from rfl] at af); (try rw [Addr.add_zero'] at af); replace ab := BD HB.out ab; replace ac := BD HB.out ac; replace ad := BD HB.out ad; replace ae := BD HB.out ae; replace af := BD HB.out af; replace aD := eq_true aD; replace aE := eq_true aE; have aR : 0 ≤ (aa : Int) := DT; have aS : aa < (ag.length : Int) := DT; obtain ⟨aY, be, bf, bg, az, aF, aG⟩ := at_L3 aq.out aa aR aS; obtain rfl : ar = aY := (by injection bg); replace az := BD HB.out az; have a7 := AM_ aG; have a8 := AM_ aF; clear aG aF; replace aR := eq_true aR; replace aS := eq_true aS; have ea_ := Option.some.inj (ah.symm.trans az); injection ea_ with ea_ en_ ec_; subst ea_; subst ec_; clear en_))
     go_ret
     exact QT (BT HB.out)
    rw [if_neg bn] at H
    have bp : decide (50 < ((rd_L3 ag aa).length : Int)) = false := decide_eq_false bn
    have c16b1 : decide (50 < (rd_L3 ag aa).length) = false := decide_eq_false (by omega)
    clear bn
    have H' := AM_ H
    clear H
    obtain ⟨bD, bE⟩ := bk1 ai.out
    have au : 0 ≤ (aa : Int) := DT
    have av : aa < (ag.length : Int) := DT
    obtain ⟨ar, aw, ax, aK, aj, ak, al⟩ := at_L3 aq.out aa au av
    cases aK
    replace aj := BC HB.out aj
    have ao := AM_ al
    have ap := AM_ ak
    clear al ak
    replace au := ET au
    replace av := ET av
    go_wp2_with (first | ((with_reducible refine G1 64 rfl ?_); refine GC (some 16) Try.func64 #[.slice aw (rd_L3 ag aa).length ax] ?_; (with_reducible refine MB (spec_IsValidChain.calls k1 _ _ (rd_L3 ag aa) true _ (CC ao HB) ap.out A5.out) ?_); intro b6 hb; replace ai := BV ai hb; replace HB := BW HB hb; (try clear hb); obtain ⟨bF, bG⟩ := bk1 ai.out; have aB : 0 ≤ (aa : Int) := DT; have aC : aa < (ag.length : Int) := DT; obtain ⟨aJ, aN, aO, aP, ah, am, an⟩ := at_L3 aq.out aa aB aC; obtain rfl : ar = aJ := (by injection aP); replace ah := BD HB.out ah; have ay := AM_ an; have aL := AM_ am; clear an am; replace aB := eq_true aB; replace aC := eq_true aC; have aD : 0 ≤ (0 : Int) := (by omega); have aE : 0 < ((rd_L3 ag aa).length : Int) := DT; obtain ⟨aX, aQ, ab, ac, ad, ae, af⟩ := at_T52 ay.out 0 aD aE; cases aQ; have qi640 : (0 < (rd_L3 ag aa).length) = True := eq_true (by omega); (try rw [show ((0 : Int)).toNat = 0 from rfl] at ab); (try rw [show 0 * 5 = 0 from rfl] at ab); (try rw [Addr.add_zero'] at ab); (try rw [show ((0 : Int)).toNat = 0 from rfl] at ac); (try rw [show 0 * 5 = 0 from rfl] at ac); (try rw [Addr.add_zero'] at ac); (try rw [show ((0 : Int)).toNat = 0 from rfl] at ad); (try rw [show 0 * 5 = 0 from rfl] at ad); (try rw [Addr.add_zero'] at ad); (try rw [show ((0 : Int)).toNat = 0 from rfl] at ae); (try rw [show 0 * 5 = 0 from rfl] at ae); (try rw [Addr.add_zero'] at ae); (try rw [show ((0 : Int)).toNat = 0 from rfl] at af); (try rw [show 0 * 5 = 0 from rfl] at af); (try rw [Addr.add_zero'] at af); replace ab := BD HB.out ab; replace ac := BD HB.out ac; replace ad := BD HB.out ad; replace ae := BD HB.out ae; replace af := BD HB.out af; replace aD := eq_true aD; replace aE := eq_true aE; have aR : 0 ≤ (aa : Int) := DT; have aS : aa < (ag.length : Int) := DT; obtain ⟨aY, be, bf, bg, az, aF, aG⟩ := at_L3 aq.out aa aR aS; obtain rfl : ar = aY := (by injection bg); replace az := BD HB.out az; have a7 := AM_ aG; have a8 := AM_ aF; clear aG aF; replace aR := eq_true aR; replace aS := eq_true aS; have ea_ := Option.some.inj (ah.symm.trans az); injection ea_ with ea_ en_ ec_; subst ea_; subst ec_; clear en_))
    go_roundg k1
    case measure => have := br.out; omega
    case rel => exact ⟨(wrap64 (aa + 1)), (by first | rfl | (simp; done) | (simp [*]; done)), H', ⟨by have := br.out; omega⟩, ⟨BH ai.out⟩, ⟨BT HB.out⟩⟩
   rw [if_pos c8] at H
   have bT : decide (0 < ((rd_T52 (rd_L3 ag aa) 0).f2)) = true := DE c8
   clear c8
   by_cases c9 : ((rd_L3 ag aa).length : Int) > 50
   ·rw [if_pos c9] at H
    have bU : decide (50 < ((rd_L3 ag aa).length : Int)) = true := DE c9
    have c9b1 : decide (50 < (rd_L3 ag aa).length) = true := decide_eq_true (by omega)
    clear c9
    obtain rfl := SI H
    obtain ⟨bH, bI⟩ := bk1 ai.out
    have au : 0 ≤ (aa : Int) := DT
    have av : aa < (ag.length : Int) := DT
    obtain ⟨ar, aw, ax, aK, aj, ak, al⟩ := at_L3 aq.out aa au av
    cases aK
    replace aj := BC HB.out aj
    have ao := AM_ al
    have ap := AM_ ak
    clear al ak
    replace au := ET au
    replace av := ET av
    go_wp2_with (first | ((with_reducible refine G1 64 rfl ?_); refine GC (some 16) Try.func64 #[.slice aw (rd_L3 ag aa).length ax] ?_; (with_reducible refine MB (spec_IsValidChain.calls k1 _ _ (rd_L3 ag aa) true _ (CC ao HB) ap.out A5.out) ?_); intro b7 hb; replace ai := BV ai hb; replace HB := BW HB hb; (try clear hb); obtain ⟨bJ, bK⟩ := bk1 ai.out; have aB : 0 ≤ (aa : Int) := DT; have aC : aa < (ag.length : Int) := DT; obtain ⟨aJ, aN, aO, aP, ah, am, an⟩ := at_L3 aq.out aa aB aC; obtain rfl : ar = aJ := (by injection aP); replace ah := BD HB.out ah; have ay := AM_ an; have aL := AM_ am; clear an am; replace aB := eq_true aB; replace aC := eq_true aC; have aD : 0 ≤ (0 : Int) := (by omega); have aE : 0 < ((rd_L3 ag aa).length : Int) := DT; obtain ⟨aX, aQ, ab, ac, ad, ae, af⟩ := at_T52 ay.out 0 aD aE; cases aQ; have qi640 : (0 < (rd_L3 ag aa).length) = True := eq_true (by omega); (try rw [show ((0 : Int)).toNat = 0 from rfl] at ab); (try rw [show 0 * 5 = 0 from rfl] at ab); (try rw [Addr.add_zero'] at ab); (try rw [show ((0 : Int)).toNat = 0 from rfl] at ac); (try rw [show 0 * 5 = 0 from rfl] at ac); (try rw [Addr.add_zero'] at ac); (try rw [show ((0 : Int)).toNat = 0 from rfl] at ad); (try rw [show 0 * 5 = 0 from rfl] at ad); (try rw [Addr.add_zero'] at ad); (try rw [show ((0 : Int)).toNat = 0 from rfl] at ae); (try rw [show 0 * 5 = 0 from rfl] at ae); (try rw [Addr.add_zero'] at ae); (try rw [show ((0 : Int)).toNat = 0 from rfl] at af); (try rw [show 0 * 5 = 0 from rfl] at af); (try rw [Addr.add_zero'] at af); replace ab := BD HB.out ab; replace ac := BD HB.out ac; replace ad := BD HB.out ad; replace ae := BD HB.out ae; replace af := BD HB.out af; replace aD := eq_true aD; replace aE := eq_true aE; have aT : 0 ≤ (aa : Int) := DT; have aU : aa < (ag.length : Int) := DT; obtain ⟨aZ, bh, bi, bj, aA, aH, aI⟩ := at_L3 aq.out aa aT aU; obtain rfl : ar = aZ := (by injection bj); replace aA := BD HB.out aA; have a9 := AM_ aI; have ba := AM_ aH; clear aI aH; replace aT := eq_true aT; replace aU := eq_true aU; have ea_ := Option.some.inj (ah.symm.trans aA); injection ea_ with ea_ en_ ec_; subst ea_; subst ec_; clear en_))
    go_ret
    exact QT (BT HB.out)
   rw [if_neg c9] at H
   have bU : decide (50 < ((rd_L3 ag aa).length : Int)) = false := decide_eq_false c9
   have c9b1 : decide (50 < (rd_L3 ag aa).length) = false := decide_eq_false (by omega)
   clear c9
   have H' := AM_ H
   clear H
   obtain ⟨bL, bM⟩ := bk1 ai.out
   have au : 0 ≤ (aa : Int) := DT
   have av : aa < (ag.length : Int) := DT
   obtain ⟨ar, aw, ax, aK, aj, ak, al⟩ := at_L3 aq.out aa au av
   cases aK
   replace aj := BC HB.out aj
   have ao := AM_ al
   have ap := AM_ ak
   clear al ak
   replace au := ET au
   replace av := ET av
   go_wp2_with (first | ((with_reducible refine G1 64 rfl ?_); refine GC (some 16) Try.func64 #[.slice aw (rd_L3 ag aa).length ax] ?_; (with_reducible refine MB (spec_IsValidChain.calls k1 _ _ (rd_L3 ag aa) true _ (CC ao HB) ap.out A5.out) ?_); intro b8 hb; replace ai := BV ai hb; replace HB := BW HB hb; (try clear hb); obtain ⟨bN, bO⟩ := bk1 ai.out; have aB : 0 ≤ (aa : Int) := DT; have aC : aa < (ag.length : Int) := DT; obtain ⟨aJ, aN, aO, aP, ah, am, an⟩ := at_L3 aq.out aa aB aC; obtain rfl : ar = aJ := (by injection aP); replace ah := BD HB.out ah; have ay := AM_ an; have aL := AM_ am; clear an am; replace aB := eq_true aB; replace aC := eq_true aC; have aD : 0 ≤ (0 : Int) := (by omega); have aE : 0 < ((rd_L3 ag aa).length : Int) := DT; obtain ⟨aX, aQ, ab, ac, ad, ae, af⟩ := at_T52 ay.out 0 aD aE; cases aQ; have qi640 : (0 < (rd_L3 ag aa).length) = True := eq_true (by omega); (try rw [show ((0 : Int)).toNat = 0 from rfl] at ab); (try rw [show 0 * 5 = 0 from rfl] at ab); (try rw [Addr.add_zero'] at ab); (try rw [show ((0 : Int)).toNat = 0 from rfl] at ac); (try rw [show 0 * 5 = 0 from rfl] at ac); (try rw [Addr.add_zero'] at ac); (try rw [show ((0 : Int)).toNat = 0 from rfl] at ad); (try rw [show 0 * 5 = 0 from rfl] at ad); (try rw [Addr.add_zero'] at ad); (try rw [show ((0 : Int)).toNat = 0 from rfl] at ae); (try rw [show 0 * 5 = 0 from rfl] at ae); (try rw [Addr.add_zero'] at ae); (try rw [show ((0 : Int)).toNat = 0 from rfl] at af); (try rw [show 0 * 5 = 0 from rfl] at af); (try rw [Addr.add_zero'] at af); replace ab := BD HB.out ab; replace ac := BD HB.out ac; replace ad := BD HB.out ad; replace ae := BD HB.out ae; replace af := BD HB.out af; replace aD := eq_true aD; replace aE := eq_true aE; have aT : 0 ≤ (aa : Int) := DT; have aU : aa < (ag.length : Int) := DT; obtain ⟨aZ, bh, bi, bj, aA, aH, aI⟩ := at_L3 aq.out aa aT aU; obtain rfl : ar = aZ := (by injection bj); replace aA := BD HB.out aA; have a9 := AM_ aI; have ba := AM_ aH; clear aI aH; replace aT := eq_true aT; replace aU := eq_true aU; have ea_ := Option.some.inj (ah.symm.trans aA); injection ea_ with ea_ en_ ec_; subst ea_; subst ec_; clear en_; have bk : 0 ≤ (aa : Int) := DT; have bm : aa < (ag.length : Int) := DT; obtain ⟨bq, bV, bW, bX, aM, aV, aW⟩ := at_L3 aq.out aa bk bm; obtain rfl : ar = bq := (by injection bX); replace aM := BD HB.out aM; have bP := AM_ aW; have bQ := AM_ aV; clear aW aV; replace bk := eq_true bk; replace bm := eq_true bm; have ea_ := Option.some.inj (ah.symm.trans aM); injection ea_ with ea_ en_ ec_; subst ea_; subst ec_; clear en_))
   go_roundg k1
   case measure => have := br.out; omega
   case rel => exact ⟨(wrap64 (aa + 1)), (by first | rfl | (simp; done) | (simp [*]; done)), H', ⟨by have := br.out; omega⟩, ⟨BH ai.out⟩, ⟨BT HB.out⟩⟩

end Go.Proofs.Ytdgknikgfjhohaa.PFnSchemes
