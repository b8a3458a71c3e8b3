-- Printed by wip/myprint.py.
import Derived.Test.YtdgknikgfjhohaaPFnSchemesx16
namespace Go.Proofs.Ytdgknikgfjhohaa.PFnSchemes
open Go.RowKit Go.Proofs.YtdgknikgfjhohaaW.PrintWords Go.Proofs.YtdgknikgfjhohaaW.PrintLast Go.Proofs.YtdgknikgfjhohaaW.PrintMore
set_option maxHeartbeats 8000000
set_option maxRecDepth 100000
set_option linter.unusedVariables false
set_option linter.unusedSimpArgs false

/-! ### impl_IsValidTransaction: function 78 -/
mutual
def impl_IsValidTransaction.j0 : Nat → Bool → Int → Int → Int → Int → Int → Int → Int → List (S116) → List (S103) → Option (Bool)
 | 0, _, _, _, _, _, _, _, _, _, _ => none
 | k + 1, am, ae, af, ab, ag, ah, ai, aa, ac, ad => if am = true then (some false) else (if ab = 2 then ((impl_IsStamp.f aa).bind fun aj => (if aj = true then (impl_IsValidTransaction.j1 k false ae af ab ag ah ai aa ac ad) else (impl_IsValidTransaction.j1 k true ae af ab ag ah ai aa ac ad))) else (impl_IsValidTransaction.j1 k (aa != 0) ae af ab ag ah ai aa ac ad))
def impl_IsValidTransaction.j1 : Nat → Bool → Int → Int → Int → Int → Int → Int → Int → List (S116) → List (S103) → Option (Bool)
 | 0, _, _, _, _, _, _, _, _, _, _ => none
 | k + 1, an, ae, af, ab, ag, ah, ai, aa, ac, ad => if an = true then (some false) else ((impl_areReads.f k ac).bind fun ak => (if ak = true then ((impl_areWrites.f k ad).bind fun al => (some al)) else (some false)))
end
def impl_IsValidTransaction.f (k : Nat) (aa : Int) (ab : Int) (ac : Int) (ad : Int) (ae : Int) (af : Int) (ag : Int) (ah : List (S116)) (ai : List (S103)) : Option (Bool) := (impl_isID.f aa).bind fun aj => (if aj = true then ((impl_isScheme.f ab).bind fun ak => (if ak = true then ((impl_in.f ac 1 3).bind fun al => (if al = true then ((impl_in.f ad 0 999).bind fun am => (if am = true then ((impl_in.f ae 0 999).bind fun an => (if an = true then ((impl_in.f af 1 1000).bind fun ao => (impl_IsValidTransaction.j0 k (!ao) aa ab ac ad ae af ag ah ai)) else (impl_IsValidTransaction.j0 k true aa ab ac ad ae af ag ah ai))) else (impl_IsValidTransaction.j0 k true aa ab ac ad ae af ag ah ai))) else (impl_IsValidTransaction.j0 k true aa ab ac ad ae af ag ah ai))) else (impl_IsValidTransaction.j0 k true aa ab ac ad ae af ag ah ai))) else (impl_IsValidTransaction.j0 k true aa ab ac ad ae af ag ah ai))
theorem impl_IsValidTransaction.mono_l : ∀ k, (∀ y0 y1 y2 y3 y4 y5 y6 y7 y8 y9, LeO (impl_IsValidTransaction.j0 k y0 y1 y2 y3 y4 y5 y6 y7 y8 y9) (impl_IsValidTransaction.j0 (k + 1) y0 y1 y2 y3 y4 y5 y6 y7 y8 y9)) ∧ (∀ y0 y1 y2 y3 y4 y5 y6 y7 y8 y9, LeO (impl_IsValidTransaction.j1 k y0 y1 y2 y3 y4 y5 y6 y7 y8 y9) (impl_IsValidTransaction.j1 (k + 1) y0 y1 y2 y3 y4 y5 y6 y7 y8 y9))
 | 0 => ⟨fun _ _ _ _ _ _ _ _ _ _ r h => by simp [impl_IsValidTransaction.j0] at h, fun _ _ _ _ _ _ _ _ _ _ r h => by simp [impl_IsValidTransaction.j1] at h⟩
 | k + 1 => by
  obtain ⟨aa, ab⟩ := impl_IsValidTransaction.mono_l k
  refine ⟨?_, ?_⟩
  all_goals intros; first | unfold impl_IsValidTransaction.j0 | unfold impl_IsValidTransaction.j1
  all_goals repeat' (with_reducible first | exact aa .. | exact ab .. | exact impl_areReads.mono .. | exact impl_areWrites.mono .. | exact LeO.refl _ | exact LeO.none _ | refine LeO.ite ?_ ?_ | refine LeO.bind ?_ (fun _ => ?_))
theorem impl_IsValidTransaction.mono : ∀ a0 a1 a2 a3 a4 a5 a6 a7 a8 k, LeO (impl_IsValidTransaction.f k a0 a1 a2 a3 a4 a5 a6 a7 a8) (impl_IsValidTransaction.f (k + 1) a0 a1 a2 a3 a4 a5 a6 a7 a8) := by
 intro a0 a1 a2 a3 a4 a5 a6 a7 a8 k
 obtain ⟨aa, ab⟩ := impl_IsValidTransaction.mono_l k
 unfold impl_IsValidTransaction.f
 repeat' (with_reducible first | exact aa .. | exact ab .. | exact impl_areReads.mono .. | exact impl_areWrites.mono .. | exact LeO.refl _ | exact LeO.none _ | refine LeO.ite ?_ ?_ | refine LeO.bind ?_ (fun _ => ?_))
theorem impl_IsValidTransaction.calls (k : Nat) (ab : Int) (ae : Int) (ac : Int) (ag : Int) (aj : Int) (al : Int) (ah : Int) (am : Option Addr) (an : Nat) (ad : List (S116)) (cs : Option Addr) (ct : Nat) (af : List (S103)) (r : Bool) (w : World) (dv : Kd.C k116 w am ad.length ad) (dw : ad.length ≤ an) (dx : Kd.C k103 w cs af.length af) (dy : af.length ≤ ct) (h : impl_IsValidTransaction.f k ab ae ac ag aj al ah ad af = some r) :
  Calls Try.prog 78 #[.agg #[.int .i64 ab, .int .i64 ae, .int .i64 ac, .int .i64 ag, .int .i64 aj, .int .i64 al, .int .i64 ah, .slice am ad.length an, .slice cs af.length ct]] w fun e w' => e = .returned (.bool r) ∧ Below w.heap.size w w' := by
 have eU := Try.underlying48
 have dz := AM_ dv
 have dA := AM_ dw
 clear dv dw
 have dG := AM_ dx
 have dH := AM_ dy
 clear dx dy
 have HB := AM_ (Below.refl w.heap.size w)
 unfold impl_IsValidTransaction.f at h
 have H := h
 clear h
 have eF := AM_ H
 clear H
 go_enter Try.func78, Try.ntmps78
 go_upto_region 1 with (first | ((with_reducible refine G2 1 rfl ?_); refine BY 1 #[.int .i64 ab, .int .i64 ae, .int .i64 ac, .int .i64 ag, .int .i64 aj, .int .i64 al, .int .i64 ah, .slice am ad.length an, .slice cs af.length ct] 48 HB ?_; clear HB; intro dB w3 aa eQ HB))
 (try simp only [pA, pS, pZ, pK])
 go_cut [36] (fun eV wc => ∃ (kq : Nat) (ao : Bool), eV = .bool ao ∧ Aside0 (impl_IsValidTransaction.j0 kq ao ab ae ac ag aj al ah ad af = some r) ∧ Aside0 (kq ≤ k) ∧ Aside0 (wc.heap[dB]? = some (.cells #[.int .i64 ab, .int .i64 ae, .int .i64 ac, .int .i64 ag, .int .i64 aj, .int .i64 al, .int .i64 ah, (.slice am ad.length an), (.slice cs af.length ct)] 48 (0, 0))) ∧ Aside0 (Below w.heap.size w wc))
 case first =>
  have H := eF.out
  clear eF
  obtain ⟨eG, A4, H⟩ := OB H
  by_cases c5 : eG = true
  rotate_left
  ·replace c5 := Bool.eq_false_iff.mpr c5
   subst c5
   replace H := HF H
   have H' := AM_ H
   clear H
   obtain ⟨ap, aq, ar, au, av, aw, ax, ay, az, aA, aB, aC, aD, aE, aF, aG, aH, aI⟩ := bk9 aa.out
   go_wp2_with (first | ((with_reducible refine G1 77 rfl ?_); refine GC (some 5) Try.func77 #[.int .i64 ab] ?_; (with_reducible refine MQ (impl_isID.calls ab false _ A4.out) ?_); intro nd))
   go_meet
   case rel => exact ⟨_, (true), (by first | rfl | (simp; done) | (simp [*]; done)), H', ⟨by first | omega | exact Nat.le_refl _⟩, ⟨BH aa.out⟩, ⟨BT HB.out⟩⟩
  subst c5
  replace H := HT H
  obtain ⟨eH, A6, H⟩ := OB H
  by_cases c7 : eH = true
  rotate_left
  ·replace c7 := Bool.eq_false_iff.mpr c7
   subst c7
   replace H := HF H
   have H' := AM_ H
   clear H
   obtain ⟨aJ, aK, aL, aM, aN, aO, aP, aQ, aR, aS, aT, aU, aV, aW, aX, aY, aZ, ba⟩ := bk9 aa.out
   go_wp2_with (first | ((with_reducible refine G1 77 rfl ?_); refine GC (some 5) Try.func77 #[.int .i64 ab] ?_; (with_reducible refine MQ (impl_isID.calls ab true _ A4.out) ?_); intro nd) | (go_at_call 109; (with_reducible refine (impl_isScheme.calls ae false _ A6.out).mono ?_); rintro e w' ⟨rfl, ⟨nd, rfl⟩⟩))
   go_meet
   case rel => exact ⟨_, (true), (by first | rfl | (simp; done) | (simp [*]; done)), H', ⟨by first | omega | exact Nat.le_refl _⟩, ⟨BH aa.out⟩, ⟨BT HB.out⟩⟩
  subst c7
  replace H := HT H
  obtain ⟨eI, A8, H⟩ := OB H
  by_cases c9 : eI = true
  rotate_left
  ·replace c9 := Bool.eq_false_iff.mpr c9
   subst c9
   replace H := HF H
   have H' := AM_ H
   clear H
   obtain ⟨bb, bd, be, bf, bg, bh, bi, bj, bk, bm, bn, bo, bp, bq, br, bu, bv, bw⟩ := bk9 aa.out
   go_wp2_with (first | ((with_reducible refine G1 77 rfl ?_); refine GC (some 5) Try.func77 #[.int .i64 ab] ?_; (with_reducible refine MQ (impl_isID.calls ab true _ A4.out) ?_); intro nd) | (go_at_call 109; (with_reducible refine (impl_isScheme.calls ae true _ A6.out).mono ?_); rintro e w' ⟨rfl, ⟨nd, rfl⟩⟩) | (go_at_call 41; (with_reducible refine (impl_in.calls ac 1 3 false _ A8.out).mono ?_); rintro e w' ⟨rfl, ⟨nd, rfl⟩⟩))
   go_meet
   case rel => exact ⟨_, (true), (by first | rfl | (simp; done) | (simp [*]; done)), H', ⟨by first | omega | exact Nat.le_refl _⟩, ⟨BH aa.out⟩, ⟨BT HB.out⟩⟩
  subst c9
  replace H := HT H
  obtain ⟨eJ, eK, H⟩ := OB H
  by_cases dE : eJ = true
  rotate_left
  ·replace dE := Bool.eq_false_iff.mpr dE
   subst dE
   replace H := HF H
   have H' := AM_ H
   clear H
   obtain ⟨bx, bz, bA, bB, bC, bD, bE, bF, bG, bH, bI, bJ, bK, bL, bM, bN, bO, bP⟩ := bk9 aa.out
   go_wp2_with (first | ((with_reducible refine G1 77 rfl ?_); refine GC (some 5) Try.func77 #[.int .i64 ab] ?_; (with_reducible refine MQ (impl_isID.calls ab true _ A4.out) ?_); intro nd) | (go_at_call 109; (with_reducible refine (impl_isScheme.calls ae true _ A6.out).mono ?_); rintro e w' ⟨rfl, ⟨nd, rfl⟩⟩) | (go_at_call 41; (with_reducible refine (impl_in.calls ac 1 3 true _ A8.out).mono ?_); rintro e w' ⟨rfl, ⟨nd, rfl⟩⟩) | (go_at_call 41; (with_reducible refine (impl_in.calls ag 0 999 false _ eK.out).mono ?_); rintro e w' ⟨rfl, ⟨nd, rfl⟩⟩))
   go_meet
   case rel => exact ⟨_, (true), (by first | rfl | (simp; done) | (simp [*]; done)), H', ⟨by first | omega | exact Nat.le_refl _⟩, ⟨BH aa.out⟩, ⟨BT HB.out⟩⟩
  subst dE
  replace H := HT H
  obtain ⟨eL, eR, H⟩ := OB H
  by_cases dF : eL = true
  rotate_left
  ·replace dF := Bool.eq_false_iff.mpr dF
   subst dF
   replace H := HF H
   have H' := AM_ H
   clear H
   obtain ⟨bQ, bR, bS, bT, bU, bV, bW, bX, bY, bZ, b0, b1, b2, b3, b4, b6, b7, b8⟩ := bk9 aa.out
   go_wp2_with (first | ((with_reducible refine G1 77 rfl ?_); refine GC (some 5) Try.func77 #[.int .i64 ab] ?_; (with_reducible refine MQ (impl_isID.calls ab true _ A4.out) ?_); intro nd) | (go_at_call 109; (with_reducible refine (impl_isScheme.calls ae true _ A6.out).mono ?_); rintro e w' ⟨rfl, ⟨nd, rfl⟩⟩) | (go_at_call 41; (with_reducible refine (impl_in.calls ac 1 3 true _ A8.out).mono ?_); rintro e w' ⟨rfl, ⟨nd, rfl⟩⟩) | (go_at_call 41; (with_reducible refine (impl_in.calls ag 0 999 true _ eK.out).mono ?_); rintro e w' ⟨rfl, ⟨nd, rfl⟩⟩) | (go_at_call 41; (with_reducible refine (impl_in.calls aj 0 999 false _ eR.out).mono ?_); rintro e w' ⟨rfl, ⟨nd, rfl⟩⟩))
   go_meet
   case rel => exact ⟨_, (true), (by first | rfl | (simp; done) | (simp [*]; done)), H', ⟨by first | omega | exact Nat.le_refl _⟩, ⟨BH aa.out⟩, ⟨BT HB.out⟩⟩
  subst dF
  replace H := HT H
  obtain ⟨dI, eW, H⟩ := OB H
  have H' := AM_ H
  clear H
  obtain ⟨ca, cb, cc, cd, ce, cf, cg, ch, ci, cj, ck, cl, cm, cn, co, cp, cq, cr⟩ := bk9 aa.out
  go_wp2_with (first | ((with_reducible refine G1 77 rfl ?_); refine GC (some 5) Try.func77 #[.int .i64 ab] ?_; (with_reducible refine MQ (impl_isID.calls ab true _ A4.out) ?_); intro nd) | (go_at_call 109; (with_reducible refine (impl_isScheme.calls ae true _ A6.out).mono ?_); rintro e w' ⟨rfl, ⟨nd, rfl⟩⟩) | (go_at_call 41; (with_reducible refine (impl_in.calls ac 1 3 true _ A8.out).mono ?_); rintro e w' ⟨rfl, ⟨nd, rfl⟩⟩) | (go_at_call 41; (with_reducible refine (impl_in.calls ag 0 999 true _ eK.out).mono ?_); rintro e w' ⟨rfl, ⟨nd, rfl⟩⟩) | (go_at_call 41; (with_reducible refine (impl_in.calls aj 0 999 true _ eR.out).mono ?_); rintro e w' ⟨rfl, ⟨nd, rfl⟩⟩) | (go_at_call 41; (with_reducible refine (impl_in.calls al 1 1000 dI _ eW.out).mono ?_); rintro e w' ⟨rfl, ⟨nd, rfl⟩⟩))
  go_meet
  case rel => exact ⟨_, (!dI), (by first | rfl | (simp; done) | (simp [*]; done)), H', ⟨by first | omega | exact Nat.le_refl _⟩, ⟨BH aa.out⟩, ⟨BT HB.out⟩⟩
 case rest =>
  clear eF
  try clear c5
  try clear c7
  try clear c9
  try clear dE
  try clear dF
  try clear ca cb cc cd ce cf cg ch ci
  try clear bQ bR bS bT bU bV bW bX bY
  try clear bx bz bA bB bC bD bE bF bG
  try clear bb bd be bf bg bh bi bj bk
  try clear aJ aK aL aM aN aO aP aQ aR
  try clear ap aq ar au av aw ax ay az
  try clear cj ck cl cm cn co cp cq cr
  try clear bZ b0 b1 b2 b3 b4 b6 b7 b8
  try clear bH bI bJ bK bL bM bN bO bP
  try clear bm bn bo bp bq br bu bv bw
  try clear aS aT aU aV aW aX aY aZ ba
  try clear aA aB aC aD aE aF aG aH aI
  obtain ⟨kq, ao, rfl, HA, eM, aa, HB⟩ := hcut
  cases kq with
  | zero => exact absurd HA.out (by simp [impl_IsValidTransaction.j0])
  | succ kj1 =>
   have H := HA.out
   clear HA
   simp only [impl_IsValidTransaction.j0] at H
   by_cases dJ : ao = true
   ·subst dJ
    replace H := HT H
    obtain rfl := SI H
    go_wp2
    go_ret
    exact QT (BT HB.out)
   replace dJ := Bool.eq_false_iff.mpr dJ
   subst dJ
   replace H := HF H
   have dD := AM_ H
   clear H
   go_upto_region 3 with (fail)
   go_cut [55] (fun eX wc => ∃ (kq : Nat) (ak : Bool), eX = .bool ak ∧ Aside0 (impl_IsValidTransaction.j1 kq ak ab ae ac ag aj al ah ad af = some r) ∧ Aside0 (kq ≤ kj1) ∧ Aside0 (wc.heap[dB]? = some (.cells #[.int .i64 ab, .int .i64 ae, .int .i64 ac, .int .i64 ag, .int .i64 aj, .int .i64 al, .int .i64 ah, (.slice am ad.length an), (.slice cs af.length ct)] 48 (0, 0))) ∧ Aside0 (Below w.heap.size w wc))
   case first =>
    have H := dD.out
    clear dD
    by_cases dC : ac = 2
    rotate_left
    ·rw [if_neg dC] at H
     have ai : (ac == 2) = false := beq_eq_false_iff_ne.mpr dC
     have c23b1 : (ac != 2) = true := bne_iff_ne.mpr dC
     (first | rw [ai] | (simp only [i64_w, i32_w]; rw [ai]) | skip)
     have H' := AM_ H
     clear H
     obtain ⟨cu, cv, cw, cx, cy, cz, cA, cB, cC, cD, cE, cF, cG, cH, cI, cJ, cK, cL⟩ := bk9 aa.out
     go_wp2
     go_meet
     case rel => exact ⟨_, ((ah != 0)), (by first | rfl | (simp; done) | (simp [*]; done)), H', ⟨by have := eM.out; first | omega | exact Nat.le_refl _⟩, ⟨BH aa.out⟩, ⟨BT HB.out⟩⟩
    rw [if_pos dC] at H
    have ai : (ac == 2) = true := beq_iff_eq.mpr dC
    have c23b1 : (ac != 2) = false := bne_eq_false_iff_eq.mpr dC
    clear dC
    (first | rw [ai] | (simp only [i64_w, i32_w]; rw [ai]) | skip)
    obtain ⟨eN, eS, H⟩ := OB H
    by_cases dK : eN = true
    ·subst dK
     replace H := HT H
     have H' := AM_ H
     clear H
     obtain ⟨cM, cN, cO, cP, cQ, cR, cS, cT, cU, cV, cW, cX, cY, cZ, c1, c8, da, db⟩ := bk9 aa.out
     go_wp2_with (first | (go_at_call 110; (with_reducible refine (impl_IsStamp.calls ah true _ eS.out).mono ?_); rintro e w' ⟨rfl, ⟨nd, rfl⟩⟩))
     go_meet
     case rel => exact ⟨_, (false), (by first | rfl | (simp; done) | (simp [*]; done)), H', ⟨by have := eM.out; first | omega | exact Nat.le_refl _⟩, ⟨BH aa.out⟩, ⟨BT HB.out⟩⟩
    replace dK := Bool.eq_false_iff.mpr dK
    subst dK
    replace H := HF H
    have H' := AM_ H
    clear H
    obtain ⟨dc, dd, de, df, dg, dh, di, dj, dk, dl, dm, dn, dp, dq, dr, ds, dt, du⟩ := bk9 aa.out
    go_wp2_with (first | (go_at_call 110; (with_reducible refine (impl_IsStamp.calls ah false _ eS.out).mono ?_); rintro e w' ⟨rfl, ⟨nd, rfl⟩⟩))
    go_meet
    case rel => exact ⟨_, (true), (by first | rfl | (simp; done) | (simp [*]; done)), H', ⟨by have := eM.out; first | omega | exact Nat.le_refl _⟩, ⟨BH aa.out⟩, ⟨BT HB.out⟩⟩
   case rest =>
    clear dD
    try clear c5
    try clear c7
    try clear c9
    try clear dE
    try clear dF
    try clear dJ
    try clear dC
    try clear ai
    try clear c23b1
    try clear dK
    try clear ca cb cc cd ce cf cg ch ci
    try clear bQ bR bS bT bU bV bW bX bY
    try clear bx bz bA bB bC bD bE bF bG
    try clear bb bd be bf bg bh bi bj bk
    try clear aJ aK aL aM aN aO aP aQ aR
    try clear ap aq ar au av aw ax ay az
    try clear cM cN cO cP cQ cR cS cT cU
    try clear dc dd de df dg dh di dj dk
    try clear cu cv cw cx cy cz cA cB cC
    try clear cj ck cl cm cn co cp cq cr
    try clear bZ b0 b1 b2 b3 b4 b6 b7 b8
    try clear bH bI bJ bK bL bM bN bO bP
    try clear bm bn bo bp bq br bu bv bw
    try clear aS aT aU aV aW aX aY aZ ba
    try clear aA aB aC aD aE aF aG aH aI
    try clear cV cW cX cY cZ c1 c8 da db
    try clear dl dm dn dp dq dr ds dt du
    try clear cD cE cF cG cH cI cJ cK cL
    obtain ⟨kq, ak, rfl, HA, eY, aa, HB⟩ := hcut
    cases kq with
    | zero => exact absurd HA.out (by simp [impl_IsValidTransaction.j1])
    | succ kj21 =>
     have H := HA.out
     clear HA
     simp only [impl_IsValidTransaction.j1] at H
     by_cases dL : ak = true
     ·subst dL
      replace H := HT H
      obtain rfl := SI H
      go_wp2
      go_ret
      exact QT (BT HB.out)
     replace dL := Bool.eq_false_iff.mpr dL
     subst dL
     replace H := HF H
     obtain ⟨eO, eT, H⟩ := OB H
     by_cases dM : eO = true
     rotate_left
     ·replace dM := Bool.eq_false_iff.mpr dM
      subst dM
      replace H := HF H
      obtain rfl := SI H
      obtain ⟨dN, dO, dP, dQ, dR, dS, dT, dU, dV, dW, dX, dY, dZ, d0, d1, d2, d3, d4⟩ := bk9 aa.out
      go_wp2_with (first | ((with_reducible refine G1 111 rfl ?_); refine GC (some 58) Try.func111 #[.slice am ad.length an] ?_; (with_reducible refine MB (impl_areReads.calls kj21 _ _ ad false _ (CC dz HB) dA.out eT.out) ?_); intro e0 hb; replace aa := BV aa hb; replace HB := BW HB hb; (try clear hb)))
      go_ret
      exact QT (BT HB.out)
     subst dM
     replace H := HT H
     obtain ⟨eP, eZ, H⟩ := OB H
     obtain rfl := SI H
     obtain ⟨d5, d6, d7, d8, d9, ea, eb, ec, ed, ee, ef, eg, eh, ei, ej, ek, el, em⟩ := bk9 aa.out
     go_wp2_with (first | ((with_reducible refine G1 111 rfl ?_); refine GC (some 58) Try.func111 #[.slice am ad.length an] ?_; (with_reducible refine MB (impl_areReads.calls kj21 _ _ ad true _ (CC dz HB) dA.out eT.out) ?_); intro e1 hb; replace aa := BV aa hb; replace HB := BW HB hb; (try clear hb); obtain ⟨en, eo, ep, eq, er, es, et, eu, ev, ew, ex, ey, ez, eA, eB, eC, eD, eE⟩ := bk9 aa.out) | (go_at_call 112; (with_reducible refine (impl_areWrites.calls kj21 _ _ af eP _ (CC dG HB) dH.out eZ.out).mono ?_); rintro e e2 ⟨rfl, hb⟩; replace aa := BV aa hb; replace HB := BW HB hb; (try clear hb)))
     go_ret
     exact QT (BT HB.out)

/-! ### impl_Transaction_isActive: function 55 -/
def impl_Transaction_isActive.f (k : Nat) (ab : Int) (ac : Int) (aa : Int) (ad : Int) (ae : Int) (af : Int) (ag : Int) (ah : List (S116)) (ai : List (S103)) : Option (Bool) := if aa = 1 then ((impl_IsValidTransaction.f k ab ac aa ad ae af ag ah ai).bind fun aj => (some aj)) else (some false)
theorem impl_Transaction_isActive.mono : ∀ a0 a1 a2 a3 a4 a5 a6 a7 a8 k, LeO (impl_Transaction_isActive.f k a0 a1 a2 a3 a4 a5 a6 a7 a8) (impl_Transaction_isActive.f (k + 1) a0 a1 a2 a3 a4 a5 a6 a7 a8) := by
 intro a0 a1 a2 a3 a4 a5 a6 a7 a8 k
 unfold impl_Transaction_isActive.f
 repeat' (with_reducible first | exact impl_IsValidTransaction.mono .. | exact LeO.refl _ | exact LeO.none _ | refine LeO.ite ?_ ?_ | refine LeO.bind ?_ (fun _ => ?_))
theorem impl_Transaction_isActive.calls (k : Nat) (ae : Int) (af : Int) (aa : Int) (ag : Int) (ah : Int) (ai : Int) (aj : Int) (ak : Option Addr) (al : Nat) (ab : List (S116)) (am : Option Addr) (an : Nat) (ac : List (S103)) (r : Bool) (w : World) (ao : Kd.C k116 w ak ab.length ab) (ap : ab.length ≤ al) (aq : Kd.C k103 w am ac.length ac) (ar : ac.length ≤ an) (h : impl_Transaction_isActive.f k ae af aa ag ah ai aj ab ac = some r) :
  Calls Try.prog 55 #[.agg #[.int .i64 ae, .int .i64 af, .int .i64 aa, .int .i64 ag, .int .i64 ah, .int .i64 ai, .int .i64 aj, .slice ak ab.length al, .slice am ac.length an]] w fun e w' => e = .returned (.bool r) ∧ Below w.heap.size w w' := by
 have bo := Try.underlying48
 have au := AM_ ao
 have av := AM_ ap
 clear ao ap
 have aw := AM_ aq
 have ax := AM_ ar
 clear aq ar
 have HB := AM_ (Below.refl w.heap.size w)
 unfold impl_Transaction_isActive.f at h
 have H := h
 clear h
 by_cases c2 : aa = 1
 rotate_left
 ·rw [if_neg c2] at H
  have aA : (aa == 1) = false := beq_eq_false_iff_ne.mpr c2
  have c2b1 : (aa != 1) = true := bne_iff_ne.mpr c2
  obtain rfl := SI H
  go_enter Try.func55, Try.ntmps55
  go_wp2_with (first | ((with_reducible refine G2 1 rfl ?_); refine BY 1 #[.int .i64 ae, .int .i64 af, .int .i64 aa, .int .i64 ag, .int .i64 ah, .int .i64 ai, .int .i64 aj, .slice ak ab.length al, .slice am ac.length an] 48 HB ?_; clear HB; intro ay w7 ad az HB; obtain ⟨aB, aC, aD, aE, aF, aG, aH, aI, aJ, aK, aL, aM, aN, aO, aP, aQ, aR, aS⟩ := bk9 ad.out))
  go_ret
  exact QT (BT HB.out)
 rw [if_pos c2] at H
 have aA : (aa == 1) = true := beq_iff_eq.mpr c2
 have c2b1 : (aa != 1) = false := bne_eq_false_iff_eq.mpr c2
 clear c2
 obtain ⟨aT, A3, H⟩ := OB H
 obtain rfl := SI H
 go_enter Try.func55, Try.ntmps55
 go_wp2_with (first | ((with_reducible refine G2 1 rfl ?_); refine BY 1 #[.int .i64 ae, .int .i64 af, .int .i64 aa, .int .i64 ag, .int .i64 ah, .int .i64 ai, .int .i64 aj, .slice ak ab.length al, .slice am ac.length an] 48 HB ?_; clear HB; intro ay w4 ad az HB; obtain ⟨aU, aV, aW, aX, aY, aZ, ba, bb, bd, be, bf, bg, bh, bi, bj, bk, bm, bn⟩ := bk9 ad.out) | (go_at_call 78; (with_reducible refine (impl_IsValidTransaction.calls k ae af aa ag ah ai aj _ _ ab _ _ ac aT _ (CC au HB) av.out (CC aw HB) ax.out A3.out).mono ?_); rintro e w6 ⟨rfl, hb⟩; replace ad := BV ad hb; replace HB := BW HB hb; (try clear hb)))
 go_ret
 exact QT (BT HB.out)

/-! ### impl_versionAt: function 93 -/
def impl_versionAt.l0 : Nat → List (S52) → Int → Int → Option (Int)
 | 0, _, _, _ => none
 | k + 1, x0, x1, x5 => if x5 ≥ 0 then (if 0 ≤ x5 then (if x5 < (x0.length : Int) then (if ((rd_T52 x0 x5).f2) > x1 then (impl_versionAt.l0 k x0 x1 (wrap64 (x5 - 1))) else (some x5)) else (none)) else (none)) else (some x5)
def impl_versionAt.f (k : Nat) (l0 : List (S52)) (a1 : Int) : Option (Int) := impl_versionAt.l0 k l0 a1 (wrap64 ((l0.length : Int) - 1))
theorem impl_versionAt.mono_l : ∀ k, (∀ y0 y1 y2, LeO (impl_versionAt.l0 k y0 y1 y2) (impl_versionAt.l0 (k + 1) y0 y1 y2))
 | 0 => fun _ _ _ r h => by simp [impl_versionAt.l0] at h
 | k + 1 => by
  have aa := impl_versionAt.mono_l k
  all_goals intros; unfold impl_versionAt.l0
  all_goals repeat' (with_reducible first | exact aa .. | exact LeO.refl _ | exact LeO.none _ | refine LeO.ite ?_ ?_ | refine LeO.bind ?_ (fun _ => ?_))
theorem impl_versionAt.mono : ∀ a0 a1 k, LeO (impl_versionAt.f k a0 a1) (impl_versionAt.f (k + 1) a0 a1) := by
 intro a0 a1 k
 have aa := impl_versionAt.mono_l k
 unfold impl_versionAt.f
 repeat' (with_reducible first | exact aa .. | exact LeO.refl _ | exact LeO.none _ | refine LeO.ite ?_ ?_ | refine LeO.bind ?_ (fun _ => ?_))
theorem impl_versionAt.calls (k : Nat) (A0 : Option Addr) (c0 : Nat) (l0 : List (S52)) (a1 : Int) (r : Int) (w : World) (am : Kd.C k52 w A0 l0.length l0) (an : l0.length ≤ c0) (h : impl_versionAt.f k l0 a1 = some r) :
  Calls Try.prog 93 #[.slice A0 l0.length c0, .int .i64 a1] w fun e w' => e = .returned (.int .i64 r) ∧ Drawn0 w w' := by
 have ao := AM_ am
 have au := AM_ an
 clear am an
 unfold impl_versionAt.f at h
 have H := h
 clear h
 have H' := AM_ H
 clear H
 go_enter Try.func93, Try.ntmps93
 go_wp2
 go_loopg [5] k (fun kq v5 w' => ∃ (aa : Int), v5 = .int .i64 aa ∧ Aside0 (impl_versionAt.l0 kq l0 a1 aa = some r) ∧ Aside0 (kq ≤ k) ∧ Drawn0 w w')
 case atStart => exact ⟨(wrap64 ((l0.length : Int) - 1)), (by first | rfl | (simp; done) | (simp [*]; done)), H', ⟨Nat.le_refl _⟩, by repeat (first | exact Drawn0.refl _ | apply Drawn0.step)⟩
 case round =>
  clear H'
  obtain ⟨aa, rfl, HA, ap, ⟨m1, rfl⟩⟩ := hrel
  cases gk with
  | zero => exact absurd HA.out (by simp [impl_versionAt.l0])
  | succ k1 =>
   have H := HA.out
   clear HA
   simp only [impl_versionAt.l0] at H
   by_cases c3 : aa ≥ 0
   rotate_left
   ·rw [if_neg c3] at H
    have ak : decide (0 ≤ aa) = false := decide_eq_false c3
    clear c3
    obtain rfl := SI H
    go_wp2
    go_ret
    exact ⟨by first | rfl | (simp; done) | (simp [*]; done), by repeat (first | exact Drawn0.refl _ | apply Drawn0.step)⟩
   rw [if_pos c3] at H
   have ak : decide (0 ≤ aa) = true := DE c3
   clear c3
   replace H := HI H
   obtain ⟨c4, H⟩ := H
   have aq := DE c4
   clear c4
   replace H := HI H
   obtain ⟨c5, H⟩ := H
   have ar := DE c5
   clear c5
   by_cases c6 : ((rd_T52 l0 aa).f2) > a1
   rotate_left
   ·rw [if_neg c6] at H
    have al : decide (a1 < ((rd_T52 l0 aa).f2)) = false := decide_eq_false c6
    clear c6
    obtain rfl := SI H
    have ab : 0 ≤ (aa : Int) := DT
    have ac : aa < (l0.length : Int) := DT
    obtain ⟨aj, ai, ad, ae, af, ag, ah⟩ := at_T52 ao.out aa ab ac
    cases ai
    replace ab := ET ab
    replace ac := ET ac
    go_wp2
    go_ret
    exact ⟨by first | rfl | (simp; done) | (simp [*]; done), by repeat (first | exact Drawn0.refl _ | apply Drawn0.step)⟩
   rw [if_pos c6] at H
   have al : decide (a1 < ((rd_T52 l0 aa).f2)) = true := DE c6
   clear c6
   have H' := AM_ H
   clear H
   have ab : 0 ≤ (aa : Int) := DT
   have ac : aa < (l0.length : Int) := DT
   obtain ⟨aj, ai, ad, ae, af, ag, ah⟩ := at_T52 ao.out aa ab ac
   cases ai
   replace ab := ET ab
   replace ac := ET ac
   go_wp2
   go_roundg k1
   case measure => have := ap.out; omega
   case rel => exact ⟨(wrap64 (aa - 1)), (by first | rfl | (simp; done) | (simp [*]; done)), H', ⟨by have := ap.out; omega⟩, by repeat (first | exact Drawn0.refl _ | apply Drawn0.step)⟩

/-! ### impl_Store_choose: function 57 -/
mutual
def impl_Store_choose.j0 : Nat → List (S52) → Int → Int → Int → Int → Int → Int → Int → Int → List (S116) → List (S103) → Option (Int × Int × Int × Int × Int × Int)
 | 0, _, _, _, _, _, _, _, _, _, _, _ => none
 | k + 1, x8, x9, ai, ab, ac, aa, ad, ae, af, ag, ah => if x9 < 0 then (impl_Store_choose.j1 k x8 x9 true) else (if ai = 4 then (if 0 ≤ x9 then (if x9 < (x8.length : Int) then (impl_Store_choose.j1 k x8 x9 (decide (((rd_T52 x8 x9).f2) > aa))) else (none)) else (none)) else (impl_Store_choose.j1 k x8 x9 false))
def impl_Store_choose.j1 : Nat → List (S52) → Int → Bool → Option (Int × Int × Int × Int × Int × Int)
 | 0, _, _, _ => none
 | k + 1, x8, x9, aj => if aj = true then (some (0, 0, 0, 0, 0, 3)) else (if 0 ≤ x9 then (if x9 < (x8.length : Int) then (some ((rd_T52 x8 x9).f0, (rd_T52 x8 x9).f1, (rd_T52 x8 x9).f2, (rd_T52 x8 x9).f3, (rd_T52 x8 x9).f4, 0)) else (none)) else (none))
end
def impl_Store_choose.f (k : Nat) (aa : List (List (S52))) (ad : Int) (ab : Int) (ae : Int) (ac : Int) (af : Int) (ag : Int) (ah : Int) (ai : List (S116)) (aj : List (S103)) (a2 : Int) : Option (Int × Int × Int × Int × Int × Int) := if 0 ≤ a2 then (if a2 < (aa.length : Int) then (if ab = 2 then ((impl_versionAt.f k (rd_L3 aa a2) ac).bind fun ak => (impl_Store_choose.j0 k (rd_L3 aa a2) ak ab ad ae ac af ag ah ai aj)) else (impl_Store_choose.j0 k (rd_L3 aa a2) (wrap64 (((rd_L3 aa a2).length : Int) - 1)) ab ad ae ac af ag ah ai aj)) else (none)) else (none)
theorem impl_Store_choose.mono_l : ∀ k, (∀ y0 y1 y2 y3 y4 y5 y6 y7 y8 y9 aa, LeO (impl_Store_choose.j0 k y0 y1 y2 y3 y4 y5 y6 y7 y8 y9 aa) (impl_Store_choose.j0 (k + 1) y0 y1 y2 y3 y4 y5 y6 y7 y8 y9 aa)) ∧ (∀ y0 y1 y2, LeO (impl_Store_choose.j1 k y0 y1 y2) (impl_Store_choose.j1 (k + 1) y0 y1 y2))
 | 0 => ⟨fun _ _ _ _ _ _ _ _ _ _ _ r h => by simp [impl_Store_choose.j0] at h, fun _ _ _ r h => by simp [impl_Store_choose.j1] at h⟩
 | k + 1 => by
  obtain ⟨ab, ac⟩ := impl_Store_choose.mono_l k
  refine ⟨?_, ?_⟩
  all_goals intros; first | unfold impl_Store_choose.j0 | unfold impl_Store_choose.j1
  all_goals repeat' (with_reducible first | exact ab .. | exact ac .. | exact impl_versionAt.mono .. | exact LeO.refl _ | exact LeO.none _ | refine LeO.ite ?_ ?_ | refine LeO.bind ?_ (fun _ => ?_))
theorem impl_Store_choose.mono : ∀ a0 a1 a2 a3 a4 a5 a6 a7 a8 a9 aa k, LeO (impl_Store_choose.f k a0 a1 a2 a3 a4 a5 a6 a7 a8 a9 aa) (impl_Store_choose.f (k + 1) a0 a1 a2 a3 a4 a5 a6 a7 a8 a9 aa) := by
 intro a0 a1 a2 a3 a4 a5 a6 a7 a8 a9 aa k
 obtain ⟨ab, ac⟩ := impl_Store_choose.mono_l k
 unfold impl_Store_choose.f
 repeat' (with_reducible first | exact ab .. | exact ac .. | exact impl_versionAt.mono .. | exact LeO.refl _ | exact LeO.none _ | refine LeO.ite ?_ ?_ | refine LeO.bind ?_ (fun _ => ?_))
theorem impl_Store_choose.calls (k : Nat) (bR : Option Addr) (bh : Nat) (ae : List (List (S52))) (aT : Int) (am : Int) (aU : Int) (aq : Int) (aV : Int) (aW : Int) (aX : Int) (bi : Option Addr) (bj : Nat) (au : List (S116)) (bk : Option Addr) (bm : Nat) (av : List (S103)) (a2 : Int) (r1 : Int) (r2 : Int) (r3 : Int) (r4 : Int) (r5 : Int) (r6 : Int) (w : World) (cB : Kd.C (Kd.slice 52 k52) w bR ae.length ae) (cC : ae.length ≤ bh) (cD : Kd.C k116 w bi au.length au) (cE : au.length ≤ bj) (cF : Kd.C k103 w bk av.length av) (cG : av.length ≤ bm) (h : impl_Store_choose.f k ae aT am aU aq aV aW aX au av a2 = some (r1, r2, r3, r4, r5, r6)) :
  Calls Try.prog 57 #[.agg #[.slice bR ae.length bh], .agg #[.int .i64 aT, .int .i64 am, .int .i64 aU, .int .i64 aq, .int .i64 aV, .int .i64 aW, .int .i64 aX, .slice bi au.length bj, .slice bk av.length bm], .int .i64 a2] w fun e w' => e = .returned (.tuple #[.agg #[.int .i64 r1, .int .i64 r2, .int .i64 r3, .int .i64 r4, .int .i64 r5], .int .i64 r6]) ∧ Below w.heap.size w w' := by
 have d6 := Try.underlying34
 have d7 := Try.underlying48
 have d8 := Try.underlying52
 have bS := AM_ cB
 have dB := AM_ cC
 clear cB cC
 have dC := AM_ cD
 have dD := AM_ cE
 clear cD cE
 have dE := AM_ cF
 have dF := AM_ cG
 clear cF cG
 have HB := AM_ (Below.refl w.heap.size w)
 have H : (if 0 ≤ a2 then (if a2 < (ae.length : Int) then (if am = 2 then ((impl_versionAt.f k (rd_L3 ae a2) aq).bind fun bQ => (impl_Store_choose.j0 k (rd_L3 ae a2) bQ am aT aU aq aV aW aX au av)) else (impl_Store_choose.j0 k (rd_L3 ae a2) (wrap64 (((rd_L3 ae a2).length : Int) - 1)) am aT aU aq aV aW aX au av)) else (none)) else (none)) = some (r1, r2, r3, r4, r5, r6) := h
 clear h
 replace H := HI H
 obtain ⟨c4, H⟩ := H
 have cW := DE c4
 clear c4
 replace H := HI H
 obtain ⟨c5, H⟩ := H
 have cX := DE c5
 clear c5
 have du := AM_ H
 clear H
 go_enter Try.func57, Try.ntmps57
 go_upto_if 20 with (first | ((with_reducible refine G2 3 rfl ?_); refine BY 3 #[.slice bR ae.length bh] 34 HB ?_; clear HB; intro bn w7 aa cH HB) | ((with_reducible refine G2 4 rfl ?_); refine BZ 4 #[.int .i64 aT, .int .i64 am, .int .i64 aU, .int .i64 aq, .int .i64 aV, .int .i64 aW, .int .i64 aX, .slice bi au.length bj, .slice bk av.length bm] 48 HB ?_; clear HB; intro bo w8 hg hb ab cI HB; have af := NP aa hg; have ag := NQ aa hg; replace aa := BV aa hb; clear hb hg) | ((with_reducible refine G2 6 rfl ?_); refine BZ 6 #[.int .i64 0, .int .i64 0, .int .i64 0, .int .i64 0, .int .i64 0] 52 HB ?_; clear HB; intro aY w9 hg hb an cJ HB; have ah := NP aa hg; have ai := NQ aa hg; replace aa := BV aa hb; have ac := NP ab hg; have ad := NQ ab hg; replace ab := BV ab hb; clear hb hg; have cK := af.out; have cL := ag.out; have cM := ah.out; have cN := ai.out; obtain ⟨ay, az⟩ := bk1 aa.out; have aw : 0 ≤ (a2 : Int) := DT; have ax : a2 < (ae.length : Int) := DT; obtain ⟨bp, bT, bU, bV, aj, ak, al⟩ := at_L3 bS.out a2 aw ax; cases bV; replace aj := BD HB.out aj; have ao := AM_ al; have ar := AM_ ak; clear al ak; replace aw := eq_true aw; replace ax := eq_true ax; have cO := ac.out; have cP := ad.out; obtain ⟨aA, aB, aC, aD, aE, aF, aG, aH, aI, aJ, aK, aL, aM, aN, aO, aP, aQ, aR⟩ := bk9 ab.out))
 repeat (go_quiet (first | ((with_reducible refine G2 3 rfl ?_); refine BY 3 #[.slice bR ae.length bh] 34 HB ?_; clear HB; intro bn w7 aa cH HB) | ((with_reducible refine G2 4 rfl ?_); refine BY 4 #[.int .i64 aT, .int .i64 am, .int .i64 aU, .int .i64 aq, .int .i64 aV, .int .i64 aW, .int .i64 aX, .slice bi au.length bj, .slice bk av.length bm] 48 ?_; intro bo hg w8 hbox hb; have ab := AM_ (hbox); have cI := AM_ ((GS HB.out hg)); replace HB := BW HB hb; have af := NP aa hg; have ag := NQ aa hg; replace aa := BV aa hb; clear hb hbox hg) | ((with_reducible refine G2 6 rfl ?_); refine BZ 6 #[.int .i64 0, .int .i64 0, .int .i64 0, .int .i64 0, .int .i64 0] 52 HB ?_; clear HB; intro aY w9 hg hb an cJ HB; have ah := NP aa hg; have ai := NQ aa hg; replace aa := BV aa hb; have ac := NP ab hg; have ad := NQ ab hg; replace ab := BV ab hb; clear hb hg; have cK := af.out; have cL := ag.out; have cM := ah.out; have cN := ai.out; obtain ⟨ay, az⟩ := bk1 aa.out; have aw : 0 ≤ (a2 : Int) := DT; have ax : a2 < (ae.length : Int) := DT; obtain ⟨bp, bT, bU, bV, aj, ak, al⟩ := at_L3 bS.out a2 aw ax; cases bV; replace aj := BD HB.out aj; have ao := AM_ al; have ar := AM_ ak; clear al ak; replace aw := eq_true aw; replace ax := eq_true ax; have cO := ac.out; have cP := ad.out; obtain ⟨aA, aB, aC, aD, aE, aF, aG, aH, aI, aJ, aK, aL, aM, aN, aO, aP, aQ, aR⟩ := bk9 ab.out)); go_upto_if 20 with (first | ((with_reducible refine G2 3 rfl ?_); refine BZ 3 #[.slice bR ae.length bh] 34 HB ?_; clear HB; intro bn w7 aa cH HB) | ((with_reducible refine G2 4 rfl ?_); refine BX 4 #[.int .i64 aT, .int .i64 am, .int .i64 aU, .int .i64 aq, .int .i64 aV, .int .i64 aW, .int .i64 aX, .slice bi au.length bj, .slice bk av.length bm] 48 HB ?_; clear HB; intro bo w8 hg hb ab cI HB; have af := NP aa hg; have ag := NQ aa hg; replace aa := BV aa hb; clear hb hbox hg) | ((with_reducible refine G2 6 rfl ?_); refine BZ 6 #[.int .i64 0, .int .i64 0, .int .i64 0, .int .i64 0, .int .i64 0] 52 HB ?_; clear HB; intro aY w9 hg hb an cJ HB; have ah := NP aa hg; have ai := NQ aa hg; replace aa := BV aa hb; have ac := NP ab hg; have ad := NQ ab hg; replace ab := BV ab hb; clear hb hg; have cK := af.out; have cL := ag.out; have cM := ah.out; have cN := ai.out; obtain ⟨ay, az⟩ := bk1 aa.out; have aw : 0 ≤ (a2 : Int) := DT; have ax : a2 < (ae.length : Int) := DT; obtain ⟨bp, bT, bU, bV, aj, ak, al⟩ := at_L3 bS.out a2 aw ax; cases bV; replace aj := BD HB.out aj; have ao := AM_ al; have ar := AM_ ak; clear al ak; replace aw := eq_true aw; replace ax := eq_true ax; have cO := ac.out; have cP := ad.out; obtain ⟨aA, aB, aC, aD, aE, aF, aG, aH, aI, aJ, aK, aL, aM, aN, aO, aP, aQ, aR⟩ := bk9 ab.out)))
 (try simp only [pA, pS, pZ, pK])
 go_cut [9] (fun v9 wc => ∃ (kq : Nat) (ap : Int), v9 = .int .i64 ap ∧ Aside0 (impl_Store_choose.j0 kq (rd_L3 ae a2) ap am aT aU aq aV aW aX au av = some (r1, r2, r3, r4, r5, r6)) ∧ Aside0 (kq ≤ k) ∧ Aside0 (wc.heap[bn]? = some (.cells #[(.slice (some bp) ae.length bh)] 34 (0, 0))) ∧ Aside0 (wc.heap[bo]? = some (.cells #[.int .i64 aT, .int .i64 am, .int .i64 aU, .int .i64 aq, .int .i64 aV, .int .i64 aW, .int .i64 aX, (.slice bi au.length bj), (.slice bk av.length bm)] 48 (0, 0))) ∧ Aside0 (wc.heap[aY]? = some (.cells #[.int .i64 0, .int .i64 0, .int .i64 0, .int .i64 0, .int .i64 0] 52 (0, 0))) ∧ Aside0 (Below w.heap.size w wc))
 case first =>
  have H := du.out
  clear du
  by_cases bW : am = 2
  rotate_left
  ·rw [if_neg bW] at H
   have aS : (am == 2) = false := beq_eq_false_iff_ne.mpr bW
   have c15b1 : (am != 2) = true := bne_iff_ne.mpr bW
   (first | rw [aS] | (simp only [i64_w, i32_w]; rw [aS]) | skip)
   have H' := AM_ H
   clear H
   go_wp2
   repeat (go_quiet (fail); try go_wp2)
   go_meet
   case rel => exact ⟨_, (wrap64 (((rd_L3 ae a2).length : Int) - 1)), (by first | rfl | (simp; done) | (simp [*]; done)), H', ⟨by first | omega | exact Nat.le_refl _⟩, ⟨BH aa.out⟩, ⟨BH ab.out⟩, ⟨BH an.out⟩, ⟨BT HB.out⟩⟩
  rw [if_pos bW] at H
  have aS : (am == 2) = true := beq_iff_eq.mpr bW
  have c15b1 : (am != 2) = false := bne_eq_false_iff_eq.mpr bW
  clear bW
  (first | rw [aS] | (simp only [i64_w, i32_w]; rw [aS]) | skip)
  obtain ⟨bQ, dv, H⟩ := OB H
  have H' := AM_ H
  clear H
  have dG := ag.out
  have dH := af.out
  have dI := ac.out
  have dJ := ad.out
  obtain ⟨bq, br, bu, bv, bw, bx, bz, bA, bB, bC, bD, bE, bF, bG, bH, bI, bJ, bK⟩ := bk9 ab.out
  go_wp2_with (first | (go_at_call 93; (with_reducible refine (impl_versionAt.calls k _ _ (rd_L3 ae a2) aq bQ _ (CC ao HB) ar.out dv.out).mono ?_); rintro e w' ⟨rfl, ⟨nd, rfl⟩⟩; (try first | exact DW | exact DX)))
  repeat (go_quiet (first | (go_at_call 93; (with_reducible refine (impl_versionAt.calls k _ _ (rd_L3 ae a2) aq bQ _ (CC ao HB) ar.out dv.out).mono ?_); rintro e w' ⟨rfl, ⟨nd, rfl⟩⟩; (try first | exact DW | exact DX))); try go_wp2_with (first | (go_at_call 93; (with_reducible refine (impl_versionAt.calls k _ _ (rd_L3 ae a2) aq bQ _ (CC ao HB) ar.out dv.out).mono ?_); rintro e w' ⟨rfl, ⟨nd, rfl⟩⟩; (try first | exact DW | exact DX))))
  go_meet
  case rel => exact ⟨_, (bQ), (by first | rfl | (simp; done) | (simp [*]; done)), H', ⟨by first | omega | exact Nat.le_refl _⟩, ⟨BH aa.out⟩, ⟨BH ab.out⟩, ⟨BH an.out⟩, ⟨BT HB.out⟩⟩
 case rest =>
  clear du
  try clear c4
  try clear cW
  try clear c5
  try clear cX
  try clear bW
  try clear aS
  try clear c15b1
  try clear ay
  try clear aA aB aC aD aE aF aG aH aI
  try clear bq br bu bv bw bx bz bA bB
  try clear az
  try clear aJ aK aL aM aN aO aP aQ aR
  try clear bC bD bE bF bG bH bI bJ bK
  try clear aj
  try clear aw
  try clear ax
  obtain ⟨kq, ap, rfl, HA, dw, aa, ab, an, HB⟩ := hcut
  cases kq with
  | zero => exact absurd HA.out (by simp [impl_Store_choose.j0])
  | succ kj5 =>
   have H := HA.out
   clear HA
   simp only [impl_Store_choose.j0] at H
   have cS := AM_ H
   clear H
   go_upto_region 5 with (fail)
   repeat (go_quiet (fail); go_upto_region 5 with (fail))
   go_cut [41] (fun d9 wc => ∃ (kq : Nat) (ba : Bool), d9 = .bool ba ∧ Aside0 (impl_Store_choose.j1 kq (rd_L3 ae a2) ap ba = some (r1, r2, r3, r4, r5, r6)) ∧ Aside0 (kq ≤ kj5) ∧ Aside0 (wc.heap[bn]? = some (.cells #[(.slice (some bp) ae.length bh)] 34 (0, 0))) ∧ Aside0 (wc.heap[bo]? = some (.cells #[.int .i64 aT, .int .i64 am, .int .i64 aU, .int .i64 aq, .int .i64 aV, .int .i64 aW, .int .i64 aX, (.slice bi au.length bj), (.slice bk av.length bm)] 48 (0, 0))) ∧ Aside0 (wc.heap[aY]? = some (.cells #[.int .i64 0, .int .i64 0, .int .i64 0, .int .i64 0, .int .i64 0] 52 (0, 0))) ∧ Aside0 (Below w.heap.size w wc))
   case first =>
    have H := cS.out
    clear cS
    by_cases cT : ap < 0
    ·rw [if_pos cT] at H
     have aZ := DE cT
     clear cT
     (first | rw [aZ] | (simp only [i64_w, i32_w]; rw [aZ]) | skip)
     have H' := AM_ H
     clear H
     go_wp2
     repeat (go_quiet (fail); try go_wp2)
     go_meet
     case rel => exact ⟨_, (true), (by first | rfl | (simp; done) | (simp [*]; done)), H', ⟨by have := dw.out; first | omega | exact Nat.le_refl _⟩, ⟨BH aa.out⟩, ⟨BH ab.out⟩, ⟨BH an.out⟩, ⟨BT HB.out⟩⟩
    rw [if_neg cT] at H
    have aZ := decide_eq_false cT
    clear cT
    (first | rw [aZ] | (simp only [i64_w, i32_w]; rw [aZ]) | skip)
    by_cases cQ : am = 4
    rotate_left
    ·rw [if_neg cQ] at H
     have cR : (am == 4) = false := beq_eq_false_iff_ne.mpr cQ
     have c22b1 : (am != 4) = true := bne_iff_ne.mpr cQ
     have H' := AM_ H
     clear H
     have dK := ag.out
     have dL := af.out
     have dM := ac.out
     have dN := ad.out
     obtain ⟨bX, bY, bZ, b0, b1, b2, b3, b4, b6, b7, b8, ca, cb, cc, cd, ce, cf, cg⟩ := bk9 ab.out
     go_wp2
     repeat (go_quiet (fail); try go_wp2)
     go_meet
     case rel => exact ⟨_, (false), (by first | rfl | (simp; done) | (simp [*]; done)), H', ⟨by have := dw.out; first | omega | exact Nat.le_refl _⟩, ⟨BH aa.out⟩, ⟨BH ab.out⟩, ⟨BH an.out⟩, ⟨BT HB.out⟩⟩
    rw [if_pos cQ] at H
    have cR : (am == 4) = true := beq_iff_eq.mpr cQ
    have c22b1 : (am != 4) = false := bne_eq_false_iff_eq.mpr cQ
    clear cQ
    replace H := HI H
    obtain ⟨dx, H⟩ := H
    have cY := DE dx
    clear dx
    replace H := HI H
    obtain ⟨dy, H⟩ := H
    have cZ := DE dy
    clear dy
    have H' := AM_ H
    clear H
    have dO := ag.out
    have dP := af.out
    have dQ := ac.out
    have dR := ad.out
    obtain ⟨ch, ci, cj, ck, cl, cm, cn, co, cp, cq, cr, cs, ct, cu, cv, cw, cx, cy⟩ := bk9 ab.out
    have cz : 0 ≤ (ap : Int) := DT
    have cA : ap < ((rd_L3 ae a2).length : Int) := DT
    obtain ⟨dS, dz, bb, bd, be, bf, bg⟩ := at_T52 ao.out ap cz cA
    cases dz
    replace bb := BC HB.out bb
    replace bd := BC HB.out bd
    replace be := BC HB.out be
    replace bf := BC HB.out bf
    replace bg := BC HB.out bg
    replace cz := ET cz
    replace cA := ET cA
    go_wp2
    repeat (go_quiet (fail); try go_wp2)
    go_meet
    case rel => exact ⟨_, (decide (((rd_T52 (rd_L3 ae a2) ap).f2) > aq)), (by first | rfl | (simp; done) | (simp [*]; done)), H', ⟨by have := dw.out; first | omega | exact Nat.le_refl _⟩, ⟨BH aa.out⟩, ⟨BH ab.out⟩, ⟨BH an.out⟩, ⟨BT HB.out⟩⟩
   case rest =>
    clear cS
    try clear c4
    try clear cW
    try clear c5
    try clear cX
    try clear bW
    try clear aS
    try clear c15b1
    try clear cT
    try clear aZ
    try clear cQ
    try clear cR
    try clear c22b1
    try clear dx
    try clear cY
    try clear dy
    try clear cZ
    try clear ay
    try clear aA aB aC aD aE aF aG aH aI
    try clear bq br bu bv bw bx bz bA bB
    try clear ch ci cj ck cl cm cn co cp
    try clear bX bY bZ b0 b1 b2 b3 b4 b6
    try clear az
    try clear aJ aK aL aM aN aO aP aQ aR
    try clear bC bD bE bF bG bH bI bJ bK
    try clear cq cr cs ct cu cv cw cx cy
    try clear b7 b8 ca cb cc cd ce cf cg
    try clear aj
    try clear bb
    try clear bd
    try clear be
    try clear bf
    try clear bg
    try clear aw
    try clear cz
    try clear ax
    try clear cA
    obtain ⟨kq, ba, rfl, HA, ea, aa, ab, an, HB⟩ := hcut
    cases kq with
    | zero => exact absurd HA.out (by simp [impl_Store_choose.j1])
    | succ kj19 =>
     have H := HA.out
     clear HA
     simp only [impl_Store_choose.j1] at H
     by_cases c1 : ba = true
     ·subst c1
      replace H := HT H
      simp only [Option.some.injEq, Prod.mk.injEq] at H
      obtain ⟨rfl, rfl, rfl, rfl, rfl, rfl⟩ := H
      have dT := ai.out
      have dU := ah.out
      have dV := ad.out
      have dW := ac.out
      obtain ⟨c8, da, db, dc, dd, de, df, dg, dh, di⟩ := bk5 an.out
      go_wp2
      repeat (go_quiet (fail); try go_wp2)
      refine bodyPost_ret (results_ct rfl _ _ aY 52 #[.int .i64 0, .int .i64 0, .int .i64 0, .int .i64 0, .int .i64 0] (0, 0) _ rfl (by (with_reducible repeat (first | refine blk_drewN ?_ _ | refine blk_drew ?_ | refine blk_alloc ?_ _)); apply BP5; (with_reducible repeat (first | refine blk_drewN ?_ _ | refine blk_drew ?_ | refine blk_alloc ?_ _)); exact an.out) Try.underlying52 rfl (by kernel_rfl)) rfl ?_
      exact QT (BT HB.out)
     replace c1 := Bool.eq_false_iff.mpr c1
     subst c1
     replace H := HF H
     replace H := HI H
     obtain ⟨dX, H⟩ := H
     have dY := DE dX
     clear dX
     replace H := HI H
     obtain ⟨dZ, H⟩ := H
     have d0 := DE dZ
     clear dZ
     simp only [Option.some.injEq, Prod.mk.injEq] at H
     obtain ⟨rfl, rfl, rfl, rfl, rfl, rfl⟩ := H
     have cU : 0 ≤ (ap : Int) := DT
     have cV : ap < ((rd_L3 ae a2).length : Int) := DT
     obtain ⟨d1, dA, bL, bM, bN, bO, bP⟩ := at_T52 ao.out ap cU cV
     cases dA
     replace bL := BC HB.out bL
     replace bM := BC HB.out bM
     replace bN := BC HB.out bN
     replace bO := BC HB.out bO
     replace bP := BC HB.out bP
     replace cU := ET cU
     replace cV := ET cV
     have d2 := ai.out
     have d3 := ah.out
     have d4 := ad.out
     have d5 := ac.out
     obtain ⟨dj, dk, dl, dm, dn, dp, dq, dr, ds, dt⟩ := bk5 an.out
     go_wp2
     repeat (go_quiet (fail); try go_wp2)
     refine bodyPost_ret (results_ct rfl _ _ aY 52 #[.int .i64 ((rd_T52 (rd_L3 ae a2) ap).f0), .int .i64 ((rd_T52 (rd_L3 ae a2) ap).f1), .int .i64 ((rd_T52 (rd_L3 ae a2) ap).f2), .int .i64 ((rd_T52 (rd_L3 ae a2) ap).f3), .int .i64 ((rd_T52 (rd_L3 ae a2) ap).f4)] (0, 0) _ rfl (by (with_reducible repeat (first | refine blk_drewN ?_ _ | refine blk_drew ?_ | refine blk_alloc ?_ _)); apply BP5; (with_reducible repeat (first | refine blk_drewN ?_ _ | refine blk_drew ?_ | refine blk_alloc ?_ _)); exact an.out) Try.underlying52 rfl (by kernel_rfl)) rfl ?_
     exact QT (BT HB.out)

/-! ### impl_ChooseVersion: function 12 -/
def impl_ChooseVersion.f (k : Nat) (aa : List (List (S52))) (ab : Int) (ac : Int) (ad : Int) (ae : Int) (af : Int) (ag : Int) (ah : Int) (ai : List (S116)) (aj : List (S103)) (a2 : Int) : Option (Int × Int × Int × Int × Int × Int) := (impl_IsValidStore.f k aa).bind fun ak => (if ak = true then ((impl_Transaction_isActive.f k ab ac ad ae af ag ah ai aj).bind fun al => (if al = true then ((impl_isKey.f a2).bind fun am => (if am = true then ((impl_Store_choose.f k aa ab ac ad ae af ag ah ai aj a2).bind fun bt614 => (some (bt614.1, bt614.2.1, bt614.2.2.1, bt614.2.2.2.1, bt614.2.2.2.2.1, bt614.2.2.2.2.2))) else (some (0, 0, 0, 0, 0, 6)))) else (some (0, 0, 0, 0, 0, 6)))) else (some (0, 0, 0, 0, 0, 6)))
theorem impl_ChooseVersion.mono : ∀ a0 a1 a2 a3 a4 a5 a6 a7 a8 a9 aa k, LeO (impl_ChooseVersion.f k a0 a1 a2 a3 a4 a5 a6 a7 a8 a9 aa) (impl_ChooseVersion.f (k + 1) a0 a1 a2 a3 a4 a5 a6 a7 a8 a9 aa) := by
 intro a0 a1 a2 a3 a4 a5 a6 a7 a8 a9 aa k
 unfold impl_ChooseVersion.f
 repeat' (with_reducible first | exact impl_IsValidStore.mono .. | exact impl_Store_choose.mono .. | exact impl_Transaction_isActive.mono .. | exact LeO.refl _ | exact LeO.none _ | refine LeO.ite ?_ ?_ | refine LeO.bind ?_ (fun _ => ?_))
theorem impl_ChooseVersion.calls (k : Nat) (aw : Option Addr) (ax : Nat) (aj : List (List (S52))) (am : Int) (an : Int) (ao : Int) (ap : Int) (aq : Int) (ar : Int) (au : Int) (ay : Option Addr) (az : Nat) (ak : List (S116)) (aA : Option Addr) (aB : Nat) (al : List (S103)) (a2 : Int) (r1 : Int) (r2 : Int) (r3 : Int) (r4 : Int) (r5 : Int) (r6 : Int) (w : World) (aN : Kd.C (Kd.slice 52 k52) w aw aj.length aj) (aO : aj.length ≤ ax) (aP : Kd.C k116 w ay ak.length ak) (aQ : ak.length ≤ az) (aR : Kd.C k103 w aA al.length al) (aS : al.length ≤ aB) (h : impl_ChooseVersion.f k aj am an ao ap aq ar au ak al a2 = some (r1, r2, r3, r4, r5, r6)) :
  Calls Try.prog 12 #[.agg #[.slice aw aj.length ax], .agg #[.int .i64 am, .int .i64 an, .int .i64 ao, .int .i64 ap, .int .i64 aq, .int .i64 ar, .int .i64 au, .slice ay ak.length az, .slice aA al.length aB], .int .i64 a2] w fun e w' => e = .returned (.tuple #[.agg #[.int .i64 r1, .int .i64 r2, .int .i64 r3, .int .i64 r4, .int .i64 r5], .int .i64 r6]) ∧ Below w.heap.size w w' := by
 have dU := Try.underlying34
 have dV := Try.underlying48
 have dW := Try.underlying52
 have aC := AM_ aN
 have aD := AM_ aO
 clear aN aO
 have aG := AM_ aP
 have aH := AM_ aQ
 clear aP aQ
 have aI := AM_ aR
 have aJ := AM_ aS
 clear aR aS
 have HB := AM_ (Below.refl w.heap.size w)
 have H : ((impl_IsValidStore.f k aj).bind fun aT => (if aT = true then ((impl_Transaction_isActive.f k am an ao ap aq ar au ak al).bind fun aU => (if aU = true then ((impl_isKey.f a2).bind fun aV => (if aV = true then ((impl_Store_choose.f k aj am an ao ap aq ar au ak al a2).bind fun bt614 => (some (bt614.1, bt614.2.1, bt614.2.2.1, bt614.2.2.2.1, bt614.2.2.2.2.1, bt614.2.2.2.2.2))) else (some (0, 0, 0, 0, 0, 6)))) else (some (0, 0, 0, 0, 0, 6)))) else (some (0, 0, 0, 0, 0, 6)))) = some (r1, r2, r3, r4, r5, r6) := h
 clear h
 obtain ⟨aT, A4, H⟩ := OB H
 by_cases c5 : aT = true
 rotate_left
 ·replace c5 := Bool.eq_false_iff.mpr c5
  subst c5
  replace H := HF H
  simp only [Option.some.injEq, Prod.mk.injEq] at H
  obtain ⟨rfl, rfl, rfl, rfl, rfl, rfl⟩ := H
  go_enter Try.func12, Try.ntmps12
  go_wp2_with (first | ((with_reducible refine G2 3 rfl ?_); refine BY 3 #[.slice aw aj.length ax] 34 HB ?_; clear HB; intro aE dY aa aK HB) | ((with_reducible refine G2 4 rfl ?_); refine BZ 4 #[.int .i64 am, .int .i64 an, .int .i64 ao, .int .i64 ap, .int .i64 aq, .int .i64 ar, .int .i64 au, .slice ay ak.length az, .slice aA al.length aB] 48 HB ?_; clear HB; intro aF dZ hg hb ab aL HB; have ad := NP aa hg; have ae := NQ aa hg; replace aa := BV aa hb; clear hb hg) | ((with_reducible refine G2 6 rfl ?_); refine BZ 6 #[.int .i64 0, .int .i64 0, .int .i64 0, .int .i64 0, .int .i64 0] 52 HB ?_; clear HB; intro av d0 hg hb ac aM HB; have af := NP aa hg; have ag := NQ aa hg; replace aa := BV aa hb; have ah := NP ab hg; have ai := NQ ab hg; replace ab := BV ab hb; clear hb hg; have dw := ad.out; have dx := ae.out; have dy := af.out; have dz := ag.out; obtain ⟨bi, bj⟩ := bk1 aa.out) | ((with_reducible refine G1 38 rfl ?_); refine GC (some 9) Try.func38 #[.agg #[.slice aw aj.length ax]] ?_; (with_reducible refine MB (impl_IsValidStore.calls k _ _ aj false _ (CC aC HB) aD.out A4.out) ?_); intro d1 hb; replace aa := BV aa hb; replace ab := BV ab hb; replace ac := BV ac hb; replace HB := BW HB hb; (try clear hb); have dA := ai.out; have dB := ah.out; obtain ⟨bk, bm, bn, bo, bp, bq, br, bu, bv, bw⟩ := bk5 ac.out))
  refine bodyPost_ret (results_ct rfl _ _ av 52 #[.int .i64 0, .int .i64 0, .int .i64 0, .int .i64 0, .int .i64 0] (0, 0) _ rfl (by (with_reducible repeat (first | refine blk_drewN ?_ _ | refine blk_drew ?_ | refine blk_alloc ?_ _)); apply BP5; (with_reducible repeat (first | refine blk_drewN ?_ _ | refine blk_drew ?_ | refine blk_alloc ?_ _)); exact ac.out) Try.underlying52 rfl (by kernel_rfl)) rfl ?_
  exact QT (BT HB.out)
 subst c5
 replace H := HT H
 obtain ⟨aU, A6, H⟩ := OB H
 by_cases c7 : aU = true
 rotate_left
 ·replace c7 := Bool.eq_false_iff.mpr c7
  subst c7
  replace H := HF H
  simp only [Option.some.injEq, Prod.mk.injEq] at H
  obtain ⟨rfl, rfl, rfl, rfl, rfl, rfl⟩ := H
  go_enter Try.func12, Try.ntmps12
  go_wp2_with (first | ((with_reducible refine G2 3 rfl ?_); refine BY 3 #[.slice aw aj.length ax] 34 HB ?_; clear HB; intro aE d2 aa aK HB) | ((with_reducible refine G2 4 rfl ?_); refine BZ 4 #[.int .i64 am, .int .i64 an, .int .i64 ao, .int .i64 ap, .int .i64 aq, .int .i64 ar, .int .i64 au, .slice ay ak.length az, .slice aA al.length aB] 48 HB ?_; clear HB; intro aF d3 hg hb ab aL HB; have ad := NP aa hg; have ae := NQ aa hg; replace aa := BV aa hb; clear hb hg) | ((with_reducible refine G2 6 rfl ?_); refine BZ 6 #[.int .i64 0, .int .i64 0, .int .i64 0, .int .i64 0, .int .i64 0] 52 HB ?_; clear HB; intro av d4 hg hb ac aM HB; have af := NP aa hg; have ag := NQ aa hg; replace aa := BV aa hb; have ah := NP ab hg; have ai := NQ ab hg; replace ab := BV ab hb; clear hb hg; have dC := ad.out; have dD := ae.out; have dE := af.out; have dF := ag.out; obtain ⟨bx, bz⟩ := bk1 aa.out) | ((with_reducible refine G1 38 rfl ?_); refine GC (some 9) Try.func38 #[.agg #[.slice aw aj.length ax]] ?_; (with_reducible refine MB (impl_IsValidStore.calls k _ _ aj true _ (CC aC HB) aD.out A4.out) ?_); intro d5 hb; replace aa := BV aa hb; replace ab := BV ab hb; replace ac := BV ac hb; replace HB := BW HB hb; (try clear hb); have dG := ah.out; have dH := ai.out; obtain ⟨bA, bB, bC, bD, bE, bF, bG, bH, bI, bJ, bK, bL, bM, bN, bO, bP, bQ, bR⟩ := bk9 ab.out) | (go_at_call 55; (with_reducible refine (impl_Transaction_isActive.calls k am an ao ap aq ar au _ _ ak _ _ al false _ (CC aG HB) aH.out (CC aI HB) aJ.out A6.out).mono ?_); rintro e d6 ⟨rfl, hb⟩; replace aa := BV aa hb; replace ab := BV ab hb; replace ac := BV ac hb; replace HB := BW HB hb; (try clear hb); obtain ⟨bS, bT, bU, bV, bW, bX, bY, bZ, b0, b1⟩ := bk5 ac.out))
  refine bodyPost_ret (results_ct rfl _ _ av 52 #[.int .i64 0, .int .i64 0, .int .i64 0, .int .i64 0, .int .i64 0] (0, 0) _ rfl (by (with_reducible repeat (first | refine blk_drewN ?_ _ | refine blk_drew ?_ | refine blk_alloc ?_ _)); apply BP5; (with_reducible repeat (first | refine blk_drewN ?_ _ | refine blk_drew ?_ | refine blk_alloc ?_ _)); exact ac.out) Try.underlying52 rfl (by kernel_rfl)) rfl ?_
  exact QT (BT HB.out)
 subst c7
 replace H := HT H
 obtain ⟨aV, A8, H⟩ := OB H
 by_cases c9 : aV = true
 rotate_left
 ·replace c9 := Bool.eq_false_iff.mpr c9
  subst c9
  replace H := HF H
  simp only [Option.some.injEq, Prod.mk.injEq] at H
  obtain ⟨rfl, rfl, rfl, rfl, rfl, rfl⟩ := H
  go_enter Try.func12, Try.ntmps12
  go_wp2_with (first | ((with_reducible refine G2 3 rfl ?_); refine BY 3 #[.slice aw aj.length ax] 34 HB ?_; clear HB; intro aE d7 aa aK HB) | ((with_reducible refine G2 4 rfl ?_); refine BZ 4 #[.int .i64 am, .int .i64 an, .int .i64 ao, .int .i64 ap, .int .i64 aq, .int .i64 ar, .int .i64 au, .slice ay ak.length az, .slice aA al.length aB] 48 HB ?_; clear HB; intro aF d8 hg hb ab aL HB; have ad := NP aa hg; have ae := NQ aa hg; replace aa := BV aa hb; clear hb hg) | ((with_reducible refine G2 6 rfl ?_); refine BZ 6 #[.int .i64 0, .int .i64 0, .int .i64 0, .int .i64 0, .int .i64 0] 52 HB ?_; clear HB; intro av d9 hg hb ac aM HB; have af := NP aa hg; have ag := NQ aa hg; replace aa := BV aa hb; have ah := NP ab hg; have ai := NQ ab hg; replace ab := BV ab hb; clear hb hg; have dI := ad.out; have dJ := ae.out; have dK := af.out; have dL := ag.out; obtain ⟨b2, b3⟩ := bk1 aa.out) | ((with_reducible refine G1 38 rfl ?_); refine GC (some 9) Try.func38 #[.agg #[.slice aw aj.length ax]] ?_; (with_reducible refine MB (impl_IsValidStore.calls k _ _ aj true _ (CC aC HB) aD.out A4.out) ?_); intro ea hb; replace aa := BV aa hb; replace ab := BV ab hb; replace ac := BV ac hb; replace HB := BW HB hb; (try clear hb); have dM := ah.out; have dN := ai.out; obtain ⟨b4, b6, b7, b8, ca, cb, cc, cd, ce, cf, cg, ch, ci, cj, ck, cl, cm, cn⟩ := bk9 ab.out) | (go_at_call 55; (with_reducible refine (impl_Transaction_isActive.calls k am an ao ap aq ar au _ _ ak _ _ al true _ (CC aG HB) aH.out (CC aI HB) aJ.out A6.out).mono ?_); rintro e aW ⟨rfl, hb⟩; replace aa := BV aa hb; replace ab := BV ab hb; replace ac := BV ac hb; replace HB := BW HB hb; (try clear hb)) | (go_at_call 56; (with_reducible refine (impl_isKey.calls a2 false _ A8.out).mono ?_); rintro e w' ⟨rfl, ⟨nd, rfl⟩⟩; (try (rw [drewN_self aW]; generalize hq_ : World.drewN aW _ = aW; have aY : Aside0 (aW.heap[aE]? = some (.cells #[.slice aw aj.length ax] 34 (0, 0))) := ⟨by rw [← hq_]; exact (BG1 aa)⟩; have aZ : Aside0 (aW.heap[aF]? = some (.cells #[.int .i64 am, .int .i64 an, .int .i64 ao, .int .i64 ap, .int .i64 aq, .int .i64 ar, .int .i64 au, .slice ay ak.length az, .slice aA al.length aB] 48 (0, 0))) := ⟨by rw [← hq_]; exact (BG1 ab)⟩; have ba : Aside0 (aW.heap[av]? = some (.cells #[.int .i64 0, .int .i64 0, .int .i64 0, .int .i64 0, .int .i64 0] 52 (0, 0))) := ⟨by rw [← hq_]; exact (BG1 ac)⟩; have bb : Aside0 (Below w.heap.size w aW) := ⟨by rw [← hq_]; exact (BT HB.out)⟩; clear aa ab ac HB hq_; have aa := aY; have ab := aZ; have ac := ba; have HB := bb; clear aY aZ ba bb)); obtain ⟨co, cp, cq, cr, cs, ct, cu, cv, cw, cx⟩ := bk5 ac.out))
  refine bodyPost_ret (results_ct rfl _ _ av 52 #[.int .i64 0, .int .i64 0, .int .i64 0, .int .i64 0, .int .i64 0] (0, 0) _ rfl (by (with_reducible repeat (first | refine blk_drewN ?_ _ | refine blk_drew ?_ | refine blk_alloc ?_ _)); apply BP5; (with_reducible repeat (first | refine blk_drewN ?_ _ | refine blk_drew ?_ | refine blk_alloc ?_ _)); exact ac.out) Try.underlying52 rfl (by kernel_rfl)) rfl ?_
  exact QT (BT HB.out)
 subst c9
 replace H := HT H
 obtain ⟨⟨bd, be, bf, bg, bh, dv⟩, dX, H⟩ := OB H
 simp only [Option.some.injEq, Prod.mk.injEq] at H
 obtain ⟨rfl, rfl, rfl, rfl, rfl, rfl⟩ := H
 go_enter Try.func12, Try.ntmps12
 go_wp2_with (first | ((with_reducible refine G2 3 rfl ?_); refine BY 3 #[.slice aw aj.length ax] 34 HB ?_; clear HB; intro aE eb aa aK HB) | ((with_reducible refine G2 4 rfl ?_); refine BZ 4 #[.int .i64 am, .int .i64 an, .int .i64 ao, .int .i64 ap, .int .i64 aq, .int .i64 ar, .int .i64 au, .slice ay ak.length az, .slice aA al.length aB] 48 HB ?_; clear HB; intro aF ec hg hb ab aL HB; have ad := NP aa hg; have ae := NQ aa hg; replace aa := BV aa hb; clear hb hg) | ((with_reducible refine G2 6 rfl ?_); refine BZ 6 #[.int .i64 0, .int .i64 0, .int .i64 0, .int .i64 0, .int .i64 0] 52 HB ?_; clear HB; intro av ed hg hb ac aM HB; have af := NP aa hg; have ag := NQ aa hg; replace aa := BV aa hb; have ah := NP ab hg; have ai := NQ ab hg; replace ab := BV ab hb; clear hb hg; have dO := ad.out; have dP := ae.out; have dQ := af.out; have dR := ag.out; obtain ⟨cy, cz⟩ := bk1 aa.out) | ((with_reducible refine G1 38 rfl ?_); refine GC (some 9) Try.func38 #[.agg #[.slice aw aj.length ax]] ?_; (with_reducible refine MB (impl_IsValidStore.calls k _ _ aj true _ (CC aC HB) aD.out A4.out) ?_); intro ee hb; replace aa := BV aa hb; replace ab := BV ab hb; replace ac := BV ac hb; replace HB := BW HB hb; (try clear hb); have dS := ah.out; have dT := ai.out; obtain ⟨cA, cB, cC, cD, cE, cF, cG, cH, cI, cJ, cK, cL, cM, cN, cO, cP, cQ, cR⟩ := bk9 ab.out) | (go_at_call 55; (with_reducible refine (impl_Transaction_isActive.calls k am an ao ap aq ar au _ _ ak _ _ al true _ (CC aG HB) aH.out (CC aI HB) aJ.out A6.out).mono ?_); rintro e aX ⟨rfl, hb⟩; replace aa := BV aa hb; replace ab := BV ab hb; replace ac := BV ac hb; replace HB := BW HB hb; (try clear hb)) | (go_at_call 56; (with_reducible refine (impl_isKey.calls a2 true _ A8.out).mono ?_); rintro e w' ⟨rfl, ⟨nd, rfl⟩⟩; (try (rw [drewN_self aX]; generalize hq_ : World.drewN aX _ = aX; have aY : Aside0 (aX.heap[aE]? = some (.cells #[.slice aw aj.length ax] 34 (0, 0))) := ⟨by rw [← hq_]; exact (BG1 aa)⟩; have aZ : Aside0 (aX.heap[aF]? = some (.cells #[.int .i64 am, .int .i64 an, .int .i64 ao, .int .i64 ap, .int .i64 aq, .int .i64 ar, .int .i64 au, .slice ay ak.length az, .slice aA al.length aB] 48 (0, 0))) := ⟨by rw [← hq_]; exact (BG1 ab)⟩; have ba : Aside0 (aX.heap[av]? = some (.cells #[.int .i64 0, .int .i64 0, .int .i64 0, .int .i64 0, .int .i64 0] 52 (0, 0))) := ⟨by rw [← hq_]; exact (BG1 ac)⟩; have bb : Aside0 (Below w.heap.size w aX) := ⟨by rw [← hq_]; exact (BT HB.out)⟩; clear aa ab ac HB hq_; have aa := aY; have ab := aZ; have ac := ba; have HB := bb; clear aY aZ ba bb)); obtain ⟨cS, cT⟩ := bk1 aa.out; obtain ⟨cU, cV, cW, cX, cY, cZ, c1, c8, da, db, dc, dd, de, df, dg, dh, di, dj⟩ := bk9 ab.out) | ((with_reducible refine G1 57 rfl ?_); refine GC (some 25) Try.func57 #[.agg #[.slice aw aj.length ax], .agg #[.int .i64 am, .int .i64 an, .int .i64 ao, .int .i64 ap, .int .i64 aq, .int .i64 ar, .int .i64 au, .slice ay ak.length az, .slice aA al.length aB], .int .i64 a2] ?_; (with_reducible refine MB (impl_Store_choose.calls k _ _ aj am an ao ap aq ar au _ _ ak _ _ al a2 bd be bf bg bh dv _ (CC aC HB) aD.out (CC aG HB) aH.out (CC aI HB) aJ.out dX.out) ?_); intro ef hb; replace aa := BV aa hb; replace ab := BV ab hb; replace ac := BV ac hb; replace HB := BW HB hb; (try clear hb); obtain ⟨dk, dl, dm, dn, dp, dq, dr, ds, dt, du⟩ := bk5 ac.out))
 refine bodyPost_ret (results_ct rfl _ _ av 52 #[.int .i64 bd, .int .i64 be, .int .i64 bf, .int .i64 bg, .int .i64 bh] (0, 0) _ rfl (by (with_reducible repeat (first | refine blk_drewN ?_ _ | refine blk_drew ?_ | refine blk_alloc ?_ _)); apply BP5; (with_reducible repeat (first | refine blk_drewN ?_ _ | refine blk_drew ?_ | refine blk_alloc ?_ _)); exact ac.out) Try.underlying52 rfl (by kernel_rfl)) rfl ?_
 exact QT (BT HB.out)

/-! ### spec_l1In: function 29 -/
def spec_l1In.f (a0 : Int) (a1 : Int) (a2 : Int) : Option (Bool) := if a0 ≥ a1 then (some (decide (a0 ≤ a2))) else (some false)
theorem spec_l1In.calls (a0 : Int) (a1 : Int) (a2 : Int) (r : Bool) (w : World) (h : spec_l1In.f a0 a1 a2 = some r) :
  Calls Try.prog 29 #[.int .i64 a0, .int .i64 a1, .int .i64 a2] w fun e w' => e = .returned (.bool r) ∧ Drawn0 w w' := by
 unfold spec_l1In.f at h
 have H := h
 clear h
 by_cases c4 : a0 ≥ a1
 ·rw [if_pos c4] at H
  have aa : decide (a1 ≤ a0) = true := DE c4
  clear c4
  obtain rfl := SI H
  go_enter Try.func29, Try.ntmps29
  go_wp2
  go_ret
  exact ⟨by first | rfl | (simp; done) | (simp [*]; done), by repeat (first | exact Drawn0.refl _ | apply Drawn0.step)⟩
 rw [if_neg c4] at H
 have aa : decide (a1 ≤ a0) = false := decide_eq_false c4
 clear c4
 obtain rfl := SI H
 go_enter Try.func29, Try.ntmps29
 go_wp2
 go_ret
 exact ⟨by first | rfl | (simp; done) | (simp [*]; done), by repeat (first | exact Drawn0.refl _ | apply Drawn0.step)⟩

end Go.Proofs.Ytdgknikgfjhohaa.PFnSchemes
