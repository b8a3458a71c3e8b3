-- Printed by wip/myprint.py.
import Derived.Test.YtdgknikgfjhohaaPFnSchemesx21
import Derived.Test.YtdgknikgfjhohaaPFnSchemesx25
import Derived.Test.YtdgknikgfjhohaaPFnSchemesx18
import Derived.Test.YtdgknikgfjhohaaPFnSchemesx4
namespace Go.Proofs.Ytdgknikgfjhohaa.PFnSchemes
open Go.RowKit Go.Proofs.YtdgknikgfjhohaaW.PrintWords Go.Proofs.YtdgknikgfjhohaaW.PrintLast Go.Proofs.YtdgknikgfjhohaaW.PrintMore
set_option maxHeartbeats 8000000
set_option maxRecDepth 100000
set_option linter.unusedVariables false
set_option linter.unusedSimpArgs false

/-! ### impl_Store_writeCode: function 62 -/
mutual
def impl_Store_writeCode.j0 : Nat → Int × Int → Bool → Int → Int → Int → Int → Int → Int → Int → List (S116) → List (S103) → Option (Int)
 | 0, _, _, _, _, _, _, _, _, _, _, _ => none
 | k + 1, aj, ak, ac, aa, ad, ab, ae, af, ag, ah, ai => if aa = 1 then (impl_Store_writeCode.j1 k aj ak ak ac aa ad ab ae af ag ah ai) else (impl_Store_writeCode.j1 k aj ak false ac aa ad ab ae af ag ah ai)
def impl_Store_writeCode.j1 : Nat → Int × Int → Bool → Bool → Int → Int → Int → Int → Int → Int → Int → List (S116) → List (S103) → Option (Int)
 | 0, _, _, _, _, _, _, _, _, _, _, _, _ => none
 | k + 1, aj, ak, al, ac, aa, ad, ab, ae, af, ag, ah, ai => if al = true then (some 1) else (if aa = 2 then (if ak = true then (impl_Store_writeCode.j2 k aj true ac aa ad ab ae af ag ah ai) else (impl_Store_writeCode.j2 k aj (decide (aj.1 > ab)) ac aa ad ab ae af ag ah ai)) else (impl_Store_writeCode.j2 k aj false ac aa ad ab ae af ag ah ai))
def impl_Store_writeCode.j2 : Nat → Int × Int → Bool → Int → Int → Int → Int → Int → Int → Int → List (S116) → List (S103) → Option (Int)
 | 0, _, _, _, _, _, _, _, _, _, _, _ => none
 | k + 1, aj, am, ac, aa, ad, ab, ae, af, ag, ah, ai => if am = true then (some 2) else (if aa = 4 then (if aj.2 > ab then (some 3) else (some 0)) else (some 0))
end
def impl_Store_writeCode.f (k : Nat) (ak : List (List (S52))) (l1 : List (S76)) (aa : Int) (ab : Int) (ac : Int) (ad : Int) (ae : Int) (af : Int) (ag : Int) (ah : List (S116)) (ai : List (S103)) (a3 : Int) : Option (Int) := (impl_LockOwner.f k l1 a3).bind fun aj => ((impl_Store_latest.f ak a3).bind fun bt => (if aj = 0 then (impl_Store_writeCode.j0 k (bt.2.2.1, bt.2.2.2.1) false aa ab ac ad ae af ag ah ai) else (impl_Store_writeCode.j0 k (bt.2.2.1, bt.2.2.2.1) (aj != aa) aa ab ac ad ae af ag ah ai)))
theorem impl_Store_writeCode.mono_l : ∀ k, (∀ y0 y1 y2 y3 y4 y5 y6 y7 y8 y9 aa, LeO (impl_Store_writeCode.j0 k y0 y1 y2 y3 y4 y5 y6 y7 y8 y9 aa) (impl_Store_writeCode.j0 (k + 1) y0 y1 y2 y3 y4 y5 y6 y7 y8 y9 aa)) ∧ (∀ y0 y1 y2 y3 y4 y5 y6 y7 y8 y9 aa ab, LeO (impl_Store_writeCode.j1 k y0 y1 y2 y3 y4 y5 y6 y7 y8 y9 aa ab) (impl_Store_writeCode.j1 (k + 1) y0 y1 y2 y3 y4 y5 y6 y7 y8 y9 aa ab)) ∧ (∀ y0 y1 y2 y3 y4 y5 y6 y7 y8 y9 aa, LeO (impl_Store_writeCode.j2 k y0 y1 y2 y3 y4 y5 y6 y7 y8 y9 aa) (impl_Store_writeCode.j2 (k + 1) y0 y1 y2 y3 y4 y5 y6 y7 y8 y9 aa))
 | 0 => ⟨fun _ _ _ _ _ _ _ _ _ _ _ r h => by simp [impl_Store_writeCode.j0] at h, fun _ _ _ _ _ _ _ _ _ _ _ _ r h => by simp [impl_Store_writeCode.j1] at h, fun _ _ _ _ _ _ _ _ _ _ _ r h => by simp [impl_Store_writeCode.j2] at h⟩
 | k + 1 => by
  obtain ⟨ac, ad, ae⟩ := impl_Store_writeCode.mono_l k
  refine ⟨?_, ?_, ?_⟩
  all_goals intros; first | unfold impl_Store_writeCode.j0 | unfold impl_Store_writeCode.j1 | unfold impl_Store_writeCode.j2
  all_goals repeat' (with_reducible first | exact ac .. | exact ad .. | exact ae .. | exact impl_LockOwner.mono .. | exact LeO.refl _ | exact LeO.none _ | refine LeO.ite ?_ ?_ | refine LeO.bind ?_ (fun _ => ?_))
theorem impl_Store_writeCode.mono : ∀ a0 a1 a2 a3 a4 a5 a6 a7 a8 a9 aa ab k, LeO (impl_Store_writeCode.f k a0 a1 a2 a3 a4 a5 a6 a7 a8 a9 aa ab) (impl_Store_writeCode.f (k + 1) a0 a1 a2 a3 a4 a5 a6 a7 a8 a9 aa ab) := by
 intro a0 a1 a2 a3 a4 a5 a6 a7 a8 a9 aa ab k
 obtain ⟨ac, ad, ae⟩ := impl_Store_writeCode.mono_l k
 unfold impl_Store_writeCode.f
 repeat' (with_reducible first | exact ac .. | exact ad .. | exact ae .. | exact impl_LockOwner.mono .. | exact LeO.refl _ | exact LeO.none _ | refine LeO.ite ?_ ?_ | refine LeO.bind ?_ (fun _ => ?_))
def impl_Store_writeCode.T1 : Bool × List (List Nat × List Nat) := (true, [([], []), ([], []), ([0, 1], [0, 1]), ([], []), ([], []), ([3, 4, 2], [3, 4]), ([2, 5, 0, 1, 2], [2]), ([5, 6, 0, 1, 2, 3, 4, 5, 6], [5])])
def impl_Store_writeCode.B1 : List Nat := [0, 0, 3, 0, 0, 31, 63, 127]
theorem impl_Store_writeCode.tab1 : rtab .any (opsOf Try.f62 1) = impl_Store_writeCode.T1 := by kernel_rfl
theorem impl_Store_writeCode.bits1 : waitsOk impl_Store_writeCode.T1.2 impl_Store_writeCode.B1 = true := by kernel_rfl
def impl_Store_writeCode.T5 : Bool × List (List Nat × List Nat) := (true, [([], []), ([0], [0]), ([1], [1]), ([2], [2]), ([3], [3]), ([4, 3, 3], [3, 4]), ([5], [5]), ([6, 5], [5, 6]), ([7, 5], [5, 7]), ([8, 5], [5, 8]), ([5], [5]), ([10, 5], [5, 10]), ([9, 11, 5], [5, 9, 11]), ([5, 12, 3], [3, 5, 12]), ([3, 13], [3, 13]), ([14, 5], [14])])
def impl_Store_writeCode.B5 : List Nat := [0, 1, 3, 7, 15, 31, 63, 127, 255, 511, 63, 1087, 4095, 8191, 16383, 32767]
theorem impl_Store_writeCode.tab5 : rtab .any (opsOf Try.f62 5) = impl_Store_writeCode.T5 := by kernel_rfl
theorem impl_Store_writeCode.bits5 : waitsOk impl_Store_writeCode.T5.2 impl_Store_writeCode.B5 = true := by kernel_rfl
def impl_Store_writeCode.T7 : Bool × List (List Nat × List Nat) := (true, [([], []), ([0], [0]), ([1], [1]), ([2], [2]), ([3], [3]), ([4, 3], [3, 4]), ([5, 3], [3, 5]), ([6, 3], [3, 6]), ([3], [3]), ([8, 3], [3, 8]), ([7, 9, 3], [3, 7, 9]), ([3, 10], [3, 10]), ([11, 3], [11])])
def impl_Store_writeCode.B7 : List Nat := [0, 1, 3, 7, 15, 31, 63, 127, 15, 271, 1023, 2047, 4095]
theorem impl_Store_writeCode.tab7 : rtab .any (opsOf Try.f62 7) = impl_Store_writeCode.T7 := by kernel_rfl
theorem impl_Store_writeCode.bits7 : waitsOk impl_Store_writeCode.T7.2 impl_Store_writeCode.B7 = true := by kernel_rfl
theorem impl_Store_writeCode.calls (k : Nat) (b4 : Option Addr) (aB : Nat) (ao : List (List (S52))) (A1 : Option Addr) (c1 : Nat) (l1 : List (S76)) (aj : Int) (ae : Int) (ak : Int) (af : Int) (al : Int) (am : Int) (an : Int) (au : Option Addr) (av : Nat) (ag : List (S116)) (aw : Option Addr) (ax : Nat) (ah : List (S103)) (a3 : Int) (r : Int) (w : World) (bS : Kd.C (Kd.slice 52 k52) w b4 ao.length ao) (bT : ao.length ≤ aB) (ch : Kd.C k76 w A1 l1.length l1) (ci : l1.length ≤ c1) (bU : Kd.C k116 w au ag.length ag) (bV : ag.length ≤ av) (bW : Kd.C k103 w aw ah.length ah) (bX : ah.length ≤ ax) (h : impl_Store_writeCode.f k ao l1 aj ae ak af al am an ag ah a3 = some r) :
  Calls Try.prog 62 #[.agg #[.slice b4 ao.length aB], .slice A1 l1.length c1, .agg #[.int .i64 aj, .int .i64 ae, .int .i64 ak, .int .i64 af, .int .i64 al, .int .i64 am, .int .i64 an, .slice au ag.length av, .slice aw ah.length ax], .int .i64 a3] w fun e w' => e = .returned (.int .i64 r) ∧ Below w.heap.size w w' := by
 have cy := Try.underlying34
 have cz := Try.underlying48
 have b6 := AM_ bS
 have cj := AM_ bT
 clear bS bT
 have cA := AM_ ch
 have cB := AM_ ci
 clear ch ci
 have ck := AM_ bU
 have cl := AM_ bV
 clear bU bV
 have cm := AM_ bW
 have cn := AM_ bX
 clear bW bX
 have HB := AM_ (Below.refl w.heap.size w)
 unfold impl_Store_writeCode.f at h
 have H := h
 clear h
 obtain ⟨aW, A5, H⟩ := OB H
 obtain ⟨⟨t1, t2, t3, t4, t5⟩, A6, H⟩ := OB H
 obtain ⟨q3, q4, q6, q7, adO, adI, cI, eA, co, _, _, _, ce, cf, _⟩ := impl_Store_latest_at b6.out A6.out
 subst eA
 obtain ⟨ji, hji⟩ : ∃ j : Int, j = wrap64 (((rd_L3 ao a3).length : Int) - 1) := ⟨_, rfl⟩
 rw [← hji] at ce cf
 have cp := AM_ co
 have bO := AM_ ce
 have bP := AM_ cf
 have HJ := AM_ hji
 have Q3 := AM_ q3
 have Q4 := AM_ q4
 have Q6 := AM_ q6
 have Q7 := AM_ q7
 clear co ce cf q3 q4 q6 q7 hji
 have cg := AM_ H
 clear H
 go_enter Try.func62, Try.ntmps62
 try go_wp2_with (first | ((with_reducible refine G2 4 rfl ?_); refine BY 4 #[.slice (some adO) ao.length aB] 34 HB ?_; clear HB; intro aX w8 ac cq HB) | ((with_reducible refine G2 6 rfl ?_); refine BZ 6 #[.int .i64 aj, .int .i64 ae, .int .i64 ak, .int .i64 af, .int .i64 al, .int .i64 am, .int .i64 an, .slice au ag.length av, .slice aw ah.length ax] 48 HB ?_; clear HB; intro ab w9 hg hb aa cr HB; have ap := NP ac hg; have aq := NQ ac hg; replace ac := BV ac hb; clear hb hg))
 replace ac := BD1 ac
 replace aa := BD1 aa
 replace HB := BD2 HB
 refine start_ (n := 8) (S := fun w' => w'.cell? ⟨aX, 0, none⟩ = some (.slice (some adO) ao.length aB)) (ds := []) (lo 0 8) (by kernel_rfl) rfl rfl ((blk_cell ac.out 0).trans rfl) (fun ad => ?_); refine with_tabW impl_Store_writeCode.tab1 impl_Store_writeCode.bits1 (fun ai bN => ?_)
 generalize w9.drew = cG at ac aa HB ad ⊢
 iterate 2 refine PS ai ?_
 refine PV 4 (some 16) (bs 19 8) ai ?_
 refine tk (i := 3) (N := some 15) (v := ?_) (a' := ?_) (bs 27 8) rfl rfl ai bN ?_ ad ?_ ?_
 rotate_left
 ·intro w' s0
  go_simp
  with_reducible rfl
 rotate_left
 ·simp only[pA,pS,pZ,pK,pV]
  rfl
 refine one_ (i := 2) (N := some 14) (lo 5 8) rfl rfl (one_of ai.out (by kernel_rfl)) (by decide) (fun K hK => ?_)
 refine GO Try.func99 #[.slice A1 l1.length c1, .int .i64 a3] ?_
 with_reducible refine MB (impl_LockOwner.calls k _ _ l1 a3 aW _ (CC cA HB) cB.out A5.out) ?_
 intro cH hb
 replace ac := BV ac hb
 replace aa := BV aa hb
 replace HB := BW HB hb
 (try clear hb)
 refine hK.out _ _ ((blk_cell ac.out 0).trans rfl) (fun ad => ?_)
 clear hK K
 refine NM 14 ?_
 refine OS ai (fun K hK => ?_)
 refine GO Try.func97 #[.agg #[.slice (some adO) ao.length aB], .int .i64 a3] ?_
 refine (impl_Store_latest.calls adO adI cI aB ao a3 _ Q3.out Q4.out Q6.out Q7.out ?side1).mono ?_
 (case side1 => exact (HB.out.cell (World.block_lt_of_cell? w _ cp.out)).trans cp.out)
 rintro e cJ ⟨he, hb⟩
 rw [← HJ.out] at he
 subst he
 refine ⟨_, rfl, ?_⟩
 replace ac := BV ac hb
 replace aa := BV aa hb
 replace HB := BW HB hb
 (try clear hb)
 refine hK.out _ _ ((blk_cell ac.out 0).trans rfl) (fun ad => ?_)
 clear hK K
 refine NM 17 ?_
 iterate 2 refine PS ai ?_
 refine done_ (done_of ai.out (by kernel_rfl)) ?_
 go_upto_region 2 with (fail)
 go_cut [11] (fun cC wc => ∃ (kq : Nat) (az : Bool), cC = .bool az ∧ Aside0 (impl_Store_writeCode.j0 kq (t3, t4) az aj ae ak af al am an ag ah = some r) ∧ Aside0 (kq ≤ k) ∧ Aside0 (wc.heap[aX]? = some (.cells #[(.slice (some adO) ao.length aB)] 34 (0, 0))) ∧ Aside0 (wc.heap[ab]? = some (.cells #[.int .i64 aj, .int .i64 ae, .int .i64 ak, .int .i64 af, .int .i64 al, .int .i64 am, .int .i64 an, (.slice au ag.length av), (.slice aw ah.length ax)] 48 (0, 0))) ∧ Aside0 (Below w.heap.size w wc))
 case first =>
  have H := cg.out
  clear cg
  by_cases bQ : aW = 0
  ·rw [if_pos bQ] at H
   have ar : (aW == 0) = true := beq_iff_eq.mpr bQ
   have c13b1 : (aW != 0) = false := bne_eq_false_iff_eq.mpr bQ
   clear bQ
   (first | rw [ar] | (simp only [i64_w, i32_w]; rw [ar]) | skip)
   have H' := AM_ H
   clear H
   go_wp2
   go_meet
   case rel => exact ⟨_, (false), (by first | rfl | (simp; done) | (simp [*]; done)), H', ⟨by first | omega | exact Nat.le_refl _⟩, ⟨BH ac.out⟩, ⟨BH aa.out⟩, ⟨BT HB.out⟩⟩
  rw [if_neg bQ] at H
  have ar : (aW == 0) = false := beq_eq_false_iff_ne.mpr bQ
  have c13b1 : (aW != 0) = true := bne_iff_ne.mpr bQ
  (first | rw [ar] | (simp only [i64_w, i32_w]; rw [ar]) | skip)
  have H' := AM_ H
  clear H
  have cs := aq.out
  have ct := ap.out
  obtain ⟨aC, aD, aE, aF, aG, aH, aI, aJ, aK, aL, aM, aN, aO, aP, aQ, aR, aS, aT⟩ := bk9 aa.out
  go_wp2
  go_meet
  case rel => exact ⟨_, ((aW != aj)), (by first | rfl | (simp; done) | (simp [*]; done)), H', ⟨by first | omega | exact Nat.le_refl _⟩, ⟨BH ac.out⟩, ⟨BH aa.out⟩, ⟨BT HB.out⟩⟩
 case rest =>
  clear cg
  try clear c1
  try clear bQ
  try clear ar
  try clear c13b1
  try clear aC aD aE aF aG aH aI aJ aK aL aM aN aO aP aQ aR aS aT
  obtain ⟨kq, az, rfl, HA, b7, ac, aa, HB⟩ := hcut
  cases kq with
  | zero => exact absurd HA.out (by simp [impl_Store_writeCode.j0])
  | succ kj6 =>
   have H := HA.out
   clear HA
   simp only [impl_Store_writeCode.j0] at H
   have bZ := AM_ H
   clear H
   go_upto_region 3 with (fail)
   go_cut [26] (fun cD wc => ∃ (kq : Nat) (aU : Bool), cD = .bool aU ∧ Aside0 (impl_Store_writeCode.j1 kq (t3, t4) az aU aj ae ak af al am an ag ah = some r) ∧ Aside0 (kq ≤ kj6) ∧ Aside0 (wc.heap[aX]? = some (.cells #[(.slice (some adO) ao.length aB)] 34 (0, 0))) ∧ Aside0 (wc.heap[ab]? = some (.cells #[.int .i64 aj, .int .i64 ae, .int .i64 ak, .int .i64 af, .int .i64 al, .int .i64 am, .int .i64 an, (.slice au ag.length av), (.slice aw ah.length ax)] 48 (0, 0))) ∧ Aside0 (Below w.heap.size w wc))
   case first =>
    have H := bZ.out
    clear bZ
    by_cases bR : ae = 1
    rotate_left
    ·rw [if_neg bR] at H
     have ay : (ae == 1) = false := beq_eq_false_iff_ne.mpr bR
     have c17b1 : (ae != 1) = true := bne_iff_ne.mpr bR
     (first | rw [ay] | (simp only [i64_w, i32_w]; rw [ay]) | skip)
     have H' := AM_ H
     clear H
     have cu := aq.out
     have cv := ap.out
     obtain ⟨aY, aZ, ba, bb, bd, be, bf, bg, bh, bi, bj, bk, bm, bn, bo, bp, bq, br⟩ := bk9 aa.out
     go_wp2
     go_meet
     case rel => exact ⟨_, (false), (by first | rfl | (simp; done) | (simp [*]; done)), H', ⟨by have := b7.out; first | omega | exact Nat.le_refl _⟩, ⟨BH ac.out⟩, ⟨BH aa.out⟩, ⟨BT HB.out⟩⟩
    rw [if_pos bR] at H
    have ay : (ae == 1) = true := beq_iff_eq.mpr bR
    have c17b1 : (ae != 1) = false := bne_eq_false_iff_eq.mpr bR
    clear bR
    (first | rw [ay] | (simp only [i64_w, i32_w]; rw [ay]) | skip)
    have H' := AM_ H
    clear H
    have cw := aq.out
    have cx := ap.out
    obtain ⟨bu, bv, bw, bx, bz, bA, bB, bC, bD, bE, bF, bG, bH, bI, bJ, bK, bL, bM⟩ := bk9 aa.out
    go_wp2
    go_meet
    case rel => exact ⟨_, (az), (by first | rfl | (simp; done) | (simp [*]; done)), H', ⟨by have := b7.out; first | omega | exact Nat.le_refl _⟩, ⟨BH ac.out⟩, ⟨BH aa.out⟩, ⟨BT HB.out⟩⟩
   case rest =>
    clear bZ
    try clear c1
    try clear bQ
    try clear ar
    try clear c13b1
    try clear bR
    try clear ay
    try clear c17b1
    try clear aC aD aE aF aG aH aI aJ aK
    try clear bu bv bw bx bz bA bB bC bD
    try clear aY aZ ba bb bd be bf bg bh
    try clear aL aM aN aO aP aQ aR aS aT
    try clear bE bF bG bH bI bJ bK bL bM
    try clear bi bj bk bm bn bo bp bq br
    obtain ⟨kq, aU, rfl, HA, b0, ac, aa, HB⟩ := hcut
    cases kq with
    | zero => exact absurd HA.out (by simp [impl_Store_writeCode.j1])
    | succ kj15 =>
     have H := HA.out
     clear HA
     simp only [impl_Store_writeCode.j1] at H
     by_cases b8 : aU = true
     ·subst b8
      replace H := HT H
      obtain rfl := SI H
      go_wp2
      go_ret
      exact QT (BT HB.out)
     replace b8 := Bool.eq_false_iff.mpr b8
     subst b8
     replace H := HF H
     have b1 := AM_ H
     clear H
     go_upto_region 5 with (fail)
     go_cut [33] (fun cE wc => ∃ (kq : Nat) (aV : Bool), cE = .bool aV ∧ Aside0 (impl_Store_writeCode.j2 kq (t3, t4) aV aj ae ak af al am an ag ah = some r) ∧ Aside0 (kq ≤ kj15) ∧ Aside0 (wc.heap[aX]? = some (.cells #[(.slice (some adO) ao.length aB)] 34 (0, 0))) ∧ Aside0 (wc.heap[ab]? = some (.cells #[.int .i64 aj, .int .i64 ae, .int .i64 ak, .int .i64 af, .int .i64 al, .int .i64 am, .int .i64 an, (.slice au ag.length av), (.slice aw ah.length ax)] 48 (0, 0))) ∧ Aside0 (Below w.heap.size w wc))
     case first =>
      have H := b1.out
      clear b1
      by_cases bY : ae = 2
      rotate_left
      ·rw [if_neg bY] at H
       have aA : (ae == 2) = false := beq_eq_false_iff_ne.mpr bY
       have c24b1 : (ae != 2) = true := bne_iff_ne.mpr bY
       (first | rw [aA] | (simp only [i64_w, i32_w]; rw [aA]) | skip)
       have H' := AM_ H
       clear H
       try go_wp2
       replace ac := BD1 ac
       replace aa := BD1 aa
       replace HB := BD2 HB
       refine start_ (n := 16) (S := fun w' => w'.cell? ⟨ab, 0, none⟩ = some (.int .i64 aj) ∧ w'.cell? ⟨ab, 1, none⟩ = some (.int .i64 ae) ∧ w'.cell? ⟨ab, 2, none⟩ = some (.int .i64 ak) ∧ w'.cell? ⟨ab, 3, none⟩ = some (.int .i64 af) ∧ w'.cell? ⟨ab, 4, none⟩ = some (.int .i64 al) ∧ w'.cell? ⟨ab, 5, none⟩ = some (.int .i64 am) ∧ w'.cell? ⟨ab, 6, none⟩ = some (.int .i64 an) ∧ w'.cell? ⟨ab, 7, none⟩ = some (.slice au ag.length av) ∧ w'.cell? ⟨ab, 8, none⟩ = some (.slice aw ah.length ax) ∧ w'.cell? ⟨(adI.add (ji.toNat * 5)).block, (adI.add (ji.toNat * 5)).off + 2, none⟩ = some (.int .i64 t3) ∧ w'.cell? ⟨(adI.add (ji.toNat * 5)).block, (adI.add (ji.toNat * 5)).off + 3, none⟩ = some (.int .i64 t4)) (ds := []) (lo 0 16) (by kernel_rfl) rfl rfl ⟨bc aa.out 0, bc aa.out 1, bc aa.out 2, bc aa.out 3, bc aa.out 4, bc aa.out 5, bc aa.out 6, bc aa.out 7, bc aa.out 8, (HB.out.cell (World.block_lt_of_cell? w _ bO.out)).trans bO.out, (HB.out.cell (World.block_lt_of_cell? w _ bP.out)).trans bP.out⟩ (fun ad => ?_); refine with_tabW impl_Store_writeCode.tab5 impl_Store_writeCode.bits5 (fun ai bN => ?_)
       generalize wc.drew = cK at ac aa HB ad ⊢
       iterate 16 first | refine PS ai ?_ | refine PT ai ?_ | refine TS ai bN ad ?_
       refine done_ (done_of ai.out (by kernel_rfl)) ?_
       try go_wp2
       go_meet
       case rel => exact ⟨_, (false), (by first | rfl | (simp; done) | (simp [*]; done)), H', ⟨by have := b7.out; have := b0.out; first | omega | exact Nat.le_refl _⟩, ⟨BH ac.out⟩, ⟨BH aa.out⟩, ⟨BT HB.out⟩⟩
      rw [if_pos bY] at H
      have aA : (ae == 2) = true := beq_iff_eq.mpr bY
      have c24b1 : (ae != 2) = false := bne_eq_false_iff_eq.mpr bY
      clear bY
      (first | rw [aA] | (simp only [i64_w, i32_w]; rw [aA]) | skip)
      by_cases ca : az = true
      ·subst ca
       replace H := HT H
       have H' := AM_ H
       clear H
       try go_wp2
       replace ac := BD1 ac
       replace aa := BD1 aa
       replace HB := BD2 HB
       refine start_ (n := 16) (S := fun w' => w'.cell? ⟨ab, 0, none⟩ = some (.int .i64 aj) ∧ w'.cell? ⟨ab, 1, none⟩ = some (.int .i64 ae) ∧ w'.cell? ⟨ab, 2, none⟩ = some (.int .i64 ak) ∧ w'.cell? ⟨ab, 3, none⟩ = some (.int .i64 af) ∧ w'.cell? ⟨ab, 4, none⟩ = some (.int .i64 al) ∧ w'.cell? ⟨ab, 5, none⟩ = some (.int .i64 am) ∧ w'.cell? ⟨ab, 6, none⟩ = some (.int .i64 an) ∧ w'.cell? ⟨ab, 7, none⟩ = some (.slice au ag.length av) ∧ w'.cell? ⟨ab, 8, none⟩ = some (.slice aw ah.length ax) ∧ w'.cell? ⟨(adI.add (ji.toNat * 5)).block, (adI.add (ji.toNat * 5)).off + 2, none⟩ = some (.int .i64 t3) ∧ w'.cell? ⟨(adI.add (ji.toNat * 5)).block, (adI.add (ji.toNat * 5)).off + 3, none⟩ = some (.int .i64 t4)) (ds := []) (lo 0 16) (by kernel_rfl) rfl rfl ⟨bc aa.out 0, bc aa.out 1, bc aa.out 2, bc aa.out 3, bc aa.out 4, bc aa.out 5, bc aa.out 6, bc aa.out 7, bc aa.out 8, (HB.out.cell (World.block_lt_of_cell? w _ bO.out)).trans bO.out, (HB.out.cell (World.block_lt_of_cell? w _ bP.out)).trans bP.out⟩ (fun ad => ?_); refine with_tabW impl_Store_writeCode.tab5 impl_Store_writeCode.bits5 (fun ai bN => ?_)
       generalize wc.drew = cL at ac aa HB ad ⊢
       iterate 16 first | refine PS ai ?_ | refine PT ai ?_ | refine TS ai bN ad ?_
       refine done_ (done_of ai.out (by kernel_rfl)) ?_
       try go_wp2
       go_meet
       case rel => exact ⟨_, (true), (by first | rfl | (simp; done) | (simp [*]; done)), H', ⟨by have := b7.out; have := b0.out; first | omega | exact Nat.le_refl _⟩, ⟨BH ac.out⟩, ⟨BH aa.out⟩, ⟨BT HB.out⟩⟩
      replace ca := Bool.eq_false_iff.mpr ca
      subst ca
      replace H := HF H
      have H' := AM_ H
      clear H
      try go_wp2
      replace ac := BD1 ac
      replace aa := BD1 aa
      replace HB := BD2 HB
      refine start_ (n := 16) (S := fun w' => w'.cell? ⟨ab, 0, none⟩ = some (.int .i64 aj) ∧ w'.cell? ⟨ab, 1, none⟩ = some (.int .i64 ae) ∧ w'.cell? ⟨ab, 2, none⟩ = some (.int .i64 ak) ∧ w'.cell? ⟨ab, 3, none⟩ = some (.int .i64 af) ∧ w'.cell? ⟨ab, 4, none⟩ = some (.int .i64 al) ∧ w'.cell? ⟨ab, 5, none⟩ = some (.int .i64 am) ∧ w'.cell? ⟨ab, 6, none⟩ = some (.int .i64 an) ∧ w'.cell? ⟨ab, 7, none⟩ = some (.slice au ag.length av) ∧ w'.cell? ⟨ab, 8, none⟩ = some (.slice aw ah.length ax) ∧ w'.cell? ⟨(adI.add (ji.toNat * 5)).block, (adI.add (ji.toNat * 5)).off + 2, none⟩ = some (.int .i64 t3) ∧ w'.cell? ⟨(adI.add (ji.toNat * 5)).block, (adI.add (ji.toNat * 5)).off + 3, none⟩ = some (.int .i64 t4)) (ds := []) (lo 0 16) (by kernel_rfl) rfl rfl ⟨bc aa.out 0, bc aa.out 1, bc aa.out 2, bc aa.out 3, bc aa.out 4, bc aa.out 5, bc aa.out 6, bc aa.out 7, bc aa.out 8, (HB.out.cell (World.block_lt_of_cell? w _ bO.out)).trans bO.out, (HB.out.cell (World.block_lt_of_cell? w _ bP.out)).trans bP.out⟩ (fun ad => ?_); refine with_tabW impl_Store_writeCode.tab5 impl_Store_writeCode.bits5 (fun ai bN => ?_)
      generalize wc.drew = cM at ac aa HB ad ⊢
      iterate 16 first | refine PS ai ?_ | refine TS ai bN ad ?_
      refine done_ (done_of ai.out (by kernel_rfl)) ?_
      try go_wp2
      go_meet
      case rel => exact ⟨_, (decide (t3 > af)), (by first | rfl | (simp; done) | (simp [*]; done)), H', ⟨by have := b7.out; have := b0.out; first | omega | exact Nat.le_refl _⟩, ⟨BH ac.out⟩, ⟨BH aa.out⟩, ⟨BT HB.out⟩⟩
     case rest =>
      clear b1
      try clear c1
      try clear bQ
      try clear ar
      try clear c13b1
      try clear bR
      try clear ay
      try clear c17b1
      try clear b8
      try clear bY
      try clear aA
      try clear c24b1
      try clear ca
      try clear aC aD aE aF aG aH aI aJ aK
      try clear bu bv bw bx bz bA bB bC bD
      try clear aY aZ ba bb bd be bf bg bh
      try clear aL aM aN aO aP aQ aR aS aT
      try clear bE bF bG bH bI bJ bK bL bM
      try clear bi bj bk bm bn bo bp bq br
      obtain ⟨kq, aV, rfl, HA, cF, ac, aa, HB⟩ := hcut
      cases kq with
      | zero => exact absurd HA.out (by simp [impl_Store_writeCode.j2])
      | succ kj22 =>
       have H := HA.out
       clear HA
       simp only [impl_Store_writeCode.j2] at H
       by_cases cd : aV = true
       ·subst cd
        replace H := HT H
        obtain rfl := SI H
        go_wp2
        go_ret
        exact QT (BT HB.out)
       replace cd := Bool.eq_false_iff.mpr cd
       subst cd
       replace H := HF H
       by_cases b2 : ae = 4
       rotate_left
       ·rw [if_neg b2] at H
        have cb : (ae == 4) = false := beq_eq_false_iff_ne.mpr b2
        have c30b1 : (ae != 4) = true := bne_iff_ne.mpr b2
        obtain rfl := SI H
        try go_wp2
        replace ac := BD1 ac
        replace aa := BD1 aa
        replace HB := BD2 HB
        refine start_ (n := 13) (S := fun w' => w'.cell? ⟨ab, 0, none⟩ = some (.int .i64 aj) ∧ w'.cell? ⟨ab, 1, none⟩ = some (.int .i64 ae) ∧ w'.cell? ⟨ab, 2, none⟩ = some (.int .i64 ak) ∧ w'.cell? ⟨ab, 3, none⟩ = some (.int .i64 af) ∧ w'.cell? ⟨ab, 4, none⟩ = some (.int .i64 al) ∧ w'.cell? ⟨ab, 5, none⟩ = some (.int .i64 am) ∧ w'.cell? ⟨ab, 6, none⟩ = some (.int .i64 an) ∧ w'.cell? ⟨ab, 7, none⟩ = some (.slice au ag.length av) ∧ w'.cell? ⟨ab, 8, none⟩ = some (.slice aw ah.length ax) ∧ w'.cell? ⟨(adI.add (ji.toNat * 5)).block, (adI.add (ji.toNat * 5)).off + 2, none⟩ = some (.int .i64 t3) ∧ w'.cell? ⟨(adI.add (ji.toNat * 5)).block, (adI.add (ji.toNat * 5)).off + 3, none⟩ = some (.int .i64 t4)) (ds := []) (lo 0 13) (by kernel_rfl) rfl rfl ⟨bc aa.out 0, bc aa.out 1, bc aa.out 2, bc aa.out 3, bc aa.out 4, bc aa.out 5, bc aa.out 6, bc aa.out 7, bc aa.out 8, (HB.out.cell (World.block_lt_of_cell? w _ bO.out)).trans bO.out, (HB.out.cell (World.block_lt_of_cell? w _ bP.out)).trans bP.out⟩ (fun ad => ?_); refine with_tabW impl_Store_writeCode.tab7 impl_Store_writeCode.bits7 (fun ai bN => ?_)
        generalize wc.drew = cN at ac aa HB ad ⊢
        iterate 13 first | refine PS ai ?_ | refine PT ai ?_ | refine TS ai bN ad ?_
        refine done_ (done_of ai.out (by kernel_rfl)) ?_
        try go_wp2
        go_ret
        exact QT (BT HB.out)
       rw [if_pos b2] at H
       have cb : (ae == 4) = true := beq_iff_eq.mpr b2
       have c30b1 : (ae != 4) = false := bne_eq_false_iff_eq.mpr b2
       clear b2
       by_cases b3 : t4 > af
       ·rw [if_pos b3] at H
        have cc : decide (af < t4) = true := DE b3
        clear b3
        obtain rfl := SI H
        try go_wp2
        replace ac := BD1 ac
        replace aa := BD1 aa
        replace HB := BD2 HB
        refine start_ (n := 13) (S := fun w' => w'.cell? ⟨ab, 0, none⟩ = some (.int .i64 aj) ∧ w'.cell? ⟨ab, 1, none⟩ = some (.int .i64 ae) ∧ w'.cell? ⟨ab, 2, none⟩ = some (.int .i64 ak) ∧ w'.cell? ⟨ab, 3, none⟩ = some (.int .i64 af) ∧ w'.cell? ⟨ab, 4, none⟩ = some (.int .i64 al) ∧ w'.cell? ⟨ab, 5, none⟩ = some (.int .i64 am) ∧ w'.cell? ⟨ab, 6, none⟩ = some (.int .i64 an) ∧ w'.cell? ⟨ab, 7, none⟩ = some (.slice au ag.length av) ∧ w'.cell? ⟨ab, 8, none⟩ = some (.slice aw ah.length ax) ∧ w'.cell? ⟨(adI.add (ji.toNat * 5)).block, (adI.add (ji.toNat * 5)).off + 2, none⟩ = some (.int .i64 t3) ∧ w'.cell? ⟨(adI.add (ji.toNat * 5)).block, (adI.add (ji.toNat * 5)).off + 3, none⟩ = some (.int .i64 t4)) (ds := []) (lo 0 13) (by kernel_rfl) rfl rfl ⟨bc aa.out 0, bc aa.out 1, bc aa.out 2, bc aa.out 3, bc aa.out 4, bc aa.out 5, bc aa.out 6, bc aa.out 7, bc aa.out 8, (HB.out.cell (World.block_lt_of_cell? w _ bO.out)).trans bO.out, (HB.out.cell (World.block_lt_of_cell? w _ bP.out)).trans bP.out⟩ (fun ad => ?_); refine with_tabW impl_Store_writeCode.tab7 impl_Store_writeCode.bits7 (fun ai bN => ?_)
        generalize wc.drew = cO at ac aa HB ad ⊢
        iterate 13 first | refine PS ai ?_ | refine TS ai bN ad ?_
        refine done_ (done_of ai.out (by kernel_rfl)) ?_
        try go_wp2
        go_ret
        exact QT (BT HB.out)
       rw [if_neg b3] at H
       have cc : decide (af < t4) = false := decide_eq_false b3
       clear b3
       obtain rfl := SI H
       try go_wp2
       replace ac := BD1 ac
       replace aa := BD1 aa
       replace HB := BD2 HB
       refine start_ (n := 13) (S := fun w' => w'.cell? ⟨ab, 0, none⟩ = some (.int .i64 aj) ∧ w'.cell? ⟨ab, 1, none⟩ = some (.int .i64 ae) ∧ w'.cell? ⟨ab, 2, none⟩ = some (.int .i64 ak) ∧ w'.cell? ⟨ab, 3, none⟩ = some (.int .i64 af) ∧ w'.cell? ⟨ab, 4, none⟩ = some (.int .i64 al) ∧ w'.cell? ⟨ab, 5, none⟩ = some (.int .i64 am) ∧ w'.cell? ⟨ab, 6, none⟩ = some (.int .i64 an) ∧ w'.cell? ⟨ab, 7, none⟩ = some (.slice au ag.length av) ∧ w'.cell? ⟨ab, 8, none⟩ = some (.slice aw ah.length ax) ∧ w'.cell? ⟨(adI.add (ji.toNat * 5)).block, (adI.add (ji.toNat * 5)).off + 2, none⟩ = some (.int .i64 t3) ∧ w'.cell? ⟨(adI.add (ji.toNat * 5)).block, (adI.add (ji.toNat * 5)).off + 3, none⟩ = some (.int .i64 t4)) (ds := []) (lo 0 13) (by kernel_rfl) rfl rfl ⟨bc aa.out 0, bc aa.out 1, bc aa.out 2, bc aa.out 3, bc aa.out 4, bc aa.out 5, bc aa.out 6, bc aa.out 7, bc aa.out 8, (HB.out.cell (World.block_lt_of_cell? w _ bO.out)).trans bO.out, (HB.out.cell (World.block_lt_of_cell? w _ bP.out)).trans bP.out⟩ (fun ad => ?_); refine with_tabW impl_Store_writeCode.tab7 impl_Store_writeCode.bits7 (fun ai bN => ?_)
       generalize wc.drew = cP at ac aa HB ad ⊢
       iterate 13 first | refine PS ai ?_ | refine TS ai bN ad ?_
       refine done_ (done_of ai.out (by kernel_rfl)) ?_
       try go_wp2
       go_ret
       exact QT (BT HB.out)


/-! ### impl_WriteCode: function 18 -/
def impl_WriteCode.f (k : Nat) (aa : List (List (S52))) (l1 : List (S76)) (ab : Int) (ac : Int) (ad : Int) (ae : Int) (af : Int) (ag : Int) (ah : Int) (ai : List (S116)) (aj : List (S103)) (a3 : Int) : Option (Int) := (impl_IsValidStore.f k aa).bind fun ak => (if ak = true then ((impl_Transaction_isActive.f k ab ac ad ae af ag ah ai aj).bind fun al => (if al = true then ((impl_isKey.f a3).bind fun am => (if am = true then ((impl_AreLocks.f k l1).bind fun an => (if an = true then ((impl_Store_writeCode.f k aa l1 ab ac ad ae af ag ah ai aj a3).bind fun ao => (some ao)) else (some 6))) else (some 6))) else (some 6))) else (some 6))
theorem impl_WriteCode.mono : ∀ a0 a1 a2 a3 a4 a5 a6 a7 a8 a9 aa ab k, LeO (impl_WriteCode.f k a0 a1 a2 a3 a4 a5 a6 a7 a8 a9 aa ab) (impl_WriteCode.f (k + 1) a0 a1 a2 a3 a4 a5 a6 a7 a8 a9 aa ab) := by
 intro a0 a1 a2 a3 a4 a5 a6 a7 a8 a9 aa ab k
 unfold impl_WriteCode.f
 repeat' (with_reducible first | exact impl_AreLocks.mono .. | exact impl_IsValidStore.mono .. | exact impl_Store_writeCode.mono .. | exact impl_Transaction_isActive.mono .. | exact LeO.refl _ | exact LeO.none _ | refine LeO.ite ?_ ?_ | refine LeO.bind ?_ (fun _ => ?_))
theorem impl_WriteCode.calls (k : Nat) (ah : Option Addr) (ai : Nat) (ae : List (List (S52))) (A1 : Option Addr) (c1 : Nat) (l1 : List (S76)) (aj : Int) (ak : Int) (al : Int) (am : Int) (an : Int) (ao : Int) (ap : Int) (au : Option Addr) (av : Nat) (af : List (S116)) (aw : Option Addr) (ax : Nat) (ag : List (S103)) (a3 : Int) (r : Int) (w : World) (aG : Kd.C (Kd.slice 52 k52) w ah ae.length ae) (aH : ae.length ≤ ai) (cR : Kd.C k76 w A1 l1.length l1) (cS : l1.length ≤ c1) (aI : Kd.C k116 w au af.length af) (aJ : af.length ≤ av) (aK : Kd.C k103 w aw ag.length ag) (aL : ag.length ≤ ax) (h : impl_WriteCode.f k ae l1 aj ak al am an ao ap af ag a3 = some r) :
  Calls Try.prog 18 #[.agg #[.slice ah ae.length ai], .slice A1 l1.length c1, .agg #[.int .i64 aj, .int .i64 ak, .int .i64 al, .int .i64 am, .int .i64 an, .int .i64 ao, .int .i64 ap, .slice au af.length av, .slice aw ag.length ax], .int .i64 a3] w fun e w' => e = .returned (.int .i64 r) ∧ Below w.heap.size w w' := by
 have de := Try.underlying34
 have df := Try.underlying48
 have aq := AM_ aG
 have ar := AM_ aH
 clear aG aH
 have cK := AM_ cR
 have cL := AM_ cS
 clear cR cS
 have ay := AM_ aI
 have az := AM_ aJ
 clear aI aJ
 have aA := AM_ aK
 have aB := AM_ aL
 clear aK aL
 have HB := AM_ (Below.refl w.heap.size w)
 unfold impl_WriteCode.f at h
 have H := h
 clear h
 obtain ⟨cM, A5, H⟩ := OB H
 by_cases c6 : cM = true
 rotate_left
 ·replace c6 := Bool.eq_false_iff.mpr c6
  subst c6
  replace H := HF H
  obtain rfl := SI H
  go_enter Try.func18, Try.ntmps18
  go_wp2_with (first | ((with_reducible refine G2 4 rfl ?_); refine BY 4 #[.slice ah ae.length ai] 34 HB ?_; clear HB; intro aC dh aa aD HB) | ((with_reducible refine G2 6 rfl ?_); refine BZ 6 #[.int .i64 aj, .int .i64 ak, .int .i64 al, .int .i64 am, .int .i64 an, .int .i64 ao, .int .i64 ap, .slice au af.length av, .slice aw ag.length ax] 48 HB ?_; clear HB; intro aE di hg hb ab aF HB; have ac := NP aa hg; have ad := NQ aa hg; replace aa := BV aa hb; clear hb hg; have cT := ac.out; have cU := ad.out; obtain ⟨aM, aN⟩ := bk1 aa.out) | ((with_reducible refine G1 38 rfl ?_); refine GC (some 10) Try.func38 #[.agg #[.slice ah ae.length ai]] ?_; (with_reducible refine MB (impl_IsValidStore.calls k _ _ ae false _ (CC aq HB) ar.out A5.out) ?_); intro dj hb; replace aa := BV aa hb; replace ab := BV ab hb; replace HB := BW HB hb; (try clear hb)))
  go_ret
  exact QT (BT HB.out)
 subst c6
 replace H := HT H
 obtain ⟨cN, A7, H⟩ := OB H
 by_cases c8 : cN = true
 rotate_left
 ·replace c8 := Bool.eq_false_iff.mpr c8
  subst c8
  replace H := HF H
  obtain rfl := SI H
  go_enter Try.func18, Try.ntmps18
  go_wp2_with (first | ((with_reducible refine G2 4 rfl ?_); refine BY 4 #[.slice ah ae.length ai] 34 HB ?_; clear HB; intro aC dk aa aD HB) | ((with_reducible refine G2 6 rfl ?_); refine BZ 6 #[.int .i64 aj, .int .i64 ak, .int .i64 al, .int .i64 am, .int .i64 an, .int .i64 ao, .int .i64 ap, .slice au af.length av, .slice aw ag.length ax] 48 HB ?_; clear HB; intro aE dl hg hb ab aF HB; have ac := NP aa hg; have ad := NQ aa hg; replace aa := BV aa hb; clear hb hg; have cV := ac.out; have cW := ad.out; obtain ⟨aO, aP⟩ := bk1 aa.out) | ((with_reducible refine G1 38 rfl ?_); refine GC (some 10) Try.func38 #[.agg #[.slice ah ae.length ai]] ?_; (with_reducible refine MB (impl_IsValidStore.calls k _ _ ae true _ (CC aq HB) ar.out A5.out) ?_); intro dm hb; replace aa := BV aa hb; replace ab := BV ab hb; replace HB := BW HB hb; (try clear hb); obtain ⟨aQ, aR, aS, aT, aU, aV, aW, aX, aY, aZ, ba, bb, bd, be, bf, bg, bh, bi⟩ := bk9 ab.out) | (go_at_call 55; (with_reducible refine (impl_Transaction_isActive.calls k aj ak al am an ao ap _ _ af _ _ ag false _ (CC ay HB) az.out (CC aA HB) aB.out A7.out).mono ?_); rintro e dn ⟨rfl, hb⟩; replace aa := BV aa hb; replace ab := BV ab hb; replace HB := BW HB hb; (try clear hb)))
  go_ret
  exact QT (BT HB.out)
 subst c8
 replace H := HT H
 obtain ⟨cO, A9, H⟩ := OB H
 by_cases bj : cO = true
 rotate_left
 ·replace bj := Bool.eq_false_iff.mpr bj
  subst bj
  replace H := HF H
  obtain rfl := SI H
  go_enter Try.func18, Try.ntmps18
  go_wp2_with (first | ((with_reducible refine G2 4 rfl ?_); refine BY 4 #[.slice ah ae.length ai] 34 HB ?_; clear HB; intro aC dp aa aD HB) | ((with_reducible refine G2 6 rfl ?_); refine BZ 6 #[.int .i64 aj, .int .i64 ak, .int .i64 al, .int .i64 am, .int .i64 an, .int .i64 ao, .int .i64 ap, .slice au af.length av, .slice aw ag.length ax] 48 HB ?_; clear HB; intro aE dq hg hb ab aF HB; have ac := NP aa hg; have ad := NQ aa hg; replace aa := BV aa hb; clear hb hg; have cX := ac.out; have cY := ad.out; obtain ⟨bk, bm⟩ := bk1 aa.out) | ((with_reducible refine G1 38 rfl ?_); refine GC (some 10) Try.func38 #[.agg #[.slice ah ae.length ai]] ?_; (with_reducible refine MB (impl_IsValidStore.calls k _ _ ae true _ (CC aq HB) ar.out A5.out) ?_); intro dr hb; replace aa := BV aa hb; replace ab := BV ab hb; replace HB := BW HB hb; (try clear hb); obtain ⟨bn, bo, bp, bq, br, bu, bv, bw, bx, bz, bA, bB, bC, bD, bE, bF, bG, bH⟩ := bk9 ab.out) | (go_at_call 55; (with_reducible refine (impl_Transaction_isActive.calls k aj ak al am an ao ap _ _ af _ _ ag true _ (CC ay HB) az.out (CC aA HB) aB.out A7.out).mono ?_); rintro e dt ⟨rfl, hb⟩; replace aa := BV aa hb; replace ab := BV ab hb; replace HB := BW HB hb; (try clear hb)) | (go_at_call 56; (with_reducible refine (impl_isKey.calls a3 false _ A9.out).mono ?_); rintro e w' ⟨rfl, ⟨nd, rfl⟩⟩))
  go_ret
  exact QT (BT HB.out)
 subst bj
 replace H := HT H
 obtain ⟨cP, cZ, H⟩ := OB H
 by_cases bI : cP = true
 rotate_left
 ·replace bI := Bool.eq_false_iff.mpr bI
  subst bI
  replace H := HF H
  obtain rfl := SI H
  go_enter Try.func18, Try.ntmps18
  go_wp2_with (first | ((with_reducible refine G2 4 rfl ?_); refine BY 4 #[.slice ah ae.length ai] 34 HB ?_; clear HB; intro aC du aa aD HB) | ((with_reducible refine G2 6 rfl ?_); refine BZ 6 #[.int .i64 aj, .int .i64 ak, .int .i64 al, .int .i64 am, .int .i64 an, .int .i64 ao, .int .i64 ap, .slice au af.length av, .slice aw ag.length ax] 48 HB ?_; clear HB; intro aE dv hg hb ab aF HB; have ac := NP aa hg; have ad := NQ aa hg; replace aa := BV aa hb; clear hb hg; have da := ac.out; have db := ad.out; obtain ⟨bJ, bK⟩ := bk1 aa.out) | ((with_reducible refine G1 38 rfl ?_); refine GC (some 10) Try.func38 #[.agg #[.slice ah ae.length ai]] ?_; (with_reducible refine MB (impl_IsValidStore.calls k _ _ ae true _ (CC aq HB) ar.out A5.out) ?_); intro dw hb; replace aa := BV aa hb; replace ab := BV ab hb; replace HB := BW HB hb; (try clear hb); obtain ⟨bL, bM, bN, bO, bP, bQ, bR, bS, bT, bU, bV, bW, bX, bY, bZ, b0, b1, b2⟩ := bk9 ab.out) | (go_at_call 55; (with_reducible refine (impl_Transaction_isActive.calls k aj ak al am an ao ap _ _ af _ _ ag true _ (CC ay HB) az.out (CC aA HB) aB.out A7.out).mono ?_); rintro e dx ⟨rfl, hb⟩; replace aa := BV aa hb; replace ab := BV ab hb; replace HB := BW HB hb; (try clear hb)) | (go_at_call 56; (with_reducible refine (impl_isKey.calls a3 true _ A9.out).mono ?_); rintro e w' ⟨rfl, ⟨nd, rfl⟩⟩) | (go_at_call 39; (with_reducible refine (impl_AreLocks.calls k _ _ l1 false _ ?side1 cL.out cZ.out).mono ?_); (case side1 => repeat (first | exact (Kd.C_below cK.out (BT HB.out)) | (with_reducible refine Kd.C_alloc ?_ _) | (with_reducible refine Kd.C_drewN ?_ _) | (with_reducible refine Kd.C_drew ?_))); rintro e dy ⟨rfl, hb⟩; replace aa := BV aa hb; replace ab := BV ab hb; replace HB := BW HB hb; (try clear hb)))
  go_ret
  exact QT (BT HB.out)
 subst bI
 replace H := HT H
 obtain ⟨cQ, dg, H⟩ := OB H
 obtain rfl := SI H
 go_enter Try.func18, Try.ntmps18
 go_wp2_with (first | ((with_reducible refine G2 4 rfl ?_); refine BY 4 #[.slice ah ae.length ai] 34 HB ?_; clear HB; intro aC dz aa aD HB) | ((with_reducible refine G2 6 rfl ?_); refine BZ 6 #[.int .i64 aj, .int .i64 ak, .int .i64 al, .int .i64 am, .int .i64 an, .int .i64 ao, .int .i64 ap, .slice au af.length av, .slice aw ag.length ax] 48 HB ?_; clear HB; intro aE dA hg hb ab aF HB; have ac := NP aa hg; have ad := NQ aa hg; replace aa := BV aa hb; clear hb hg; have dc := ac.out; have dd := ad.out; obtain ⟨b3, b4⟩ := bk1 aa.out) | ((with_reducible refine G1 38 rfl ?_); refine GC (some 10) Try.func38 #[.agg #[.slice ah ae.length ai]] ?_; (with_reducible refine MB (impl_IsValidStore.calls k _ _ ae true _ (CC aq HB) ar.out A5.out) ?_); intro dB hb; replace aa := BV aa hb; replace ab := BV ab hb; replace HB := BW HB hb; (try clear hb); obtain ⟨b6, b7, b8, ca, cb, cc, cd, ce, cf, cg, ch, ci, cj, ck, cl, cm, cn, co⟩ := bk9 ab.out) | (go_at_call 55; (with_reducible refine (impl_Transaction_isActive.calls k aj ak al am an ao ap _ _ af _ _ ag true _ (CC ay HB) az.out (CC aA HB) aB.out A7.out).mono ?_); rintro e dC ⟨rfl, hb⟩; replace aa := BV aa hb; replace ab := BV ab hb; replace HB := BW HB hb; (try clear hb)) | (go_at_call 56; (with_reducible refine (impl_isKey.calls a3 true _ A9.out).mono ?_); rintro e w' ⟨rfl, ⟨nd, rfl⟩⟩) | (go_at_call 39; (with_reducible refine (impl_AreLocks.calls k _ _ l1 true _ ?side1 cL.out cZ.out).mono ?_); (case side1 => repeat (first | exact (Kd.C_below cK.out (BT HB.out)) | (with_reducible refine Kd.C_alloc ?_ _) | (with_reducible refine Kd.C_drewN ?_ _) | (with_reducible refine Kd.C_drew ?_))); rintro e dD ⟨rfl, hb⟩; replace aa := BV aa hb; replace ab := BV ab hb; replace HB := BW HB hb; (try clear hb); obtain ⟨cp, cq⟩ := bk1 aa.out; obtain ⟨cr, cs, ct, cu, cv, cw, cx, cy, cz, cA, cB, cC, cD, cE, cF, cG, cH, cJ⟩ := bk9 ab.out) | ((with_reducible refine G1 62 rfl ?_); refine GC (some 31) Try.func62 #[.agg #[.slice ah ae.length ai], .slice A1 l1.length c1, .agg #[.int .i64 aj, .int .i64 ak, .int .i64 al, .int .i64 am, .int .i64 an, .int .i64 ao, .int .i64 ap, .slice au af.length av, .slice aw ag.length ax], .int .i64 a3] ?_; (with_reducible refine MB (impl_Store_writeCode.calls k _ _ ae _ _ l1 aj ak al am an ao ap _ _ af _ _ ag a3 cQ _ (CC aq HB) ar.out (CC cK HB) cL.out (CC ay HB) az.out (CC aA HB) aB.out dg.out) ?_); intro dE hb; replace aa := BV aa hb; replace ab := BV ab hb; replace HB := BW HB hb; (try clear hb)))
 go_ret
 exact QT (BT HB.out)

/-! ### spec_AreLocks: function 27 -/
def spec_AreLocks.l0 : Nat → List (S76) → Int → Option (Bool)
 | 0, _, _ => none
 | k + 1, x0, x3 => if x3 < (x0.length : Int) then (if 0 ≤ x3 then ((spec_l1In.f ((rd_T76 x0 x3).f0) 0 5).bind fun aa => (if aa = true then ((spec_l1In.f ((rd_T76 x0 x3).f1) 1 9).bind fun ab => (if ab = true then (if x3 > 0 then (if 0 ≤ (wrap64 (x3 - 1)) then (if (wrap64 (x3 - 1)) < (x0.length : Int) then (if ((rd_T76 x0 (wrap64 (x3 - 1))).f0) ≥ ((rd_T76 x0 x3).f0) then (some false) else (spec_AreLocks.l0 k x0 (wrap64 (x3 + 1)))) else (none)) else (none)) else (spec_AreLocks.l0 k x0 (wrap64 (x3 + 1)))) else (some false))) else (some false))) else (none)) else (some true)
def spec_AreLocks.f (k : Nat) (l0 : List (S76)) : Option (Bool) := spec_AreLocks.l0 k l0 0
theorem spec_AreLocks.mono_l : ∀ k, (∀ y0 y1, LeO (spec_AreLocks.l0 k y0 y1) (spec_AreLocks.l0 (k + 1) y0 y1))
 | 0 => fun _ _ r h => by simp [spec_AreLocks.l0] at h
 | k + 1 => by
  have aa := spec_AreLocks.mono_l k
  all_goals intros; unfold spec_AreLocks.l0
  all_goals repeat' (with_reducible first | exact aa .. | exact LeO.refl _ | exact LeO.none _ | refine LeO.ite ?_ ?_ | refine LeO.bind ?_ (fun _ => ?_))
theorem spec_AreLocks.mono : ∀ a0 k, LeO (spec_AreLocks.f k a0) (spec_AreLocks.f (k + 1) a0) := by
 intro a0 k
 have aa := spec_AreLocks.mono_l k
 unfold spec_AreLocks.f
 repeat' (with_reducible first | exact aa .. | exact LeO.refl _ | exact LeO.none _ | refine LeO.ite ?_ ?_ | refine LeO.bind ?_ (fun _ => ?_))
def spec_AreLocks.T4 : Bool × List (List Nat × List Nat) := (true, [([], []), ([], []), ([0, 1], [0, 1]), ([2], [2]), ([3], [3]), ([4], [4]), ([5], [5]), ([6, 5], [6]), ([7], [7]), ([7], [7]), ([8, 9, 7], [7, 8, 9]), ([10, 7], [7, 10]), ([11, 7], [7, 11]), ([12, 7, 7], [7, 12]), ([13, 7], [7, 13]), ([7, 14], [7, 14]), ([15, 13], [15]), ([16], [16]), ([17, 16], [16, 17]), ([18, 16, 16], [16, 18]), ([19], [19]), ([19], [19]), ([21, 19], [19, 21]), ([20, 22, 19], [19, 20, 22]), ([23, 19], [19, 23]), ([24, 19], [19, 24]), ([19], [19]), ([19], [19]), ([26, 27, 19], [19, 26, 27]), ([28, 19], [19, 28]), ([29, 19], [19, 29]), ([25, 30, 19], [19, 25, 30]), ([19, 31, 16], [16, 19, 31]), ([16, 32], [16, 32])])
def spec_AreLocks.B4 : List Nat := [0, 0, 3, 7, 15, 31, 63, 127, 255, 255, 1023, 2047, 4095, 8191, 16383, 32767, 65535, 131071, 262143, 524287, 1048575, 1048575, 3145727, 8388607, 16777215, 33554431, 1048575, 1048575, 202375167, 470810623, 1007681535, 2147483647, 4294967295, 8589934591]
theorem spec_AreLocks.tab4 : rtab .any (opsOf Try.f27 4) = spec_AreLocks.T4 := by kernel_rfl
theorem spec_AreLocks.bits4 : waitsOk spec_AreLocks.T4.2 spec_AreLocks.B4 = true := by kernel_rfl
theorem spec_AreLocks.calls (k : Nat) (A0 : Option Addr) (c0 : Nat) (l0 : List (S76)) (r : Bool) (w : World) (aW : Kd.C k76 w A0 l0.length l0) (aX : l0.length ≤ c0) (h : spec_AreLocks.f k l0 = some r) :
  Calls Try.prog 27 #[.slice A0 l0.length c0] w fun e w' => e = .returned (.bool r) ∧ Below w.heap.size w w' := by
 have aJ := AM_ aW
 have be := AM_ aX
 clear aW aX
 have HB := AM_ (Below.refl w.heap.size w)
 unfold spec_AreLocks.f at h
 have H := h
 clear h
 have H' := AM_ H
 clear H
 go_enter Try.func27, Try.ntmps27
 go_wp2
 go_loopg [3] k (fun kq v3 w' => ∃ (aa : Int), v3 = .int .i64 aa ∧ Aside0 (spec_AreLocks.l0 kq l0 aa = some r) ∧ Aside0 (kq ≤ k) ∧ Aside0 (Below w.heap.size w w'))
 case atStart => exact ⟨(0), (by first | rfl | (simp; done) | (simp [*]; done)), H', ⟨Nat.le_refl _⟩, ⟨BT HB.out⟩⟩
 case round =>
  clear H'
  obtain ⟨aa, rfl, HA, aR, HB⟩ := hrel
  cases gk with
  | zero => exact absurd HA.out (by simp [spec_AreLocks.l0])
  | succ k1 =>
   have H := HA.out
   clear HA
   simp only [spec_AreLocks.l0] at H
   by_cases c2 : aa < (l0.length : Int)
   rotate_left
   ·rw [if_neg c2] at H
    have aS := decide_eq_false c2
    clear c2
    obtain rfl := SI H
    go_wp2
    go_ret
    exact QT (BT HB.out)
   rw [if_pos c2] at H
   have aS := DE c2
   clear c2
   replace H := HI H
   obtain ⟨c3, H⟩ := H
   have bd := DE c3
   clear c3
   obtain ⟨aT, A4, H⟩ := OB H
   by_cases c5 : aT = true
   rotate_left
   ·replace c5 := Bool.eq_false_iff.mpr c5
    subst c5
    replace H := HF H
    obtain rfl := SI H
    try go_wp2
    replace HB := BD2 HB
    have aq : 0 ≤ (aa : Int) := DT
    have ar : aa < (l0.length : Int) := DT
    obtain ⟨ab, aC, ac, ad⟩ := at_T76 aJ.out aa aq ar
    have ah := ad
    have ai := ac
    cases aC
    replace ac := BC HB.out ac
    replace ad := BC HB.out ad
    replace aq := ET aq
    replace ar := ET ar
    refine start_ (n := 34) (S := fun w' => w'.cell? (ab.add ((aa).toNat * 2)) = some (.int .i64 ((rd_T76 l0 aa).f0)) ∧ w'.cell? ⟨(ab.add ((aa).toNat * 2)).block, (ab.add ((aa).toNat * 2)).off + 1, none⟩ = some (.int .i64 ((rd_T76 l0 aa).f1))) (ds := []) (lo 0 34) (by kernel_rfl) rfl rfl ⟨(BD HB.out ai), (BD HB.out ah)⟩ (fun ag => ?_); refine with_tabW spec_AreLocks.tab4 spec_AreLocks.bits4 (fun al aD => ?_)
    generalize wr.drew = bf at HB ac ad ag ⊢
    iterate 5 first | refine PS al ?_ | refine TS al aD ag ?_
    refine OS al (fun K hK => ?_)
    refine GO Try.func29 #[.int .i64 ((rd_T76 l0 aa).f0), .int .i64 0, .int .i64 5] ?_
    with_reducible refine MQ (spec_l1In.calls ((rd_T76 l0 aa).f0) 0 5 false _ A4.out) ?_
    intro nd
    refine hK.out _ _ ⟨(BD HB.out ai), (BD HB.out ah)⟩ (fun ag => ?_)
    clear hK K
    refine NM 15 ?_
    iterate 28 first | refine PS al ?_ | refine PT al ?_
    refine done_ (done_of al.out (by kernel_rfl)) ?_
    try go_wp2
    go_ret
    exact QT (BT HB.out)
   subst c5
   replace H := HT H
   obtain ⟨aU, A6, H⟩ := OB H
   by_cases c7 : aU = true
   rotate_left
   ·replace c7 := Bool.eq_false_iff.mpr c7
    subst c7
    replace H := HF H
    obtain rfl := SI H
    try go_wp2
    replace HB := BD2 HB
    have aq : 0 ≤ (aa : Int) := DT
    have ar : aa < (l0.length : Int) := DT
    obtain ⟨ab, aC, ac, ad⟩ := at_T76 aJ.out aa aq ar
    have ah := ad
    have ai := ac
    cases aC
    replace ac := BC HB.out ac
    replace ad := BC HB.out ad
    replace aq := ET aq
    replace ar := ET ar
    have ay : 0 ≤ (aa : Int) := DT
    have az : aa < (l0.length : Int) := DT
    obtain ⟨aA, aE, ae, af⟩ := at_T76 aJ.out aa ay az
    have aj := af
    have ak := ae
    obtain rfl : ab = aA := (by injection aE)
    replace ae := BC HB.out ae
    replace af := BC HB.out af
    replace ay := ET ay
    replace az := ET az
    refine start_ (n := 34) (S := fun w' => w'.cell? (ab.add ((aa).toNat * 2)) = some (.int .i64 ((rd_T76 l0 aa).f0)) ∧ w'.cell? ⟨(ab.add ((aa).toNat * 2)).block, (ab.add ((aa).toNat * 2)).off + 1, none⟩ = some (.int .i64 ((rd_T76 l0 aa).f1)) ∧ w'.cell? (ab.add ((aa).toNat * 2)) = some (.int .i64 ((rd_T76 l0 aa).f0)) ∧ w'.cell? ⟨(ab.add ((aa).toNat * 2)).block, (ab.add ((aa).toNat * 2)).off + 1, none⟩ = some (.int .i64 ((rd_T76 l0 aa).f1))) (ds := []) (lo 0 34) (by kernel_rfl) rfl rfl ⟨(BD HB.out ai), (BD HB.out ah), (BD HB.out ak), (BD HB.out aj)⟩ (fun ag => ?_); refine with_tabW spec_AreLocks.tab4 spec_AreLocks.bits4 (fun al aD => ?_)
    generalize wr.drew = bg at HB ac ad ae af ag ⊢
    iterate 5 first | refine PS al ?_ | refine TS al aD ag ?_
    refine OS al (fun K hK => ?_)
    refine GO Try.func29 #[.int .i64 ((rd_T76 l0 aa).f0), .int .i64 0, .int .i64 5] ?_
    with_reducible refine MQ (spec_l1In.calls ((rd_T76 l0 aa).f0) 0 5 true _ A4.out) ?_
    intro nd
    refine hK.out _ _ ⟨(BD HB.out ai), (BD HB.out ah), (BD HB.out ak), (BD HB.out aj)⟩ (fun ag => ?_)
    clear hK K
    refine NM 15 ?_
    iterate 7 first | refine PS al ?_ | refine TS al aD ag ?_
    refine OS al (fun K hK => ?_)
    refine GO Try.func29 #[.int .i64 ((rd_T76 l0 aa).f1), .int .i64 1, .int .i64 9] ?_
    with_reducible refine MQ (spec_l1In.calls ((rd_T76 l0 aa).f1) 1 9 false _ A6.out) ?_
    intro nd
    refine hK.out _ _ ⟨(BD HB.out ai), (BD HB.out ah), (BD HB.out ak), (BD HB.out aj)⟩ (fun ag => ?_)
    clear hK K
    refine NM 23 ?_
    iterate 20 first | refine PS al ?_ | refine PT al ?_
    refine done_ (done_of al.out (by kernel_rfl)) ?_
    try go_wp2
    go_ret
    exact QT (BT HB.out)
   subst c7
   replace H := HT H
   by_cases c8 : aa > 0
   rotate_left
   ·rw [if_neg c8] at H
    have aV : decide (0 < aa) = false := decide_eq_false c8
    clear c8
    have H' := AM_ H
    clear H
    try go_wp2
    replace HB := BD2 HB
    have aq : 0 ≤ (aa : Int) := DT
    have ar : aa < (l0.length : Int) := DT
    obtain ⟨ab, aC, ac, ad⟩ := at_T76 aJ.out aa aq ar
    have ah := ad
    have ai := ac
    cases aC
    replace ac := BC HB.out ac
    replace ad := BC HB.out ad
    replace aq := ET aq
    replace ar := ET ar
    have ay : 0 ≤ (aa : Int) := DT
    have az : aa < (l0.length : Int) := DT
    obtain ⟨aA, aE, ae, af⟩ := at_T76 aJ.out aa ay az
    have aj := af
    have ak := ae
    obtain rfl : ab = aA := (by injection aE)
    replace ae := BC HB.out ae
    replace af := BC HB.out af
    replace ay := ET ay
    replace az := ET az
    refine start_ (n := 34) (S := fun w' => w'.cell? (ab.add ((aa).toNat * 2)) = some (.int .i64 ((rd_T76 l0 aa).f0)) ∧ w'.cell? ⟨(ab.add ((aa).toNat * 2)).block, (ab.add ((aa).toNat * 2)).off + 1, none⟩ = some (.int .i64 ((rd_T76 l0 aa).f1)) ∧ w'.cell? (ab.add ((aa).toNat * 2)) = some (.int .i64 ((rd_T76 l0 aa).f0)) ∧ w'.cell? ⟨(ab.add ((aa).toNat * 2)).block, (ab.add ((aa).toNat * 2)).off + 1, none⟩ = some (.int .i64 ((rd_T76 l0 aa).f1))) (ds := []) (lo 0 34) (by kernel_rfl) rfl rfl ⟨(BD HB.out ai), (BD HB.out ah), (BD HB.out ak), (BD HB.out aj)⟩ (fun ag => ?_); refine with_tabW spec_AreLocks.tab4 spec_AreLocks.bits4 (fun al aD => ?_)
    generalize wr.drew = bh at HB ac ad ae af ag ⊢
    iterate 5 first | refine PS al ?_ | refine TS al aD ag ?_
    refine OS al (fun K hK => ?_)
    refine GO Try.func29 #[.int .i64 ((rd_T76 l0 aa).f0), .int .i64 0, .int .i64 5] ?_
    with_reducible refine MQ (spec_l1In.calls ((rd_T76 l0 aa).f0) 0 5 true _ A4.out) ?_
    intro nd
    refine hK.out _ _ ⟨(BD HB.out ai), (BD HB.out ah), (BD HB.out ak), (BD HB.out aj)⟩ (fun ag => ?_)
    clear hK K
    refine NM 15 ?_
    iterate 7 first | refine PS al ?_ | refine TS al aD ag ?_
    refine OS al (fun K hK => ?_)
    refine GO Try.func29 #[.int .i64 ((rd_T76 l0 aa).f1), .int .i64 1, .int .i64 9] ?_
    with_reducible refine MQ (spec_l1In.calls ((rd_T76 l0 aa).f1) 1 9 true _ A6.out) ?_
    intro nd
    refine hK.out _ _ ⟨(BD HB.out ai), (BD HB.out ah), (BD HB.out ak), (BD HB.out aj)⟩ (fun ag => ?_)
    clear hK K
    refine NM 23 ?_
    iterate 20 first | refine PS al ?_ | refine PT al ?_
    refine done_ (done_of al.out (by kernel_rfl)) ?_
    try go_wp2
    go_roundg k1
    case measure => have := aR.out; omega
    case rel => exact ⟨(wrap64 (aa + 1)), (by first | rfl | (simp; done) | (simp [*]; done)), H', ⟨by have := aR.out; omega⟩, ⟨BT HB.out⟩⟩
   rw [if_pos c8] at H
   have aV : decide (0 < aa) = true := DE c8
   clear c8
   obtain ⟨aB, aK⟩ : ∃ j_ : Int, (wrap64 (aa - 1)) = j_ := ⟨_, rfl⟩
   replace H : (if 0 ≤ (aB) then (if (aB) < (l0.length : Int) then (if ((rd_T76 l0 (aB)).f0) ≥ ((rd_T76 l0 aa).f0) then (some false) else (spec_AreLocks.l0 k1 l0 (wrap64 (aa + 1)))) else (none)) else (none)) = some r := by first | (rw [aK] at H; exact H) | (simp only [aK] at H ⊢; exact H)
   (try rw [aK] at A4)
   (try rw [aK] at A6)
   have hji9w : (IntKind.i64.wrap (aa - 1)) = aB := (i64_w _).trans aK
   replace H := HI H
   obtain ⟨aY, H⟩ := H
   have aZ := DE aY
   clear aY
   replace H := HI H
   obtain ⟨ba, H⟩ := H
   have bb := DE ba
   clear ba
   by_cases aP : ((rd_T76 l0 (aB)).f0) ≥ ((rd_T76 l0 aa).f0)
   rotate_left
   ·rw [if_neg aP] at H
    have aQ : decide (((rd_T76 l0 aa).f0) ≤ ((rd_T76 l0 (aB)).f0)) = false := decide_eq_false aP
    clear aP
    have H' := AM_ H
    clear H
    try go_wp2
    replace HB := BD2 HB
    have aq : 0 ≤ (aa : Int) := DT
    have ar : aa < (l0.length : Int) := DT
    obtain ⟨ab, aC, ac, ad⟩ := at_T76 aJ.out aa aq ar
    have ah := ad
    have ai := ac
    cases aC
    replace ac := BC HB.out ac
    replace ad := BC HB.out ad
    replace aq := ET aq
    replace ar := ET ar
    have ay : 0 ≤ (aa : Int) := DT
    have az : aa < (l0.length : Int) := DT
    obtain ⟨aA, aE, ae, af⟩ := at_T76 aJ.out aa ay az
    have aj := af
    have ak := ae
    obtain rfl : ab = aA := (by injection aE)
    replace ae := BC HB.out ae
    replace af := BC HB.out af
    replace ay := ET ay
    replace az := ET az
    have aF : 0 ≤ ((aB) : Int) := DT
    have aG : (aB) < (l0.length : Int) := DT
    obtain ⟨aL, aN, am, an⟩ := at_T76 aJ.out (aB) aF aG
    have au := an
    have av := am
    obtain rfl : ab = aL := (by injection aN)
    replace am := BC HB.out am
    replace an := BC HB.out an
    replace aF := ET aF
    replace aG := ET aG
    have aH : 0 ≤ (aa : Int) := DT
    have aI : aa < (l0.length : Int) := DT
    obtain ⟨aM, aO, ao, ap⟩ := at_T76 aJ.out aa aH aI
    have aw := ap
    have ax := ao
    obtain rfl : ab = aM := (by injection aO)
    replace ao := BC HB.out ao
    replace ap := BC HB.out ap
    replace aH := ET aH
    replace aI := ET aI
    refine start_ (n := 34) (S := fun w' => w'.cell? (ab.add ((aa).toNat * 2)) = some (.int .i64 ((rd_T76 l0 aa).f0)) ∧ w'.cell? ⟨(ab.add ((aa).toNat * 2)).block, (ab.add ((aa).toNat * 2)).off + 1, none⟩ = some (.int .i64 ((rd_T76 l0 aa).f1)) ∧ w'.cell? (ab.add ((aa).toNat * 2)) = some (.int .i64 ((rd_T76 l0 aa).f0)) ∧ w'.cell? ⟨(ab.add ((aa).toNat * 2)).block, (ab.add ((aa).toNat * 2)).off + 1, none⟩ = some (.int .i64 ((rd_T76 l0 aa).f1)) ∧ w'.cell? (ab.add (((aB)).toNat * 2)) = some (.int .i64 ((rd_T76 l0 (aB)).f0)) ∧ w'.cell? ⟨(ab.add (((aB)).toNat * 2)).block, (ab.add (((aB)).toNat * 2)).off + 1, none⟩ = some (.int .i64 ((rd_T76 l0 (aB)).f1)) ∧ w'.cell? (ab.add ((aa).toNat * 2)) = some (.int .i64 ((rd_T76 l0 aa).f0)) ∧ w'.cell? ⟨(ab.add ((aa).toNat * 2)).block, (ab.add ((aa).toNat * 2)).off + 1, none⟩ = some (.int .i64 ((rd_T76 l0 aa).f1))) (ds := []) (lo 0 34) (by kernel_rfl) rfl rfl ⟨(BD HB.out ai), (BD HB.out ah), (BD HB.out ak), (BD HB.out aj), (BD HB.out av), (BD HB.out au), (BD HB.out ax), (BD HB.out aw)⟩ (fun ag => ?_); refine with_tabW spec_AreLocks.tab4 spec_AreLocks.bits4 (fun al aD => ?_)
    generalize wr.drew = bi at HB ac ad ae af am an ao ap ag ⊢
    iterate 5 first | refine PS al ?_ | refine TS al aD ag ?_
    refine OS al (fun K hK => ?_)
    refine GO Try.func29 #[.int .i64 ((rd_T76 l0 aa).f0), .int .i64 0, .int .i64 5] ?_
    with_reducible refine MQ (spec_l1In.calls ((rd_T76 l0 aa).f0) 0 5 true _ A4.out) ?_
    intro nd
    refine hK.out _ _ ⟨(BD HB.out ai), (BD HB.out ah), (BD HB.out ak), (BD HB.out aj), (BD HB.out av), (BD HB.out au), (BD HB.out ax), (BD HB.out aw)⟩ (fun ag => ?_)
    clear hK K
    refine NM 15 ?_
    iterate 7 first | refine PS al ?_ | refine TS al aD ag ?_
    refine OS al (fun K hK => ?_)
    refine GO Try.func29 #[.int .i64 ((rd_T76 l0 aa).f1), .int .i64 1, .int .i64 9] ?_
    with_reducible refine MQ (spec_l1In.calls ((rd_T76 l0 aa).f1) 1 9 true _ A6.out) ?_
    intro nd
    refine hK.out _ _ ⟨(BD HB.out ai), (BD HB.out ah), (BD HB.out ak), (BD HB.out aj), (BD HB.out av), (BD HB.out au), (BD HB.out ax), (BD HB.out aw)⟩ (fun ag => ?_)
    clear hK K
    refine NM 23 ?_
    iterate 11 refine PS al ?_
    refine PV 26 (some 36) (bs 100663295 34) al ?_
    refine PV 27 (some 37) (bs 234881023 34) al ?_
    refine PV 28 (some 38) (bs 503316479 34) al ?_
    refine PV 29 (some 39) (bs 1040187391 34) al ?_
    refine TX 25 (some 35) (lo 30 34) al aD ag ?_
    iterate 4 first | refine PS al ?_ | refine TS al aD ag ?_
    refine done_ (done_of al.out (by kernel_rfl)) ?_
    try go_wp2
    go_roundg k1
    case measure => have := aR.out; omega
    case rel => exact ⟨(wrap64 (aa + 1)), (by first | rfl | (simp; done) | (simp [*]; done)), H', ⟨by have := aR.out; omega⟩, ⟨BT HB.out⟩⟩
   rw [if_pos aP] at H
   have aQ : decide (((rd_T76 l0 aa).f0) ≤ ((rd_T76 l0 (aB)).f0)) = true := DE aP
   clear aP
   obtain rfl := SI H
   try go_wp2
   replace HB := BD2 HB
   have aq : 0 ≤ (aa : Int) := DT
   have ar : aa < (l0.length : Int) := DT
   obtain ⟨ab, aC, ac, ad⟩ := at_T76 aJ.out aa aq ar
   have ah := ad
   have ai := ac
   cases aC
   replace ac := BC HB.out ac
   replace ad := BC HB.out ad
   replace aq := ET aq
   replace ar := ET ar
   have ay : 0 ≤ (aa : Int) := DT
   have az : aa < (l0.length : Int) := DT
   obtain ⟨aA, aE, ae, af⟩ := at_T76 aJ.out aa ay az
   have aj := af
   have ak := ae
   obtain rfl : ab = aA := (by injection aE)
   replace ae := BC HB.out ae
   replace af := BC HB.out af
   replace ay := ET ay
   replace az := ET az
   have aF : 0 ≤ ((aB) : Int) := DT
   have aG : (aB) < (l0.length : Int) := DT
   obtain ⟨aL, aN, am, an⟩ := at_T76 aJ.out (aB) aF aG
   have au := an
   have av := am
   obtain rfl : ab = aL := (by injection aN)
   replace am := BC HB.out am
   replace an := BC HB.out an
   replace aF := ET aF
   replace aG := ET aG
   have aH : 0 ≤ (aa : Int) := DT
   have aI : aa < (l0.length : Int) := DT
   obtain ⟨aM, aO, ao, ap⟩ := at_T76 aJ.out aa aH aI
   have aw := ap
   have ax := ao
   obtain rfl : ab = aM := (by injection aO)
   replace ao := BC HB.out ao
   replace ap := BC HB.out ap
   replace aH := ET aH
   replace aI := ET aI
   refine start_ (n := 34) (S := fun w' => w'.cell? (ab.add ((aa).toNat * 2)) = some (.int .i64 ((rd_T76 l0 aa).f0)) ∧ w'.cell? ⟨(ab.add ((aa).toNat * 2)).block, (ab.add ((aa).toNat * 2)).off + 1, none⟩ = some (.int .i64 ((rd_T76 l0 aa).f1)) ∧ w'.cell? (ab.add ((aa).toNat * 2)) = some (.int .i64 ((rd_T76 l0 aa).f0)) ∧ w'.cell? ⟨(ab.add ((aa).toNat * 2)).block, (ab.add ((aa).toNat * 2)).off + 1, none⟩ = some (.int .i64 ((rd_T76 l0 aa).f1)) ∧ w'.cell? (ab.add (((aB)).toNat * 2)) = some (.int .i64 ((rd_T76 l0 (aB)).f0)) ∧ w'.cell? ⟨(ab.add (((aB)).toNat * 2)).block, (ab.add (((aB)).toNat * 2)).off + 1, none⟩ = some (.int .i64 ((rd_T76 l0 (aB)).f1)) ∧ w'.cell? (ab.add ((aa).toNat * 2)) = some (.int .i64 ((rd_T76 l0 aa).f0)) ∧ w'.cell? ⟨(ab.add ((aa).toNat * 2)).block, (ab.add ((aa).toNat * 2)).off + 1, none⟩ = some (.int .i64 ((rd_T76 l0 aa).f1))) (ds := []) (lo 0 34) (by kernel_rfl) rfl rfl ⟨(BD HB.out ai), (BD HB.out ah), (BD HB.out ak), (BD HB.out aj), (BD HB.out av), (BD HB.out au), (BD HB.out ax), (BD HB.out aw)⟩ (fun ag => ?_); refine with_tabW spec_AreLocks.tab4 spec_AreLocks.bits4 (fun al aD => ?_)
   generalize wr.drew = bj at HB ac ad ae af am an ao ap ag ⊢
   iterate 5 first | refine PS al ?_ | refine TS al aD ag ?_
   refine OS al (fun K hK => ?_)
   refine GO Try.func29 #[.int .i64 ((rd_T76 l0 aa).f0), .int .i64 0, .int .i64 5] ?_
   with_reducible refine MQ (spec_l1In.calls ((rd_T76 l0 aa).f0) 0 5 true _ A4.out) ?_
   intro nd
   refine hK.out _ _ ⟨(BD HB.out ai), (BD HB.out ah), (BD HB.out ak), (BD HB.out aj), (BD HB.out av), (BD HB.out au), (BD HB.out ax), (BD HB.out aw)⟩ (fun ag => ?_)
   clear hK K
   refine NM 15 ?_
   iterate 7 first | refine PS al ?_ | refine TS al aD ag ?_
   refine OS al (fun K hK => ?_)
   refine GO Try.func29 #[.int .i64 ((rd_T76 l0 aa).f1), .int .i64 1, .int .i64 9] ?_
   with_reducible refine MQ (spec_l1In.calls ((rd_T76 l0 aa).f1) 1 9 true _ A6.out) ?_
   intro nd
   refine hK.out _ _ ⟨(BD HB.out ai), (BD HB.out ah), (BD HB.out ak), (BD HB.out aj), (BD HB.out av), (BD HB.out au), (BD HB.out ax), (BD HB.out aw)⟩ (fun ag => ?_)
   clear hK K
   refine NM 23 ?_
   iterate 11 refine PS al ?_
   refine PV 26 (some 36) (bs 100663295 34) al ?_
   refine PV 27 (some 37) (bs 234881023 34) al ?_
   refine PV 28 (some 38) (bs 503316479 34) al ?_
   refine PV 29 (some 39) (bs 1040187391 34) al ?_
   refine TX 25 (some 35) (lo 30 34) al aD ag ?_
   iterate 4 first | refine PS al ?_ | refine TS al aD ag ?_
   refine done_ (done_of al.out (by kernel_rfl)) ?_
   try go_wp2
   go_ret
   exact ⟨by first | rfl | (simp [errW_none, errW_some] <;> rfl) | (simp only [← aK]; first | rfl | (simp [errW_none, errW_some] <;> rfl)) | (simp [*, errW_none, errW_some] <;> rfl), BT HB.out⟩

/-! ### spec_LockOwner: function 63 -/
def spec_LockOwner.l0 : Nat → List (S76) → Int → Int → Option (Int)
 | 0, _, _, _ => none
 | k + 1, x0, x1, x5 => if x5 < (x0.length : Int) then (if 0 ≤ x5 then (if ((rd_T76 x0 x5).f0) = x1 then (some ((rd_T76 x0 x5).f1)) else (spec_LockOwner.l0 k x0 x1 (wrap64 (x5 + 1)))) else (none)) else (some 0)
def spec_LockOwner.f (k : Nat) (l0 : List (S76)) (a1 : Int) : Option (Int) := spec_LockOwner.l0 k l0 a1 0
theorem spec_LockOwner.mono_l : ∀ k, (∀ y0 y1 y2, LeO (spec_LockOwner.l0 k y0 y1 y2) (spec_LockOwner.l0 (k + 1) y0 y1 y2))
 | 0 => fun _ _ _ r h => by simp [spec_LockOwner.l0] at h
 | k + 1 => by
  have aa := spec_LockOwner.mono_l k
  all_goals intros; unfold spec_LockOwner.l0
  all_goals repeat' (with_reducible first | exact aa .. | exact LeO.refl _ | exact LeO.none _ | refine LeO.ite ?_ ?_ | refine LeO.bind ?_ (fun _ => ?_))
theorem spec_LockOwner.mono : ∀ a0 a1 k, LeO (spec_LockOwner.f k a0 a1) (spec_LockOwner.f (k + 1) a0 a1) := by
 intro a0 a1 k
 have aa := spec_LockOwner.mono_l k
 unfold spec_LockOwner.f
 repeat' (with_reducible first | exact aa .. | exact LeO.refl _ | exact LeO.none _ | refine LeO.ite ?_ ?_ | refine LeO.bind ?_ (fun _ => ?_))
theorem spec_LockOwner.calls (k : Nat) (A0 : Option Addr) (c0 : Nat) (l0 : List (S76)) (a1 : Int) (r : Int) (w : World) (aq : Kd.C k76 w A0 l0.length l0) (ar : l0.length ≤ c0) (h : spec_LockOwner.f k l0 a1 = some r) :
  Calls Try.prog 63 #[.slice A0 l0.length c0, .int .i64 a1] w fun e w' => e = .returned (.int .i64 r) ∧ Drawn0 w w' := by
 have am := AM_ aq
 have aw := AM_ ar
 clear aq ar
 unfold spec_LockOwner.f at h
 have H := h
 clear h
 have H' := AM_ H
 clear H
 go_enter Try.func63, Try.ntmps63
 go_wp2
 go_loopg [5] k (fun kq v5 w' => ∃ (aa : Int), v5 = .int .i64 aa ∧ Aside0 (spec_LockOwner.l0 kq l0 a1 aa = some r) ∧ Aside0 (kq ≤ k) ∧ Drawn0 w w')
 case atStart => exact ⟨(0), (by first | rfl | (simp; done) | (simp [*]; done)), H', ⟨Nat.le_refl _⟩, by repeat (first | exact Drawn0.refl _ | apply Drawn0.step)⟩
 case round =>
  clear H'
  obtain ⟨aa, rfl, HA, au, ⟨m1, rfl⟩⟩ := hrel
  cases gk with
  | zero => exact absurd HA.out (by simp [spec_LockOwner.l0])
  | succ k1 =>
   have H := HA.out
   clear HA
   simp only [spec_LockOwner.l0] at H
   by_cases c3 : aa < (l0.length : Int)
   rotate_left
   ·rw [if_neg c3] at H
    have an := decide_eq_false c3
    clear c3
    obtain rfl := SI H
    go_wp2
    go_ret
    exact ⟨by first | rfl | (simp; done) | (simp [*]; done), by repeat (first | exact Drawn0.refl _ | apply Drawn0.step)⟩
   rw [if_pos c3] at H
   have an := DE c3
   clear c3
   replace H := HI H
   obtain ⟨c4, H⟩ := H
   have av := DE c4
   clear c4
   by_cases c5 : ((rd_T76 l0 aa).f0) = a1
   rotate_left
   ·rw [if_neg c5] at H
    have ao : (((rd_T76 l0 aa).f0) == a1) = false := beq_eq_false_iff_ne.mpr c5
    have c5b1 : (((rd_T76 l0 aa).f0) != a1) = true := bne_iff_ne.mpr c5
    have H' := AM_ H
    clear H
    have ab : 0 ≤ (aa : Int) := DT
    have ac : aa < (l0.length : Int) := DT
    obtain ⟨af, ag, ad, ae⟩ := at_T76 am.out aa ab ac
    cases ag
    replace ab := ET ab
    replace ac := ET ac
    go_wp2
    go_roundg k1
    case measure => have := au.out; omega
    case rel => exact ⟨(wrap64 (aa + 1)), (by first | rfl | (simp; done) | (simp [*]; done)), H', ⟨by have := au.out; omega⟩, by repeat (first | exact Drawn0.refl _ | apply Drawn0.step)⟩
   rw [if_pos c5] at H
   have ao : (((rd_T76 l0 aa).f0) == a1) = true := beq_iff_eq.mpr c5
   have c5b1 : (((rd_T76 l0 aa).f0) != a1) = false := bne_eq_false_iff_eq.mpr c5
   clear c5
   obtain rfl := SI H
   have ab : 0 ≤ (aa : Int) := DT
   have ac : aa < (l0.length : Int) := DT
   obtain ⟨af, ag, ad, ae⟩ := at_T76 am.out aa ab ac
   cases ag
   replace ab := ET ab
   replace ac := ET ac
   have ah : 0 ≤ (aa : Int) := DT
   have ai : aa < (l0.length : Int) := DT
   obtain ⟨aj, ap, ak, al⟩ := at_T76 am.out aa ah ai
   obtain rfl : af = aj := (by injection ap)
   replace ah := ET ah
   replace ai := ET ai
   go_wp2
   go_ret
   exact ⟨by first | rfl | (simp; done) | (simp [*]; done), by repeat (first | exact Drawn0.refl _ | apply Drawn0.step)⟩

/-! ### spec_WriteCode: function 19 -/
mutual
def spec_WriteCode.j0 : Nat → List (S76) → Int → Bool → List (List (S52)) → Int → Int → Int → Int → Int → Int → Int → List (S116) → List (S103) → Option (Int)
 | 0, _, _, _, _, _, _, _, _, _, _, _, _, _ => none
 | k + 1, x1, x3, ar, ak, ac, aa, ad, ab, ae, af, ag, ah, ai => if ar = true then (some 6) else ((spec_LockOwner.f k x1 x3).bind fun ap => (if ap = 0 then (spec_WriteCode.j1 k x3 false ak ac aa ad ab ae af ag ah ai) else (spec_WriteCode.j1 k x3 (ap != ac) ak ac aa ad ab ae af ag ah ai)))
def spec_WriteCode.j1 : Nat → Int → Bool → List (List (S52)) → Int → Int → Int → Int → Int → Int → Int → List (S116) → List (S103) → Option (Int)
 | 0, _, _, _, _, _, _, _, _, _, _, _, _ => none
 | k + 1, x3, aq, ak, ac, aa, ad, ab, ae, af, ag, ah, ai => if 0 ≤ x3 then (if x3 < (ak.length : Int) then ((spec_LatestVersion.f k (rd_L3 ak x3)).bind fun bt816 => (if aa = 1 then (spec_WriteCode.j2 k aq aq ac aa ad ab ae af ag ah ai bt816.1 bt816.2.1 bt816.2.2.1 bt816.2.2.2.1 bt816.2.2.2.2) else (spec_WriteCode.j2 k aq false ac aa ad ab ae af ag ah ai bt816.1 bt816.2.1 bt816.2.2.1 bt816.2.2.2.1 bt816.2.2.2.2))) else (none)) else (none)
def spec_WriteCode.j2 : Nat → Bool → Bool → Int → Int → Int → Int → Int → Int → Int → List (S116) → List (S103) → Int → Int → Int → Int → Int → Option (Int)
 | 0, _, _, _, _, _, _, _, _, _, _, _, _, _, _, _, _ => none
 | k + 1, aq, au, ac, aa, ad, ab, ae, af, ag, ah, ai, am, an, aj, al, ao => if au = true then (some 1) else (if aa = 2 then (if aq = true then (spec_WriteCode.j3 k true ac aa ad ab ae af ag ah ai am an aj al ao) else (spec_WriteCode.j3 k (decide (aj > ab)) ac aa ad ab ae af ag ah ai am an aj al ao)) else (spec_WriteCode.j3 k false ac aa ad ab ae af ag ah ai am an aj al ao))
def spec_WriteCode.j3 : Nat → Bool → Int → Int → Int → Int → Int → Int → Int → List (S116) → List (S103) → Int → Int → Int → Int → Int → Option (Int)
 | 0, _, _, _, _, _, _, _, _, _, _, _, _, _, _, _ => none
 | k + 1, av, ac, aa, ad, ab, ae, af, ag, ah, ai, am, an, aj, al, ao => if av = true then (some 2) else (if aa = 4 then (if aj > ab then (some 3) else (if al > ab then (some 3) else (some 0))) else (some 0))
end
def spec_WriteCode.f (k : Nat) (aa : List (List (S52))) (l1 : List (S76)) (ab : Int) (ac : Int) (ad : Int) (ae : Int) (af : Int) (ag : Int) (ah : Int) (ai : List (S116)) (aj : List (S103)) (a3 : Int) : Option (Int) := (spec_l12Good.f k aa ab ac ad ae af ag ah ai aj a3).bind fun ak => (if ak = true then ((spec_AreLocks.f k l1).bind fun al => (spec_WriteCode.j0 k l1 a3 (!al) aa ab ac ad ae af ag ah ai aj)) else (spec_WriteCode.j0 k l1 a3 true aa ab ac ad ae af ag ah ai aj))
theorem spec_WriteCode.mono_l : ∀ k, (∀ y0 y1 y2 y3 y4 y5 y6 y7 y8 y9 aa ab ac, LeO (spec_WriteCode.j0 k y0 y1 y2 y3 y4 y5 y6 y7 y8 y9 aa ab ac) (spec_WriteCode.j0 (k + 1) y0 y1 y2 y3 y4 y5 y6 y7 y8 y9 aa ab ac)) ∧ (∀ y0 y1 y2 y3 y4 y5 y6 y7 y8 y9 aa ab, LeO (spec_WriteCode.j1 k y0 y1 y2 y3 y4 y5 y6 y7 y8 y9 aa ab) (spec_WriteCode.j1 (k + 1) y0 y1 y2 y3 y4 y5 y6 y7 y8 y9 aa ab)) ∧ (∀ y0 y1 y2 y3 y4 y5 y6 y7 y8 y9 aa ab ac ad ae af, LeO (spec_WriteCode.j2 k y0 y1 y2 y3 y4 y5 y6 y7 y8 y9 aa ab ac ad ae af) (spec_WriteCode.j2 (k + 1) y0 y1 y2 y3 y4 y5 y6 y7 y8 y9 aa ab ac ad ae af)) ∧ (∀ y0 y1 y2 y3 y4 y5 y6 y7 y8 y9 aa ab ac ad ae, LeO (spec_WriteCode.j3 k y0 y1 y2 y3 y4 y5 y6 y7 y8 y9 aa ab ac ad ae) (spec_WriteCode.j3 (k + 1) y0 y1 y2 y3 y4 y5 y6 y7 y8 y9 aa ab ac ad ae))
 | 0 => ⟨fun _ _ _ _ _ _ _ _ _ _ _ _ _ r h => by simp [spec_WriteCode.j0] at h, fun _ _ _ _ _ _ _ _ _ _ _ _ r h => by simp [spec_WriteCode.j1] at h, fun _ _ _ _ _ _ _ _ _ _ _ _ _ _ _ _ r h => by simp [spec_WriteCode.j2] at h, fun _ _ _ _ _ _ _ _ _ _ _ _ _ _ _ r h => by simp [spec_WriteCode.j3] at h⟩
 | k + 1 => by
  obtain ⟨ag, ah, ai, aj⟩ := spec_WriteCode.mono_l k
  refine ⟨?_, ?_, ?_, ?_⟩
  all_goals intros; first | unfold spec_WriteCode.j0 | unfold spec_WriteCode.j1 | unfold spec_WriteCode.j2 | unfold spec_WriteCode.j3
  all_goals repeat' (with_reducible first | exact ag .. | exact ah .. | exact ai .. | exact aj .. | exact spec_AreLocks.mono .. | exact spec_LatestVersion.mono .. | exact spec_LockOwner.mono .. | exact spec_l12Good.mono .. | exact LeO.refl _ | exact LeO.none _ | refine LeO.ite ?_ ?_ | refine LeO.bind ?_ (fun _ => ?_))
theorem spec_WriteCode.mono : ∀ a0 a1 a2 a3 a4 a5 a6 a7 a8 a9 aa ab k, LeO (spec_WriteCode.f k a0 a1 a2 a3 a4 a5 a6 a7 a8 a9 aa ab) (spec_WriteCode.f (k + 1) a0 a1 a2 a3 a4 a5 a6 a7 a8 a9 aa ab) := by
 intro a0 a1 a2 a3 a4 a5 a6 a7 a8 a9 aa ab k
 obtain ⟨ac, ad, ae, af⟩ := spec_WriteCode.mono_l k
 unfold spec_WriteCode.f
 repeat' (with_reducible first | exact ac .. | exact ad .. | exact ae .. | exact af .. | exact spec_AreLocks.mono .. | exact spec_LatestVersion.mono .. | exact spec_LockOwner.mono .. | exact spec_l12Good.mono .. | exact LeO.refl _ | exact LeO.none _ | refine LeO.ite ?_ ?_ | refine LeO.bind ?_ (fun _ => ?_))
theorem spec_WriteCode.calls (k : Nat) (bU : Option Addr) (bq : Nat) (ak : List (List (S52))) (A1 : Option Addr) (c1 : Nat) (l1 : List (S76)) (ao : Int) (ag : Int) (ap : Int) (ai : Int) (aq : Int) (ar : Int) (au : Int) (br : Option Addr) (bu : Nat) (am : List (S116)) (bv : Option Addr) (bw : Nat) (an : List (S103)) (a3 : Int) (r : Int) (w : World) (ef : Kd.C (Kd.slice 52 k52) w bU ak.length ak) (eg : ak.length ≤ bq) (gB : Kd.C k76 w A1 l1.length l1) (gC : l1.length ≤ c1) (eh : Kd.C k116 w br am.length am) (ei : am.length ≤ bu) (ej : Kd.C k103 w bv an.length an) (ek : an.length ≤ bw) (h : spec_WriteCode.f k ak l1 ao ag ap ai aq ar au am an a3 = some r) :
  Calls Try.prog 19 #[.agg #[.slice bU ak.length bq], .slice A1 l1.length c1, .agg #[.int .i64 ao, .int .i64 ag, .int .i64 ap, .int .i64 ai, .int .i64 aq, .int .i64 ar, .int .i64 au, .slice br am.length bu, .slice bv an.length bw], .int .i64 a3] w fun e w' => e = .returned (.int .i64 r) ∧ Below w.heap.size w w' := by
 have hF := Try.underlying34
 have hG := Try.underlying48
 have hH := Try.underlying52
 have cQ := AM_ ef
 have el := AM_ eg
 clear ef eg
 have gD := AM_ gB
 have gE := AM_ gC
 clear gB gC
 have em := AM_ eh
 have en := AM_ ei
 clear eh ei
 have eo := AM_ ej
 have ep := AM_ ek
 clear ej ek
 have HB := AM_ (Below.refl w.heap.size w)
 unfold spec_WriteCode.f at h
 have H := h
 clear h
 have gy := AM_ H
 clear H
 go_enter Try.func19, Try.ntmps19
 go_upto_region 1 with (first | ((with_reducible refine G2 4 rfl ?_); refine BY 4 #[.slice bU ak.length bq] 34 HB ?_; clear HB; intro bW w6 ab gF HB) | ((with_reducible refine G2 6 rfl ?_); refine BZ 6 #[.int .i64 ao, .int .i64 ag, .int .i64 ap, .int .i64 ai, .int .i64 aq, .int .i64 ar, .int .i64 au, .slice br am.length bu, .slice bv an.length bw] 48 HB ?_; clear HB; intro bX w7 hg hb aa gG HB; have ac := NP ab hg; have ad := NQ ab hg; replace ab := BV ab hb; clear hb hg))
 (try simp only [pA, pS, pZ, pK])
 go_cut [21] (fun hI wc => ∃ (kq : Nat) (bY : Bool), hI = .bool bY ∧ Aside0 (spec_WriteCode.j0 kq l1 a3 bY ak ao ag ap ai aq ar au am an = some r) ∧ Aside0 (kq ≤ k) ∧ Aside0 (wc.heap[bW]? = some (.cells #[(.slice bU ak.length bq)] 34 (0, 0))) ∧ Aside0 (wc.heap[bX]? = some (.cells #[.int .i64 ao, .int .i64 ag, .int .i64 ap, .int .i64 ai, .int .i64 aq, .int .i64 ar, .int .i64 au, (.slice br am.length bu), (.slice bv an.length bw)] 48 (0, 0))) ∧ Aside0 (Below w.heap.size w wc))
 case first =>
  have H := gy.out
  clear gy
  obtain ⟨gz, A8, H⟩ := OB H
  by_cases c9 : gz = true
  rotate_left
  ·replace c9 := Bool.eq_false_iff.mpr c9
   subst c9
   replace H := HF H
   have H' := AM_ H
   clear H
   have gH := ac.out
   have gI := ad.out
   obtain ⟨ax, ay⟩ := bk1 ab.out
   obtain ⟨az, aA, aB, aC, aD, aE, aF, aG, aH, aI, aJ, aK, aL, aM, aN, aO, aP, aQ⟩ := bk9 aa.out
   go_wp2_with (first | ((with_reducible refine G1 58 rfl ?_); refine GC (some 15) Try.func58 #[.agg #[.slice bU ak.length bq], .agg #[.int .i64 ao, .int .i64 ag, .int .i64 ap, .int .i64 ai, .int .i64 aq, .int .i64 ar, .int .i64 au, .slice br am.length bu, .slice bv an.length bw], .int .i64 a3] ?_; (with_reducible refine MB (spec_l12Good.calls k _ _ ak ao ag ap ai aq ar au _ _ am _ _ an a3 false _ (CC cQ HB) el.out (CC em HB) en.out (CC eo HB) ep.out A8.out) ?_); intro hR hb; replace ab := BV ab hb; replace aa := BV aa hb; replace HB := BW HB hb; (try clear hb)))
   go_meet
   case rel => exact ⟨_, (true), (by first | rfl | (simp; done) | (simp [*]; done)), H', ⟨by first | omega | exact Nat.le_refl _⟩, ⟨BH ab.out⟩, ⟨BH aa.out⟩, ⟨BT HB.out⟩⟩
  subst c9
  replace H := HT H
  obtain ⟨eH, hJ, H⟩ := OB H
  have H' := AM_ H
  clear H
  have gJ := ac.out
  have gK := ad.out
  obtain ⟨aR, aS⟩ := bk1 ab.out
  obtain ⟨aT, aU, aV, aW, aX, aY, aZ, ba, bb, bd, be, bf, bg, bh, bi, bj, bk, bm⟩ := bk9 aa.out
  go_wp2_with (first | ((with_reducible refine G1 58 rfl ?_); refine GC (some 15) Try.func58 #[.agg #[.slice bU ak.length bq], .agg #[.int .i64 ao, .int .i64 ag, .int .i64 ap, .int .i64 ai, .int .i64 aq, .int .i64 ar, .int .i64 au, .slice br am.length bu, .slice bv an.length bw], .int .i64 a3] ?_; (with_reducible refine MB (spec_l12Good.calls k _ _ ak ao ag ap ai aq ar au _ _ am _ _ an a3 true _ (CC cQ HB) el.out (CC em HB) en.out (CC eo HB) ep.out A8.out) ?_); intro hS hb; replace ab := BV ab hb; replace aa := BV aa hb; replace HB := BW HB hb; (try clear hb)) | (go_at_call 27; (with_reducible refine (spec_AreLocks.calls k _ _ l1 eH _ (CC gD HB) gE.out hJ.out).mono ?_); rintro e hT ⟨rfl, hb⟩; replace ab := BV ab hb; replace aa := BV aa hb; replace HB := BW HB hb; (try clear hb)))
  go_meet
  case rel => exact ⟨_, (!eH), (by first | rfl | (simp; done) | (simp [*]; done)), H', ⟨by first | omega | exact Nat.le_refl _⟩, ⟨BH ab.out⟩, ⟨BH aa.out⟩, ⟨BT HB.out⟩⟩
 case rest =>
  clear gy
  try clear c1
  try clear c9
  try clear aR
  try clear aT aU aV aW aX aY aZ ba bb
  try clear ax
  try clear az aA aB aC aD aE aF aG aH
  try clear aS
  try clear bd be bf bg bh bi bj bk bm
  try clear ay
  try clear aI aJ aK aL aM aN aO aP aQ
  obtain ⟨kq, bY, rfl, HA, ev, ab, aa, HB⟩ := hcut
  cases kq with
  | zero => exact absurd HA.out (by simp [spec_WriteCode.j0])
  | succ kj4 =>
   have H := HA.out
   clear HA
   simp only [spec_WriteCode.j0] at H
   by_cases ew : bY = true
   ·subst ew
    replace H := HT H
    obtain rfl := SI H
    go_wp2
    go_ret
    exact QT (BT HB.out)
   replace ew := Bool.eq_false_iff.mpr ew
   subst ew
   replace H := HF H
   obtain ⟨bV, hL, H⟩ := OB H
   have ex := AM_ H
   clear H
   go_upto_region 4 with (first | ((with_reducible refine G1 63 rfl ?_); refine GC (some 24) Try.func63 #[.slice A1 l1.length c1, .int .i64 a3] ?_; (with_reducible refine MQ (spec_LockOwner.calls kj4 _ _ l1 a3 bV _ (CC gD HB) gE.out hL.out) ?_); intro nd))
   (try simp only [pA, pS, pZ, pK])
   go_cut [10] (fun hM wc => ∃ (kq : Nat) (av : Bool), hM = .bool av ∧ Aside0 (spec_WriteCode.j1 kq a3 av ak ao ag ap ai aq ar au am an = some r) ∧ Aside0 (kq ≤ kj4) ∧ Aside0 (wc.heap[bW]? = some (.cells #[(.slice bU ak.length bq)] 34 (0, 0))) ∧ Aside0 (wc.heap[bX]? = some (.cells #[.int .i64 ao, .int .i64 ag, .int .i64 ap, .int .i64 ai, .int .i64 aq, .int .i64 ar, .int .i64 au, (.slice br am.length bu), (.slice bv an.length bw)] 48 (0, 0))) ∧ Aside0 (Below w.heap.size w wc))
   case first =>
    have H := ex.out
    clear ex
    by_cases cX : bV = 0
    ·rw [if_pos cX] at H
     have aw : (bV == 0) = true := beq_iff_eq.mpr cX
     have c23b1 : (bV != 0) = false := bne_eq_false_iff_eq.mpr cX
     clear cX
     (first | rw [aw] | (simp only [i64_w, i32_w]; rw [aw]) | skip)
     have H' := AM_ H
     clear H
     go_wp2
     go_meet
     case rel => exact ⟨_, (false), (by first | rfl | (simp; done) | (simp [*]; done)), H', ⟨by have := ev.out; first | omega | exact Nat.le_refl _⟩, ⟨BH ab.out⟩, ⟨BH aa.out⟩, ⟨BT HB.out⟩⟩
    rw [if_neg cX] at H
    have aw : (bV == 0) = false := beq_eq_false_iff_ne.mpr cX
    have c23b1 : (bV != 0) = true := bne_iff_ne.mpr cX
    (first | rw [aw] | (simp only [i64_w, i32_w]; rw [aw]) | skip)
    have H' := AM_ H
    clear H
    have gL := ad.out
    have gM := ac.out
    obtain ⟨bx, bz, bA, bB, bC, bD, bE, bF, bG, bH, bI, bJ, bK, bL, bM, bN, bO, bP⟩ := bk9 aa.out
    go_wp2
    go_meet
    case rel => exact ⟨_, ((bV != ao)), (by first | rfl | (simp; done) | (simp [*]; done)), H', ⟨by have := ev.out; first | omega | exact Nat.le_refl _⟩, ⟨BH ab.out⟩, ⟨BH aa.out⟩, ⟨BT HB.out⟩⟩
   case rest =>
    clear ex
    try clear c1
    try clear c9
    try clear ew
    try clear cX
    try clear aw
    try clear c23b1
    try clear aR
    try clear aT aU aV aW aX aY aZ ba bb
    try clear ax
    try clear az aA aB aC aD aE aF aG aH
    try clear bx bz bA bB bC bD bE bF bG
    try clear aS
    try clear bd be bf bg bh bi bj bk bm
    try clear ay
    try clear aI aJ aK aL aM aN aO aP aQ
    try clear bH bI bJ bK bL bM bN bO bP
    obtain ⟨kq, av, rfl, HA, cR, ab, aa, HB⟩ := hcut
    cases kq with
    | zero => exact absurd HA.out (by simp [spec_WriteCode.j1])
    | succ kj21 =>
     have H := HA.out
     clear HA
     simp only [spec_WriteCode.j1] at H
     replace H := HI H
     obtain ⟨eN, H⟩ := H
     have eq := DE eN
     clear eN
     replace H := HI H
     obtain ⟨eO, H⟩ := H
     have er := DE eO
     clear eO
     obtain ⟨⟨cS, cT, bQ, bT, cU⟩, hN, H⟩ := OB H
     have ey := AM_ H
     clear H
     have gN := ac.out
     have gO := ad.out
     obtain ⟨bZ, b0⟩ := bk1 ab.out
     have cV : 0 ≤ (a3 : Int) := DT
     have cW : a3 < (ak.length : Int) := DT
     obtain ⟨es, ez, eB, gA, bn, b1, b2⟩ := at_L3 cQ.out a3 cV cW
     cases gA
     replace bn := BC HB.out bn
     have cY := AM_ b2
     have cZ := AM_ b1
     clear b2 b1
     replace cV := ET cV
     replace cW := ET cW
     go_upto_region 6 with (first | ((with_reducible refine G1 21 rfl ?_); refine GC (some 38) Try.func21 #[.slice ez (rd_L3 ak a3).length eB] ?_; (with_reducible refine MB (spec_LatestVersion.calls kj21 _ _ (rd_L3 ak a3) cS cT bQ bT cU _ (CC cY HB) cZ.out hN.out) ?_); intro hU hb; replace ab := BV ab hb; replace aa := BV aa hb; replace HB := BW HB hb; (try clear hb)) | ((with_reducible refine G2 11 rfl ?_); refine BZ 11 #[.int .i64 0, .int .i64 0, .int .i64 0, .int .i64 0, .int .i64 0] 52 HB ?_; clear HB; intro et hV hg hb al gP HB; have ah := NP ab hg; have aj := NQ ab hg; replace ab := BV ab hb; have ae := NP aa hg; have af := NQ aa hg; replace aa := BV aa hb; clear hb hg; have gQ := aj.out; have gR := ah.out; have gS := af.out; have gT := ae.out; obtain ⟨b3, b4, b6, b7, b8, ca, cb, cc, cd, ce⟩ := bk5 al.out))
     (try simp only [pA, pS, pZ, pK])
     go_cut [39] (fun hO wc => ∃ (kq : Nat) (bR : Bool), hO = .bool bR ∧ Aside0 (spec_WriteCode.j2 kq av bR ao ag ap ai aq ar au am an cS cT bQ bT cU = some r) ∧ Aside0 (kq ≤ kj21) ∧ Aside0 (wc.heap[bW]? = some (.cells #[(.slice (some es) ak.length bq)] 34 (0, 0))) ∧ Aside0 (wc.heap[bX]? = some (.cells #[.int .i64 ao, .int .i64 ag, .int .i64 ap, .int .i64 ai, .int .i64 aq, .int .i64 ar, .int .i64 au, (.slice br am.length bu), (.slice bv an.length bw)] 48 (0, 0))) ∧ Aside0 (wc.heap[et]? = some (.cells #[.int .i64 cS, .int .i64 cT, .int .i64 bQ, .int .i64 bT, .int .i64 cU] 52 (0, 0))) ∧ Aside0 (Below w.heap.size w wc))
     case first =>
      have H := ey.out
      clear ey
      by_cases da : ag = 1
      rotate_left
      ·rw [if_neg da] at H
       have bo : (ag == 1) = false := beq_eq_false_iff_ne.mpr da
       have c37b1 : (ag != 1) = true := bne_iff_ne.mpr da
       (first | rw [bo] | (simp only [i64_w, i32_w]; rw [bo]) | skip)
       have H' := AM_ H
       clear H
       have gU := ad.out
       have gV := ac.out
       have gW := ae.out
       have gX := af.out
       obtain ⟨cf, cg, ch, ci, cj, ck, cl, cm, cn, co, cp, cq, cr, cs, ct, cu, cv, cw⟩ := bk9 aa.out
       go_wp2
       go_meet
       case rel => exact ⟨_, (false), (by first | rfl | (simp; done) | (simp [*]; done)), H', ⟨by have := ev.out; have := cR.out; first | omega | exact Nat.le_refl _⟩, ⟨BG ab.out ah.out⟩, ⟨BG aa.out ae.out⟩, ⟨BQ al.out⟩, ⟨BT HB.out⟩⟩
      rw [if_pos da] at H
      have bo : (ag == 1) = true := beq_iff_eq.mpr da
      have c37b1 : (ag != 1) = false := bne_eq_false_iff_eq.mpr da
      clear da
      (first | rw [bo] | (simp only [i64_w, i32_w]; rw [bo]) | skip)
      have H' := AM_ H
      clear H
      have gY := ad.out
      have gZ := ac.out
      have g0 := ae.out
      have g1 := af.out
      obtain ⟨cx, cy, cz, cA, cB, cC, cD, cE, cF, cG, cH, cJ, cK, cL, cM, cN, cO, cP⟩ := bk9 aa.out
      go_wp2
      go_meet
      case rel => exact ⟨_, (av), (by first | rfl | (simp; done) | (simp [*]; done)), H', ⟨by have := ev.out; have := cR.out; first | omega | exact Nat.le_refl _⟩, ⟨BG ab.out ah.out⟩, ⟨BG aa.out ae.out⟩, ⟨BQ al.out⟩, ⟨BT HB.out⟩⟩
     case rest =>
      clear ey
      try clear c1
      try clear c9
      try clear ew
      try clear cX
      try clear aw
      try clear c23b1
      try clear eN
      try clear eq
      try clear eO
      try clear er
      try clear da
      try clear bo
      try clear c37b1
      try clear aR
      try clear aT aU aV aW aX aY aZ ba bb
      try clear ax
      try clear az aA aB aC aD aE aF aG aH
      try clear bx bz bA bB bC bD bE bF bG
      try clear bZ
      try clear b3 b4 b6 b7 b8
      try clear cx cy cz cA cB cC cD cE cF
      try clear cf cg ch ci cj ck cl cm cn
      try clear aS
      try clear bd be bf bg bh bi bj bk bm
      try clear ay
      try clear aI aJ aK aL aM aN aO aP aQ
      try clear bH bI bJ bK bL bM bN bO bP
      try clear b0
      try clear ca cb cc cd ce
      try clear cG cH cJ cK cL cM cN cO cP
      try clear co cp cq cr cs ct cu cv cw
      try clear bn
      try clear cV
      try clear cW
      obtain ⟨kq, bR, rfl, HA, eC, ab, aa, al, HB⟩ := hcut
      cases kq with
      | zero => exact absurd HA.out (by simp [spec_WriteCode.j2])
      | succ kj28 =>
       have H := HA.out
       clear HA
       simp only [spec_WriteCode.j2] at H
       by_cases eI : bR = true
       ·subst eI
        replace H := HT H
        obtain rfl := SI H
        go_wp2
        go_ret
        exact QT (BT HB.out)
       replace eI := Bool.eq_false_iff.mpr eI
       subst eI
       replace H := HF H
       have eD := AM_ H
       clear H
       go_upto_region 8 with (fail)
       go_cut [46] (fun hP wc => ∃ (kq : Nat) (bS : Bool), hP = .bool bS ∧ Aside0 (spec_WriteCode.j3 kq bS ao ag ap ai aq ar au am an cS cT bQ bT cU = some r) ∧ Aside0 (kq ≤ kj28) ∧ Aside0 (wc.heap[bW]? = some (.cells #[(.slice (some es) ak.length bq)] 34 (0, 0))) ∧ Aside0 (wc.heap[bX]? = some (.cells #[.int .i64 ao, .int .i64 ag, .int .i64 ap, .int .i64 ai, .int .i64 aq, .int .i64 ar, .int .i64 au, (.slice br am.length bu), (.slice bv an.length bw)] 48 (0, 0))) ∧ Aside0 (wc.heap[et]? = some (.cells #[.int .i64 cS, .int .i64 cT, .int .i64 bQ, .int .i64 bT, .int .i64 cU] 52 (0, 0))) ∧ Aside0 (Below w.heap.size w wc))
       case first =>
        have H := eD.out
        clear eD
        by_cases eu : ag = 2
        rotate_left
        ·rw [if_neg eu] at H
         have bp : (ag == 2) = false := beq_eq_false_iff_ne.mpr eu
         have c46b1 : (ag != 2) = true := bne_iff_ne.mpr eu
         (first | rw [bp] | (simp only [i64_w, i32_w]; rw [bp]) | skip)
         have H' := AM_ H
         clear H
         have g2 := ad.out
         have g3 := ac.out
         have g4 := ae.out
         have g5 := af.out
         obtain ⟨db, dc, dd, de, df, dg, dh, di, dj, dk, dl, dm, dn, dp, dq, dr, dt, du⟩ := bk9 aa.out
         go_wp2
         go_meet
         case rel => exact ⟨_, (false), (by first | rfl | (simp; done) | (simp [*]; done)), H', ⟨by have := ev.out; have := cR.out; have := eC.out; first | omega | exact Nat.le_refl _⟩, ⟨BH ab.out⟩, ⟨BH aa.out⟩, ⟨BH al.out⟩, ⟨BT HB.out⟩⟩
        rw [if_pos eu] at H
        have bp : (ag == 2) = true := beq_iff_eq.mpr eu
        have c46b1 : (ag != 2) = false := bne_eq_false_iff_eq.mpr eu
        clear eu
        (first | rw [bp] | (simp only [i64_w, i32_w]; rw [bp]) | skip)
        by_cases eJ : av = true
        ·subst eJ
         replace H := HT H
         have H' := AM_ H
         clear H
         have g6 := ad.out
         have g7 := ac.out
         have g8 := ae.out
         have g9 := af.out
         obtain ⟨dv, dw, dx, dy, dz, dA, dB, dC, dD, dE, dF, dG, dH, dI, dJ, dK, dL, dM⟩ := bk9 aa.out
         go_wp2
         go_meet
         case rel => exact ⟨_, (true), (by first | rfl | (simp; done) | (simp [*]; done)), H', ⟨by have := ev.out; have := cR.out; have := eC.out; first | omega | exact Nat.le_refl _⟩, ⟨BH ab.out⟩, ⟨BH aa.out⟩, ⟨BH al.out⟩, ⟨BT HB.out⟩⟩
        replace eJ := Bool.eq_false_iff.mpr eJ
        subst eJ
        replace H := HF H
        have H' := AM_ H
        clear H
        have ha := ad.out
        have hc := ac.out
        have hd := ae.out
        have hf := af.out
        obtain ⟨dN, dO, dP, dQ, dR, dS, dT, dU, dV, dW, dX, dY, dZ, d0, d1, d2, d3, d4⟩ := bk9 aa.out
        have hh := aj.out
        have hi := ah.out
        obtain ⟨d5, d6, d7, d8, d9, ea, eb, ec, ed, ee⟩ := bk5 al.out
        go_wp2
        go_meet
        case rel => exact ⟨_, (decide (bQ > ai)), (by first | rfl | (simp; done) | (simp [*]; done)), H', ⟨by have := ev.out; have := cR.out; have := eC.out; first | omega | exact Nat.le_refl _⟩, ⟨BH ab.out⟩, ⟨BH aa.out⟩, ⟨BH al.out⟩, ⟨BT HB.out⟩⟩
       case rest =>
        clear eD
        try clear c1
        try clear c9
        try clear ew
        try clear cX
        try clear aw
        try clear c23b1
        try clear eN
        try clear eq
        try clear eO
        try clear er
        try clear da
        try clear bo
        try clear c37b1
        try clear eI
        try clear eu
        try clear bp
        try clear c46b1
        try clear eJ
        try clear aR
        try clear aT aU aV aW aX aY aZ ba bb
        try clear ax
        try clear az aA aB aC aD aE aF aG aH
        try clear bx bz bA bB bC bD bE bF bG
        try clear bZ
        try clear b3 b4 b6 b7 b8
        try clear cx cy cz cA cB cC cD cE cF
        try clear cf cg ch ci cj ck cl cm cn
        try clear dv dw dx dy dz dA dB dC dD
        try clear dN dO dP dQ dR dS dT dU dV
        try clear d5 d6 d7 d8 d9
        try clear db dc dd de df dg dh di dj
        try clear aS
        try clear bd be bf bg bh bi bj bk bm
        try clear ay
        try clear aI aJ aK aL aM aN aO aP aQ
        try clear bH bI bJ bK bL bM bN bO bP
        try clear b0
        try clear ca cb cc cd ce
        try clear cG cH cJ cK cL cM cN cO cP
        try clear co cp cq cr cs ct cu cv cw
        try clear dE dF dG dH dI dJ dK dL dM
        try clear dW dX dY dZ d0 d1 d2 d3 d4
        try clear ea eb ec ed ee
        try clear dk dl dm dn dp dq dr dt du
        try clear bn
        try clear cV
        try clear cW
        obtain ⟨kq, bS, rfl, HA, hQ, ab, aa, al, HB⟩ := hcut
        cases kq with
        | zero => exact absurd HA.out (by simp [spec_WriteCode.j3])
        | succ kj44 =>
         have H := HA.out
         clear HA
         simp only [spec_WriteCode.j3] at H
         by_cases eP : bS = true
         ·subst eP
          replace H := HT H
          obtain rfl := SI H
          go_wp2
          go_ret
          exact QT (BT HB.out)
         replace eP := Bool.eq_false_iff.mpr eP
         subst eP
         replace H := HF H
         by_cases eE : ag = 4
         rotate_left
         ·rw [if_neg eE] at H
          have eK : (ag == 4) = false := beq_eq_false_iff_ne.mpr eE
          have c60b1 : (ag != 4) = true := bne_iff_ne.mpr eE
          obtain rfl := SI H
          have hj := ad.out
          have hk := ac.out
          have hl := ae.out
          have hm := af.out
          obtain ⟨eQ, eR, eS, eT, eU, eV, eW, eX, eY, eZ, e0, e1, e2, e3, e4, e5, e6, e7⟩ := bk9 aa.out
          go_wp2
          go_ret
          exact QT (BT HB.out)
         rw [if_pos eE] at H
         have eK : (ag == 4) = true := beq_iff_eq.mpr eE
         have c60b1 : (ag != 4) = false := bne_eq_false_iff_eq.mpr eE
         clear eE
         by_cases eF : bQ > ai
         ·rw [if_pos eF] at H
          have eL : decide (ai < bQ) = true := DE eF
          clear eF
          obtain rfl := SI H
          have hn := ad.out
          have ho := ac.out
          have hp := ae.out
          have hq := af.out
          obtain ⟨e8, e9, fa, fb, fc, fd, fe, ff, fg, fh, fi, fj, fk, fl, fm, fn, fo, fp⟩ := bk9 aa.out
          have hr := aj.out
          have hs := ah.out
          obtain ⟨fq, fr, fs, ft, fu, fv, fw, fx, fy, fz⟩ := bk5 al.out
          go_wp2
          go_ret
          exact QT (BT HB.out)
         rw [if_neg eF] at H
         have eL : decide (ai < bQ) = false := decide_eq_false eF
         clear eF
         by_cases eG : bT > ai
         ·rw [if_pos eG] at H
          have eM : decide (ai < bT) = true := DE eG
          clear eG
          obtain rfl := SI H
          have ht := ad.out
          have hu := ac.out
          have hv := ae.out
          have hw := af.out
          obtain ⟨fA, fB, fC, fD, fE, fF, fG, fH, fI, fJ, fK, fL, fM, fN, fO, fP, fQ, fR⟩ := bk9 aa.out
          have hx := aj.out
          have hy := ah.out
          obtain ⟨fS, fT, fU, fV, fW, fX, fY, fZ, f2, f3⟩ := bk5 al.out
          go_wp2
          go_ret
          exact QT (BT HB.out)
         rw [if_neg eG] at H
         have eM : decide (ai < bT) = false := decide_eq_false eG
         clear eG
         obtain rfl := SI H
         have hz := ad.out
         have hA := ac.out
         have hB := ae.out
         have hC := af.out
         obtain ⟨f4, f5, f6, f7, f8, f9, ga, gb, gc, ge, gf, gg, gh, gi, gj, gl, gm, gn⟩ := bk9 aa.out
         have hD := aj.out
         have hE := ah.out
         obtain ⟨go, gp, gq, gr, gs, gt, gu, gv, gw, gx⟩ := bk5 al.out
         go_wp2
         go_ret
         exact QT (BT HB.out)

/-! ### impl_TakesLocks: function 20 -/
def impl_TakesLocks.f (a0 : Int) : Option (Bool) := if a0 = 1 then (some true) else (some (a0 == 2))
theorem impl_TakesLocks.calls (a0 : Int) (r : Bool) (w : World) (h : impl_TakesLocks.f a0 = some r) :
  Calls Try.prog 20 #[.int .i64 a0] w fun e w' => e = .returned (.bool r) ∧ Drawn0 w w' := by
 unfold impl_TakesLocks.f at h
 have H := h
 clear h
 by_cases c2 : a0 = 1
 rotate_left
 ·rw [if_neg c2] at H
  have aa : (a0 == 1) = false := beq_eq_false_iff_ne.mpr c2
  have c2b1 : (a0 != 1) = true := bne_iff_ne.mpr c2
  obtain rfl := SI H
  go_enter Try.func20, Try.ntmps20
  go_wp2
  go_ret
  exact ⟨by first | rfl | (simp; done) | (simp [*]; done), by repeat (first | exact Drawn0.refl _ | apply Drawn0.step)⟩
 rw [if_pos c2] at H
 have aa : (a0 == 1) = true := beq_iff_eq.mpr c2
 have c2b1 : (a0 != 1) = false := bne_eq_false_iff_eq.mpr c2
 clear c2
 obtain rfl := SI H
 go_enter Try.func20, Try.ntmps20
 go_wp2
 go_ret
 exact ⟨by first | rfl | (simp; done) | (simp [*]; done), by repeat (first | exact Drawn0.refl _ | apply Drawn0.step)⟩

end Go.Proofs.Ytdgknikgfjhohaa.PFnSchemes
