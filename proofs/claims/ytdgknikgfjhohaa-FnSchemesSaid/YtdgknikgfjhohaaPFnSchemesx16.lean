-- Printed by wip/myprint.py.
import Derived.Test.YtdgknikgfjhohaaPFnSchemesx12
namespace Go.Proofs.Ytdgknikgfjhohaa.PFnSchemes
open Go.RowKit Go.Proofs.YtdgknikgfjhohaaW.PrintWords Go.Proofs.YtdgknikgfjhohaaW.PrintLast Go.Proofs.YtdgknikgfjhohaaW.PrintMore
set_option maxHeartbeats 8000000
set_option maxRecDepth 100000
set_option linter.unusedVariables false
set_option linter.unusedSimpArgs false

/-! ### impl_IsValidChain: function 76 -/
def impl_IsValidChain.l0 : Nat → List (S52) → List (S52) → Int → Int → Option (Bool)
 | 0, _, _, _, _ => none
 | k + 1, x0, x5, x6, x7 => if x7 < x6 then (if 0 ≤ x7 then (if x7 < (x5.length : Int) then ((impl_IsValidVersion.f k ((rd_T52 x5 x7).f0) ((rd_T52 x5 x7).f1) ((rd_T52 x5 x7).f2) ((rd_T52 x5 x7).f3) ((rd_T52 x5 x7).f4)).bind fun aa => (if aa = true then (if x7 > 0 then (if 0 ≤ (wrap64 (x7 - 1)) then (if (wrap64 (x7 - 1)) < (x0.length : Int) then (if ((rd_T52 x0 (wrap64 (x7 - 1))).f2) ≥ ((rd_T52 x5 x7).f2) then (some false) else (if ((rd_T52 x0 (wrap64 (x7 - 1))).f4) > ((rd_T52 x5 x7).f2) then (some false) else (impl_IsValidChain.l0 k x0 x5 x6 (wrap64 (x7 + 1))))) else (none)) else (none)) else (impl_IsValidChain.l0 k x0 x5 x6 (wrap64 (x7 + 1)))) else (some false))) else (none)) else (none)) else (if (x0.length : Int) > 0 then (if 0 ≤ (wrap64 ((x0.length : Int) - 1)) then (if (wrap64 ((x0.length : Int) - 1)) < (x0.length : Int) then (some (((rd_T52 x0 (wrap64 ((x0.length : Int) - 1))).f4) == 1000)) else (none)) else (none)) else (some false))
def impl_IsValidChain.f (k : Nat) (l0 : List (S52)) : Option (Bool) := impl_IsValidChain.l0 k l0 l0 (l0.length : Int) 0
theorem impl_IsValidChain.mono_l : ∀ k, (∀ y0 y1 y2 y3, LeO (impl_IsValidChain.l0 k y0 y1 y2 y3) (impl_IsValidChain.l0 (k + 1) y0 y1 y2 y3))
 | 0 => fun _ _ _ _ r h => by simp [impl_IsValidChain.l0] at h
 | k + 1 => by
  have aa := impl_IsValidChain.mono_l k
  all_goals intros; unfold impl_IsValidChain.l0
  all_goals repeat' (with_reducible first | exact aa .. | exact impl_IsValidVersion.mono .. | exact LeO.refl _ | exact LeO.none _ | refine LeO.ite ?_ ?_ | refine LeO.bind ?_ (fun _ => ?_))
theorem impl_IsValidChain.mono : ∀ a0 k, LeO (impl_IsValidChain.f k a0) (impl_IsValidChain.f (k + 1) a0) := by
 intro a0 k
 have aa := impl_IsValidChain.mono_l k
 unfold impl_IsValidChain.f
 repeat' (with_reducible first | exact aa .. | exact impl_IsValidVersion.mono .. | exact LeO.refl _ | exact LeO.none _ | refine LeO.ite ?_ ?_ | refine LeO.bind ?_ (fun _ => ?_))
def impl_IsValidChain.T4 : Bool × List (List Nat × List Nat) := (true, [([], []), ([0], [0]), ([1], [1]), ([2, 1], [2]), ([3], [3]), ([4, 3], [3, 4]), ([5, 3, 3], [3, 5]), ([6], [6]), ([6], [6]), ([8, 6], [6, 8]), ([7, 9, 6], [6, 7, 9]), ([10, 6], [6, 10]), ([11, 6], [6, 11]), ([6], [6]), ([13, 6], [6, 13]), ([12, 14, 6], [6, 12, 14]), ([15, 6, 6], [6, 15]), ([16], [16]), ([16], [16]), ([18, 16], [16, 18]), ([17, 19, 16], [16, 17, 19]), ([20, 16], [16, 20]), ([21, 16], [16, 21]), ([16], [16]), ([23, 16], [16, 23]), ([22, 24, 16], [16, 22, 24]), ([16, 25, 6], [6, 16, 25]), ([6, 26, 3], [3, 6, 26]), ([3, 27], [3, 27])])
def impl_IsValidChain.B4 : List Nat := [0, 1, 3, 7, 15, 31, 63, 127, 127, 383, 1023, 2047, 4095, 127, 8319, 32767, 65535, 131071, 131071, 393215, 1048575, 2097151, 4194303, 131071, 8519679, 33554431, 67108863, 134217727, 268435455]
theorem impl_IsValidChain.tab4 : rtab .any (opsOf Try.f76 4) = impl_IsValidChain.T4 := by kernel_rfl
theorem impl_IsValidChain.bits4 : waitsOk impl_IsValidChain.T4.2 impl_IsValidChain.B4 = true := by kernel_rfl
theorem impl_IsValidChain.calls (k : Nat) (A0 : Option Addr) (c0 : Nat) (l0 : List (S52)) (r : Bool) (w : World) (co : Kd.C k52 w A0 l0.length l0) (cp : l0.length ≤ c0) (h : impl_IsValidChain.f k l0 = some r) :
  Calls Try.prog 76 #[.slice A0 l0.length c0] w fun e w' => e = .returned (.bool r) ∧ Below w.heap.size w w' := by
 have cx := Try.underlying52
 have a7 := AM_ co
 have cG := AM_ cp
 clear co cp
 have HB := AM_ (Below.refl w.heap.size w)
 unfold impl_IsValidChain.f at h
 have H := h
 clear h
 have H' := AM_ H
 clear H
 go_enter Try.func76, Try.ntmps76
 go_wp2
 go_loopg [7] k (fun kq v7 w' => ∃ (aa : Int), v7 = .int .i64 aa ∧ Aside0 (impl_IsValidChain.l0 kq l0 l0 (l0.length : Int) aa = some r) ∧ Aside0 (kq ≤ k) ∧ Aside0 (Below w.heap.size w w'))
 case atStart => exact ⟨(0), (by first | rfl | (simp; done) | (simp [*]; done)), H', ⟨Nat.le_refl _⟩, ⟨BT HB.out⟩⟩
 case round =>
  clear H'
  obtain ⟨aa, rfl, HA, bk, HB⟩ := hrel
  cases gk with
  | zero => exact absurd HA.out (by simp [impl_IsValidChain.l0])
  | succ k1 =>
   have H := HA.out
   clear HA
   simp only [impl_IsValidChain.l0] at H
   by_cases c2 : aa < (l0.length : Int)
   rotate_left
   ·rw [if_neg c2] at H
    have cf := decide_eq_false c2
    clear c2
    by_cases be : (l0.length : Int) > 0
    rotate_left
    ·rw [if_neg be] at H
     have bh : decide (0 < (l0.length : Int)) = false := decide_eq_false be
     have c38b1 : decide (0 < l0.length) = false := decide_eq_false (by omega)
     clear be
     obtain rfl := SI H
     go_wp2
     go_ret
     exact QT (BT HB.out)
    rw [if_pos be] at H
    have bh : decide (0 < (l0.length : Int)) = true := DE be
    have c38b1 : decide (0 < l0.length) = true := decide_eq_true (by omega)
    clear be
    obtain ⟨aQ, aT⟩ : ∃ j_ : Int, (wrap64 ((l0.length : Int) - 1)) = j_ := ⟨_, rfl⟩
    replace H : (if 0 ≤ (aQ) then (if (aQ) < (l0.length : Int) then (some (((rd_T52 l0 (aQ)).f4) == 1000)) else (none)) else (none)) = some r := by first | (rw [aT] at H; exact H) | (simp only [aT] at H ⊢; exact H)
    have hji39w : (IntKind.i64.wrap ((l0.length : Int) - 1)) = aQ := (i64_w _).trans aT
    replace H := HI H
    obtain ⟨cq, H⟩ := H
    have cr := DE cq
    clear cq
    replace H := HI H
    obtain ⟨cs, H⟩ := H
    have ct := DE cs
    clear cs
    obtain rfl := SI H
    have ba : 0 ≤ ((aQ) : Int) := DT
    have bb : (aQ) < (l0.length : Int) := DT
    obtain ⟨cu, cg, aU, aV, aW, aX, aY⟩ := at_T52 a7.out (aQ) ba bb
    cases cg
    replace aU := BC HB.out aU
    replace aV := BC HB.out aV
    replace aW := BC HB.out aW
    replace aX := BC HB.out aX
    replace aY := BC HB.out aY
    replace ba := ET ba
    replace bb := ET bb
    go_wp2
    go_ret
    exact ⟨by first | rfl | (simp [errW_none, errW_some] <;> rfl) | (simp only [← aT]; first | rfl | (simp [errW_none, errW_some] <;> rfl)) | (simp [*, errW_none, errW_some] <;> rfl), BT HB.out⟩
   rw [if_pos c2] at H
   have cf := DE c2
   clear c2
   replace H := HI H
   obtain ⟨c3, H⟩ := H
   have cy := DE c3
   clear c3
   replace H := HI H
   obtain ⟨c4, H⟩ := H
   have cz := DE c4
   clear c4
   obtain ⟨ch, A5, H⟩ := OB H
   by_cases c6 : ch = true
   rotate_left
   ·replace c6 := Bool.eq_false_iff.mpr c6
    subst c6
    replace H := HF H
    obtain rfl := SI H
    have aD : 0 ≤ (aa : Int) := DT
    have aE : aa < (l0.length : Int) := DT
    obtain ⟨ad, aM, ag, ah, ai, aj, ak⟩ := at_T52 a7.out aa aD aE
    cases aM
    replace ag := BC HB.out ag
    replace ah := BC HB.out ah
    replace ai := BC HB.out ai
    replace aj := BC HB.out aj
    replace ak := BC HB.out ak
    replace aD := ET aD
    replace aE := ET aE
    try go_wp2_with (first | ((with_reducible refine G2 4 rfl ?_); (try (refine gate_guard (by rfl) ?_; dsimp only)); refine BY 4 #[.int .i64 0, .int .i64 0, .int .i64 0, .int .i64 0, .int .i64 0] 52 HB ?_; clear HB; intro ac cA ab aZ HB; obtain ⟨bm, bn, bo, bp, bq, br, bu, bv, bw, bx⟩ := bk5 ab.out))
    generalize aN : ((((cA.setCell ⟨ac, 0, none⟩ (.int .i64 ((rd_T52 l0 aa).f0))).setCell ⟨ac, 1, none⟩ (.int .i64 ((rd_T52 l0 aa).f1))).setCell ⟨ac, 2, none⟩ (.int .i64 ((rd_T52 l0 aa).f2))).setCell ⟨ac, 3, none⟩ (.int .i64 ((rd_T52 l0 aa).f3))).setCell ⟨ac, 4, none⟩ (.int .i64 ((rd_T52 l0 aa).f4)) = ci
    have a4 : Aside0 (ci.heap[ac]? = some (.cells #[.int .i64 ((rd_T52 l0 aa).f0), .int .i64 ((rd_T52 l0 aa).f1), .int .i64 ((rd_T52 l0 aa).f2), .int .i64 ((rd_T52 l0 aa).f3), .int .i64 ((rd_T52 l0 aa).f4)] 52 (0, 0))) := by subst aN; exact ⟨BQ ab.out⟩
    have a5 : Aside0 (Below w.heap.size w ci) := by subst aN; exact ⟨BT HB.out⟩
    (try clear ab)
    (try clear HB)
    clear aN
    have ab := a4
    have HB := a5
    clear a4 a5
    replace ab := BD1 ab
    replace HB := BD2 HB
    refine start_ (n := 29) (S := fun w' => w'.cell? ⟨ac, 0, none⟩ = some (.int .i64 ((rd_T52 l0 aa).f0)) ∧ w'.cell? ⟨ac, 1, none⟩ = some (.int .i64 ((rd_T52 l0 aa).f1)) ∧ w'.cell? ⟨ac, 2, none⟩ = some (.int .i64 ((rd_T52 l0 aa).f2)) ∧ w'.cell? ⟨ac, 3, none⟩ = some (.int .i64 ((rd_T52 l0 aa).f3)) ∧ w'.cell? ⟨ac, 4, none⟩ = some (.int .i64 ((rd_T52 l0 aa).f4))) (ds := []) (lo 0 29) (by kernel_rfl) rfl rfl (b5 ab.out) (fun af => ?_); refine with_tabW impl_IsValidChain.tab4 impl_IsValidChain.bits4 (fun ax aO => ?_)
    generalize ci.drew = cH at ab HB af ⊢
    refine TS ax aO af ?_
    refine OS ax (fun K hK => ?_)
    refine GO Try.func108 #[.agg #[.int .i64 ((rd_T52 l0 aa).f0), .int .i64 ((rd_T52 l0 aa).f1), .int .i64 ((rd_T52 l0 aa).f2), .int .i64 ((rd_T52 l0 aa).f3), .int .i64 ((rd_T52 l0 aa).f4)]] ?_
    with_reducible refine MB (impl_IsValidVersion.calls k1 ((rd_T52 l0 aa).f0) ((rd_T52 l0 aa).f1) ((rd_T52 l0 aa).f2) ((rd_T52 l0 aa).f3) ((rd_T52 l0 aa).f4) false _ A5.out) ?_
    intro cI hb
    replace ab := BV ab hb
    replace HB := BW HB hb
    (try clear hb)
    refine hK.out _ _ (b5 ab.out) (fun af => ?_)
    clear hK K
    refine NM 13 ?_
    iterate 27 first | refine PS ax ?_ | refine PT ax ?_
    refine done_ (done_of ax.out (by kernel_rfl)) ?_
    try go_wp2
    go_ret
    exact QT (BT HB.out)
   subst c6
   replace H := HT H
   by_cases c7 : aa > 0
   rotate_left
   ·rw [if_neg c7] at H
    have cj : decide (0 < aa) = false := decide_eq_false c7
    clear c7
    have H' := AM_ H
    clear H
    have aD : 0 ≤ (aa : Int) := DT
    have aE : aa < (l0.length : Int) := DT
    obtain ⟨ad, aM, ag, ah, ai, aj, ak⟩ := at_T52 a7.out aa aD aE
    cases aM
    replace ag := BC HB.out ag
    replace ah := BC HB.out ah
    replace ai := BC HB.out ai
    replace aj := BC HB.out aj
    replace ak := BC HB.out ak
    replace aD := ET aD
    replace aE := ET aE
    try go_wp2_with (first | ((with_reducible refine G2 4 rfl ?_); (try (refine gate_guard (by rfl) ?_; dsimp only)); refine BY 4 #[.int .i64 0, .int .i64 0, .int .i64 0, .int .i64 0, .int .i64 0] 52 HB ?_; clear HB; intro ac cB ab aZ HB; obtain ⟨bz, bA, bB, bC, bD, bE, bF, bG, bH, bI⟩ := bk5 ab.out))
    generalize aN : ((((cB.setCell ⟨ac, 0, none⟩ (.int .i64 ((rd_T52 l0 aa).f0))).setCell ⟨ac, 1, none⟩ (.int .i64 ((rd_T52 l0 aa).f1))).setCell ⟨ac, 2, none⟩ (.int .i64 ((rd_T52 l0 aa).f2))).setCell ⟨ac, 3, none⟩ (.int .i64 ((rd_T52 l0 aa).f3))).setCell ⟨ac, 4, none⟩ (.int .i64 ((rd_T52 l0 aa).f4)) = ck
    have a4 : Aside0 (ck.heap[ac]? = some (.cells #[.int .i64 ((rd_T52 l0 aa).f0), .int .i64 ((rd_T52 l0 aa).f1), .int .i64 ((rd_T52 l0 aa).f2), .int .i64 ((rd_T52 l0 aa).f3), .int .i64 ((rd_T52 l0 aa).f4)] 52 (0, 0))) := by subst aN; exact ⟨BQ ab.out⟩
    have a5 : Aside0 (Below w.heap.size w ck) := by subst aN; exact ⟨BT HB.out⟩
    (try clear ab)
    (try clear HB)
    clear aN
    have ab := a4
    have HB := a5
    clear a4 a5
    replace ab := BD1 ab
    replace HB := BD2 HB
    refine start_ (n := 29) (S := fun w' => w'.cell? ⟨ac, 0, none⟩ = some (.int .i64 ((rd_T52 l0 aa).f0)) ∧ w'.cell? ⟨ac, 1, none⟩ = some (.int .i64 ((rd_T52 l0 aa).f1)) ∧ w'.cell? ⟨ac, 2, none⟩ = some (.int .i64 ((rd_T52 l0 aa).f2)) ∧ w'.cell? ⟨ac, 3, none⟩ = some (.int .i64 ((rd_T52 l0 aa).f3)) ∧ w'.cell? ⟨ac, 4, none⟩ = some (.int .i64 ((rd_T52 l0 aa).f4))) (ds := []) (lo 0 29) (by kernel_rfl) rfl rfl (b5 ab.out) (fun af => ?_); refine with_tabW impl_IsValidChain.tab4 impl_IsValidChain.bits4 (fun ax aO => ?_)
    generalize ck.drew = cJ at ab HB af ⊢
    refine TS ax aO af ?_
    refine OS ax (fun K hK => ?_)
    refine GO Try.func108 #[.agg #[.int .i64 ((rd_T52 l0 aa).f0), .int .i64 ((rd_T52 l0 aa).f1), .int .i64 ((rd_T52 l0 aa).f2), .int .i64 ((rd_T52 l0 aa).f3), .int .i64 ((rd_T52 l0 aa).f4)]] ?_
    with_reducible refine MB (impl_IsValidVersion.calls k1 ((rd_T52 l0 aa).f0) ((rd_T52 l0 aa).f1) ((rd_T52 l0 aa).f2) ((rd_T52 l0 aa).f3) ((rd_T52 l0 aa).f4) true _ A5.out) ?_
    intro cK hb
    replace ab := BV ab hb
    replace HB := BW HB hb
    (try clear hb)
    refine hK.out _ _ (b5 ab.out) (fun af => ?_)
    clear hK K
    refine NM 13 ?_
    iterate 27 first | refine PS ax ?_ | refine PT ax ?_
    refine done_ (done_of ax.out (by kernel_rfl)) ?_
    try go_wp2
    go_roundg k1
    case measure => have := bk.out; omega
    case rel => exact ⟨(wrap64 (aa + 1)), (by first | rfl | (simp; done) | (simp [*]; done)), H', ⟨by have := bk.out; omega⟩, ⟨BT HB.out⟩⟩
   rw [if_pos c7] at H
   have cj : decide (0 < aa) = true := DE c7
   clear c7
   obtain ⟨ae, a6⟩ : ∃ j_ : Int, (wrap64 (aa - 1)) = j_ := ⟨_, rfl⟩
   replace H : (if 0 ≤ (ae) then (if (ae) < (l0.length : Int) then (if ((rd_T52 l0 (ae)).f2) ≥ ((rd_T52 l0 aa).f2) then (some false) else (if ((rd_T52 l0 (ae)).f4) > ((rd_T52 l0 aa).f2) then (some false) else (impl_IsValidChain.l0 k1 l0 l0 (l0.length : Int) (wrap64 (aa + 1))))) else (none)) else (none)) = some r := by first | (rw [a6] at H; exact H) | (simp only [a6] at H ⊢; exact H)
   (try rw [a6] at A5)
   have hji8w : (IntKind.i64.wrap (aa - 1)) = ae := (i64_w _).trans a6
   replace H := HI H
   obtain ⟨c9, H⟩ := H
   have cC := DE c9
   clear c9
   replace H := HI H
   obtain ⟨cv, H⟩ := H
   have cw := DE cv
   clear cv
   by_cases bf : ((rd_T52 l0 (ae)).f2) ≥ ((rd_T52 l0 aa).f2)
   ·rw [if_pos bf] at H
    have bi : decide (((rd_T52 l0 aa).f2) ≤ ((rd_T52 l0 (ae)).f2)) = true := DE bf
    clear bf
    obtain rfl := SI H
    have aD : 0 ≤ (aa : Int) := DT
    have aE : aa < (l0.length : Int) := DT
    obtain ⟨ad, aM, ag, ah, ai, aj, ak⟩ := at_T52 a7.out aa aD aE
    cases aM
    replace ag := BC HB.out ag
    replace ah := BC HB.out ah
    replace ai := BC HB.out ai
    replace aj := BC HB.out aj
    replace ak := BC HB.out ak
    replace aD := ET aD
    replace aE := ET aE
    try go_wp2_with (first | ((with_reducible refine G2 4 rfl ?_); (try (refine gate_guard (by rfl) ?_; dsimp only)); refine BY 4 #[.int .i64 0, .int .i64 0, .int .i64 0, .int .i64 0, .int .i64 0] 52 HB ?_; clear HB; intro ac cD ab aZ HB; obtain ⟨bJ, bK, bL, bM, bN, bO, bP, bQ, bR, bS⟩ := bk5 ab.out))
    generalize aN : ((((cD.setCell ⟨ac, 0, none⟩ (.int .i64 ((rd_T52 l0 aa).f0))).setCell ⟨ac, 1, none⟩ (.int .i64 ((rd_T52 l0 aa).f1))).setCell ⟨ac, 2, none⟩ (.int .i64 ((rd_T52 l0 aa).f2))).setCell ⟨ac, 3, none⟩ (.int .i64 ((rd_T52 l0 aa).f3))).setCell ⟨ac, 4, none⟩ (.int .i64 ((rd_T52 l0 aa).f4)) = cl
    have a4 : Aside0 (cl.heap[ac]? = some (.cells #[.int .i64 ((rd_T52 l0 aa).f0), .int .i64 ((rd_T52 l0 aa).f1), .int .i64 ((rd_T52 l0 aa).f2), .int .i64 ((rd_T52 l0 aa).f3), .int .i64 ((rd_T52 l0 aa).f4)] 52 (0, 0))) := by subst aN; exact ⟨BQ ab.out⟩
    have a5 : Aside0 (Below w.heap.size w cl) := by subst aN; exact ⟨BT HB.out⟩
    (try clear ab)
    (try clear HB)
    clear aN
    have ab := a4
    have HB := a5
    clear a4 a5
    replace ab := BD1 ab
    replace HB := BD2 HB
    have aK : 0 ≤ ((ae) : Int) := DT
    have aL : (ae) < (l0.length : Int) := DT
    obtain ⟨aP, a8, al, am, an, ao, ap⟩ := at_T52 a7.out (ae) aK aL
    have ay := ap
    have az := ao
    have aA := an
    have aB := am
    have aC := al
    obtain rfl : ad = aP := (by injection a8)
    replace al := BC HB.out al
    replace am := BC HB.out am
    replace an := BC HB.out an
    replace ao := BC HB.out ao
    replace ap := BC HB.out ap
    replace aK := ET aK
    replace aL := ET aL
    refine start_ (n := 29) (S := fun w' => w'.cell? ⟨ac, 0, none⟩ = some (.int .i64 ((rd_T52 l0 aa).f0)) ∧ w'.cell? ⟨ac, 1, none⟩ = some (.int .i64 ((rd_T52 l0 aa).f1)) ∧ w'.cell? ⟨ac, 2, none⟩ = some (.int .i64 ((rd_T52 l0 aa).f2)) ∧ w'.cell? ⟨ac, 3, none⟩ = some (.int .i64 ((rd_T52 l0 aa).f3)) ∧ w'.cell? ⟨ac, 4, none⟩ = some (.int .i64 ((rd_T52 l0 aa).f4)) ∧ w'.cell? (ad.add (((ae)).toNat * 5)) = some (.int .i64 ((rd_T52 l0 (ae)).f0)) ∧ w'.cell? ⟨(ad.add (((ae)).toNat * 5)).block, (ad.add (((ae)).toNat * 5)).off + 1, none⟩ = some (.int .i64 ((rd_T52 l0 (ae)).f1)) ∧ w'.cell? ⟨(ad.add (((ae)).toNat * 5)).block, (ad.add (((ae)).toNat * 5)).off + 2, none⟩ = some (.int .i64 ((rd_T52 l0 (ae)).f2)) ∧ w'.cell? ⟨(ad.add (((ae)).toNat * 5)).block, (ad.add (((ae)).toNat * 5)).off + 3, none⟩ = some (.int .i64 ((rd_T52 l0 (ae)).f3)) ∧ w'.cell? ⟨(ad.add (((ae)).toNat * 5)).block, (ad.add (((ae)).toNat * 5)).off + 4, none⟩ = some (.int .i64 ((rd_T52 l0 (ae)).f4))) (ds := []) (lo 0 29) (by kernel_rfl) rfl rfl ⟨bc ab.out 0, bc ab.out 1, bc ab.out 2, bc ab.out 3, bc ab.out 4, (BD HB.out aC), (BD HB.out aB), (BD HB.out aA), (BD HB.out az), (BD HB.out ay)⟩ (fun af => ?_); refine with_tabW impl_IsValidChain.tab4 impl_IsValidChain.bits4 (fun ax aO => ?_)
    generalize cl.drew = cL at ab HB al am an ao ap af ⊢
    refine TS ax aO af ?_
    refine OS ax (fun K hK => ?_)
    refine GO Try.func108 #[.agg #[.int .i64 ((rd_T52 l0 aa).f0), .int .i64 ((rd_T52 l0 aa).f1), .int .i64 ((rd_T52 l0 aa).f2), .int .i64 ((rd_T52 l0 aa).f3), .int .i64 ((rd_T52 l0 aa).f4)]] ?_
    with_reducible refine MB (impl_IsValidVersion.calls k1 ((rd_T52 l0 aa).f0) ((rd_T52 l0 aa).f1) ((rd_T52 l0 aa).f2) ((rd_T52 l0 aa).f3) ((rd_T52 l0 aa).f4) true _ A5.out) ?_
    intro cM hb
    replace ab := BV ab hb
    replace HB := BW HB hb
    (try clear hb)
    refine hK.out _ _ ⟨bc ab.out 0, bc ab.out 1, bc ab.out 2, bc ab.out 3, bc ab.out 4, (BD HB.out aC), (BD HB.out aB), (BD HB.out aA), (BD HB.out az), (BD HB.out ay)⟩ (fun af => ?_)
    clear hK K
    refine NM 13 ?_
    iterate 10 refine PS ax ?_
    refine PV 13 (some 25) (bs 12287 29) ax ?_
    refine TX 12 (some 24) (lo 14 29) ax aO af ?_
    iterate 15 first | refine PS ax ?_ | refine PT ax ?_ | refine TS ax aO af ?_
    refine done_ (done_of ax.out (by kernel_rfl)) ?_
    try go_wp2
    go_ret
    exact ⟨by first | rfl | (simp [errW_none, errW_some] <;> rfl) | (simp only [← a6]; first | rfl | (simp [errW_none, errW_some] <;> rfl)) | (simp [*, errW_none, errW_some] <;> rfl), BT HB.out⟩
   rw [if_neg bf] at H
   have bi : decide (((rd_T52 l0 aa).f2) ≤ ((rd_T52 l0 (ae)).f2)) = false := decide_eq_false bf
   clear bf
   by_cases bg : ((rd_T52 l0 (ae)).f4) > ((rd_T52 l0 aa).f2)
   rotate_left
   ·rw [if_neg bg] at H
    have bj : decide (((rd_T52 l0 aa).f2) < ((rd_T52 l0 (ae)).f4)) = false := decide_eq_false bg
    clear bg
    have H' := AM_ H
    clear H
    have aD : 0 ≤ (aa : Int) := DT
    have aE : aa < (l0.length : Int) := DT
    obtain ⟨ad, aM, ag, ah, ai, aj, ak⟩ := at_T52 a7.out aa aD aE
    cases aM
    replace ag := BC HB.out ag
    replace ah := BC HB.out ah
    replace ai := BC HB.out ai
    replace aj := BC HB.out aj
    replace ak := BC HB.out ak
    replace aD := ET aD
    replace aE := ET aE
    try go_wp2_with (first | ((with_reducible refine G2 4 rfl ?_); (try (refine gate_guard (by rfl) ?_; dsimp only)); refine BY 4 #[.int .i64 0, .int .i64 0, .int .i64 0, .int .i64 0, .int .i64 0] 52 HB ?_; clear HB; intro ac cE ab aZ HB; obtain ⟨bT, bU, bV, bW, bX, bY, bZ, b0, b1, b2⟩ := bk5 ab.out))
    generalize aN : ((((cE.setCell ⟨ac, 0, none⟩ (.int .i64 ((rd_T52 l0 aa).f0))).setCell ⟨ac, 1, none⟩ (.int .i64 ((rd_T52 l0 aa).f1))).setCell ⟨ac, 2, none⟩ (.int .i64 ((rd_T52 l0 aa).f2))).setCell ⟨ac, 3, none⟩ (.int .i64 ((rd_T52 l0 aa).f3))).setCell ⟨ac, 4, none⟩ (.int .i64 ((rd_T52 l0 aa).f4)) = cm
    have a4 : Aside0 (cm.heap[ac]? = some (.cells #[.int .i64 ((rd_T52 l0 aa).f0), .int .i64 ((rd_T52 l0 aa).f1), .int .i64 ((rd_T52 l0 aa).f2), .int .i64 ((rd_T52 l0 aa).f3), .int .i64 ((rd_T52 l0 aa).f4)] 52 (0, 0))) := by subst aN; exact ⟨BQ ab.out⟩
    have a5 : Aside0 (Below w.heap.size w cm) := by subst aN; exact ⟨BT HB.out⟩
    (try clear ab)
    (try clear HB)
    clear aN
    have ab := a4
    have HB := a5
    clear a4 a5
    replace ab := BD1 ab
    replace HB := BD2 HB
    have aK : 0 ≤ ((ae) : Int) := DT
    have aL : (ae) < (l0.length : Int) := DT
    obtain ⟨aP, a8, al, am, an, ao, ap⟩ := at_T52 a7.out (ae) aK aL
    have ay := ap
    have az := ao
    have aA := an
    have aB := am
    have aC := al
    obtain rfl : ad = aP := (by injection a8)
    replace al := BC HB.out al
    replace am := BC HB.out am
    replace an := BC HB.out an
    replace ao := BC HB.out ao
    replace ap := BC HB.out ap
    replace aK := ET aK
    replace aL := ET aL
    have aR : 0 ≤ ((ae) : Int) := DT
    have aS : (ae) < (l0.length : Int) := DT
    obtain ⟨a9, bd, aq, ar, au, av, aw⟩ := at_T52 a7.out (ae) aR aS
    have aF := aw
    have aG := av
    have aH := au
    have aI := ar
    have aJ := aq
    obtain rfl : ad = a9 := (by injection bd)
    replace aq := BC HB.out aq
    replace ar := BC HB.out ar
    replace au := BC HB.out au
    replace av := BC HB.out av
    replace aw := BC HB.out aw
    replace aR := ET aR
    replace aS := ET aS
    refine start_ (n := 29) (S := fun w' => w'.cell? ⟨ac, 0, none⟩ = some (.int .i64 ((rd_T52 l0 aa).f0)) ∧ w'.cell? ⟨ac, 1, none⟩ = some (.int .i64 ((rd_T52 l0 aa).f1)) ∧ w'.cell? ⟨ac, 2, none⟩ = some (.int .i64 ((rd_T52 l0 aa).f2)) ∧ w'.cell? ⟨ac, 3, none⟩ = some (.int .i64 ((rd_T52 l0 aa).f3)) ∧ w'.cell? ⟨ac, 4, none⟩ = some (.int .i64 ((rd_T52 l0 aa).f4)) ∧ w'.cell? (ad.add (((ae)).toNat * 5)) = some (.int .i64 ((rd_T52 l0 (ae)).f0)) ∧ w'.cell? ⟨(ad.add (((ae)).toNat * 5)).block, (ad.add (((ae)).toNat * 5)).off + 1, none⟩ = some (.int .i64 ((rd_T52 l0 (ae)).f1)) ∧ w'.cell? ⟨(ad.add (((ae)).toNat * 5)).block, (ad.add (((ae)).toNat * 5)).off + 2, none⟩ = some (.int .i64 ((rd_T52 l0 (ae)).f2)) ∧ w'.cell? ⟨(ad.add (((ae)).toNat * 5)).block, (ad.add (((ae)).toNat * 5)).off + 3, none⟩ = some (.int .i64 ((rd_T52 l0 (ae)).f3)) ∧ w'.cell? ⟨(ad.add (((ae)).toNat * 5)).block, (ad.add (((ae)).toNat * 5)).off + 4, none⟩ = some (.int .i64 ((rd_T52 l0 (ae)).f4)) ∧ w'.cell? (ad.add (((ae)).toNat * 5)) = some (.int .i64 ((rd_T52 l0 (ae)).f0)) ∧ w'.cell? ⟨(ad.add (((ae)).toNat * 5)).block, (ad.add (((ae)).toNat * 5)).off + 1, none⟩ = some (.int .i64 ((rd_T52 l0 (ae)).f1)) ∧ w'.cell? ⟨(ad.add (((ae)).toNat * 5)).block, (ad.add (((ae)).toNat * 5)).off + 2, none⟩ = some (.int .i64 ((rd_T52 l0 (ae)).f2)) ∧ w'.cell? ⟨(ad.add (((ae)).toNat * 5)).block, (ad.add (((ae)).toNat * 5)).off + 3, none⟩ = some (.int .i64 ((rd_T52 l0 (ae)).f3)) ∧ w'.cell? ⟨(ad.add (((ae)).toNat * 5)).block, (ad.add (((ae)).toNat * 5)).off + 4, none⟩ = some (.int .i64 ((rd_T52 l0 (ae)).f4))) (ds := []) (lo 0 29) (by kernel_rfl) rfl rfl ⟨bc ab.out 0, bc ab.out 1, bc ab.out 2, bc ab.out 3, bc ab.out 4, (BD HB.out aC), (BD HB.out aB), (BD HB.out aA), (BD HB.out az), (BD HB.out ay), (BD HB.out aJ), (BD HB.out aI), (BD HB.out aH), (BD HB.out aG), (BD HB.out aF)⟩ (fun af => ?_); refine with_tabW impl_IsValidChain.tab4 impl_IsValidChain.bits4 (fun ax aO => ?_)
    generalize cm.drew = cN at ab HB al am an ao ap aq ar au av aw af ⊢
    refine TS ax aO af ?_
    refine OS ax (fun K hK => ?_)
    refine GO Try.func108 #[.agg #[.int .i64 ((rd_T52 l0 aa).f0), .int .i64 ((rd_T52 l0 aa).f1), .int .i64 ((rd_T52 l0 aa).f2), .int .i64 ((rd_T52 l0 aa).f3), .int .i64 ((rd_T52 l0 aa).f4)]] ?_
    with_reducible refine MB (impl_IsValidVersion.calls k1 ((rd_T52 l0 aa).f0) ((rd_T52 l0 aa).f1) ((rd_T52 l0 aa).f2) ((rd_T52 l0 aa).f3) ((rd_T52 l0 aa).f4) true _ A5.out) ?_
    intro cO hb
    replace ab := BV ab hb
    replace HB := BW HB hb
    (try clear hb)
    refine hK.out _ _ ⟨bc ab.out 0, bc ab.out 1, bc ab.out 2, bc ab.out 3, bc ab.out 4, (BD HB.out aC), (BD HB.out aB), (BD HB.out aA), (BD HB.out az), (BD HB.out ay), (BD HB.out aJ), (BD HB.out aI), (BD HB.out aH), (BD HB.out aG), (BD HB.out aF)⟩ (fun af => ?_)
    clear hK K
    refine NM 13 ?_
    iterate 10 refine PS ax ?_
    refine PV 13 (some 25) (bs 12287 29) ax ?_
    refine TX 12 (some 24) (lo 14 29) ax aO af ?_
    iterate 8 first | refine PS ax ?_ | refine TS ax aO af ?_
    refine PV 23 (some 35) (bs 12582911 29) ax ?_
    refine TX 22 (some 34) (lo 24 29) ax aO af ?_
    iterate 5 first | refine PS ax ?_ | refine TS ax aO af ?_
    refine done_ (done_of ax.out (by kernel_rfl)) ?_
    try go_wp2
    go_roundg k1
    case measure => have := bk.out; omega
    case rel => exact ⟨(wrap64 (aa + 1)), (by first | rfl | (simp; done) | (simp [*]; done)), H', ⟨by have := bk.out; omega⟩, ⟨BT HB.out⟩⟩
   rw [if_pos bg] at H
   have bj : decide (((rd_T52 l0 aa).f2) < ((rd_T52 l0 (ae)).f4)) = true := DE bg
   clear bg
   obtain rfl := SI H
   have aD : 0 ≤ (aa : Int) := DT
   have aE : aa < (l0.length : Int) := DT
   obtain ⟨ad, aM, ag, ah, ai, aj, ak⟩ := at_T52 a7.out aa aD aE
   cases aM
   replace ag := BC HB.out ag
   replace ah := BC HB.out ah
   replace ai := BC HB.out ai
   replace aj := BC HB.out aj
   replace ak := BC HB.out ak
   replace aD := ET aD
   replace aE := ET aE
   try go_wp2_with (first | ((with_reducible refine G2 4 rfl ?_); (try (refine gate_guard (by rfl) ?_; dsimp only)); refine BY 4 #[.int .i64 0, .int .i64 0, .int .i64 0, .int .i64 0, .int .i64 0] 52 HB ?_; clear HB; intro ac cF ab aZ HB; obtain ⟨b3, b4, b6, b7, b8, ca, cb, cc, cd, ce⟩ := bk5 ab.out))
   generalize aN : ((((cF.setCell ⟨ac, 0, none⟩ (.int .i64 ((rd_T52 l0 aa).f0))).setCell ⟨ac, 1, none⟩ (.int .i64 ((rd_T52 l0 aa).f1))).setCell ⟨ac, 2, none⟩ (.int .i64 ((rd_T52 l0 aa).f2))).setCell ⟨ac, 3, none⟩ (.int .i64 ((rd_T52 l0 aa).f3))).setCell ⟨ac, 4, none⟩ (.int .i64 ((rd_T52 l0 aa).f4)) = cn
   have a4 : Aside0 (cn.heap[ac]? = some (.cells #[.int .i64 ((rd_T52 l0 aa).f0), .int .i64 ((rd_T52 l0 aa).f1), .int .i64 ((rd_T52 l0 aa).f2), .int .i64 ((rd_T52 l0 aa).f3), .int .i64 ((rd_T52 l0 aa).f4)] 52 (0, 0))) := by subst aN; exact ⟨BQ ab.out⟩
   have a5 : Aside0 (Below w.heap.size w cn) := by subst aN; exact ⟨BT HB.out⟩
   (try clear ab)
   (try clear HB)
   clear aN
   have ab := a4
   have HB := a5
   clear a4 a5
   replace ab := BD1 ab
   replace HB := BD2 HB
   have aK : 0 ≤ ((ae) : Int) := DT
   have aL : (ae) < (l0.length : Int) := DT
   obtain ⟨aP, a8, al, am, an, ao, ap⟩ := at_T52 a7.out (ae) aK aL
   have ay := ap
   have az := ao
   have aA := an
   have aB := am
   have aC := al
   obtain rfl : ad = aP := (by injection a8)
   replace al := BC HB.out al
   replace am := BC HB.out am
   replace an := BC HB.out an
   replace ao := BC HB.out ao
   replace ap := BC HB.out ap
   replace aK := ET aK
   replace aL := ET aL
   have aR : 0 ≤ ((ae) : Int) := DT
   have aS : (ae) < (l0.length : Int) := DT
   obtain ⟨a9, bd, aq, ar, au, av, aw⟩ := at_T52 a7.out (ae) aR aS
   have aF := aw
   have aG := av
   have aH := au
   have aI := ar
   have aJ := aq
   obtain rfl : ad = a9 := (by injection bd)
   replace aq := BC HB.out aq
   replace ar := BC HB.out ar
   replace au := BC HB.out au
   replace av := BC HB.out av
   replace aw := BC HB.out aw
   replace aR := ET aR
   replace aS := ET aS
   refine start_ (n := 29) (S := fun w' => w'.cell? ⟨ac, 0, none⟩ = some (.int .i64 ((rd_T52 l0 aa).f0)) ∧ w'.cell? ⟨ac, 1, none⟩ = some (.int .i64 ((rd_T52 l0 aa).f1)) ∧ w'.cell? ⟨ac, 2, none⟩ = some (.int .i64 ((rd_T52 l0 aa).f2)) ∧ w'.cell? ⟨ac, 3, none⟩ = some (.int .i64 ((rd_T52 l0 aa).f3)) ∧ w'.cell? ⟨ac, 4, none⟩ = some (.int .i64 ((rd_T52 l0 aa).f4)) ∧ w'.cell? (ad.add (((ae)).toNat * 5)) = some (.int .i64 ((rd_T52 l0 (ae)).f0)) ∧ w'.cell? ⟨(ad.add (((ae)).toNat * 5)).block, (ad.add (((ae)).toNat * 5)).off + 1, none⟩ = some (.int .i64 ((rd_T52 l0 (ae)).f1)) ∧ w'.cell? ⟨(ad.add (((ae)).toNat * 5)).block, (ad.add (((ae)).toNat * 5)).off + 2, none⟩ = some (.int .i64 ((rd_T52 l0 (ae)).f2)) ∧ w'.cell? ⟨(ad.add (((ae)).toNat * 5)).block, (ad.add (((ae)).toNat * 5)).off + 3, none⟩ = some (.int .i64 ((rd_T52 l0 (ae)).f3)) ∧ w'.cell? ⟨(ad.add (((ae)).toNat * 5)).block, (ad.add (((ae)).toNat * 5)).off + 4, none⟩ = some (.int .i64 ((rd_T52 l0 (ae)).f4)) ∧ w'.cell? (ad.add (((ae)).toNat * 5)) = some (.int .i64 ((rd_T52 l0 (ae)).f0)) ∧ w'.cell? ⟨(ad.add (((ae)).toNat * 5)).block, (ad.add (((ae)).toNat * 5)).off + 1, none⟩ = some (.int .i64 ((rd_T52 l0 (ae)).f1)) ∧ w'.cell? ⟨(ad.add (((ae)).toNat * 5)).block, (ad.add (((ae)).toNat * 5)).off + 2, none⟩ = some (.int .i64 ((rd_T52 l0 (ae)).f2)) ∧ w'.cell? ⟨(ad.add (((ae)).toNat * 5)).block, (ad.add (((ae)).toNat * 5)).off + 3, none⟩ = some (.int .i64 ((rd_T52 l0 (ae)).f3)) ∧ w'.cell? ⟨(ad.add (((ae)).toNat * 5)).block, (ad.add (((ae)).toNat * 5)).off + 4, none⟩ = some (.int .i64 ((rd_T52 l0 (ae)).f4))) (ds := []) (lo 0 29) (by kernel_rfl) rfl rfl ⟨bc ab.out 0, bc ab.out 1, bc ab.out 2, bc ab.out 3, bc ab.out 4, (BD HB.out aC), (BD HB.out aB), (BD HB.out aA), (BD HB.out az), (BD HB.out ay), (BD HB.out aJ), (BD HB.out aI), (BD HB.out aH), (BD HB.out aG), (BD HB.out aF)⟩ (fun af => ?_); refine with_tabW impl_IsValidChain.tab4 impl_IsValidChain.bits4 (fun ax aO => ?_)
   generalize cn.drew = cP at ab HB al am an ao ap aq ar au av aw af ⊢
   refine TS ax aO af ?_
   refine OS ax (fun K hK => ?_)
   refine GO Try.func108 #[.agg #[.int .i64 ((rd_T52 l0 aa).f0), .int .i64 ((rd_T52 l0 aa).f1), .int .i64 ((rd_T52 l0 aa).f2), .int .i64 ((rd_T52 l0 aa).f3), .int .i64 ((rd_T52 l0 aa).f4)]] ?_
   with_reducible refine MB (impl_IsValidVersion.calls k1 ((rd_T52 l0 aa).f0) ((rd_T52 l0 aa).f1) ((rd_T52 l0 aa).f2) ((rd_T52 l0 aa).f3) ((rd_T52 l0 aa).f4) true _ A5.out) ?_
   intro cQ hb
   replace ab := BV ab hb
   replace HB := BW HB hb
   (try clear hb)
   refine hK.out _ _ ⟨bc ab.out 0, bc ab.out 1, bc ab.out 2, bc ab.out 3, bc ab.out 4, (BD HB.out aC), (BD HB.out aB), (BD HB.out aA), (BD HB.out az), (BD HB.out ay), (BD HB.out aJ), (BD HB.out aI), (BD HB.out aH), (BD HB.out aG), (BD HB.out aF)⟩ (fun af => ?_)
   clear hK K
   refine NM 13 ?_
   iterate 10 refine PS ax ?_
   refine PV 13 (some 25) (bs 12287 29) ax ?_
   refine TX 12 (some 24) (lo 14 29) ax aO af ?_
   iterate 8 first | refine PS ax ?_ | refine TS ax aO af ?_
   refine PV 23 (some 35) (bs 12582911 29) ax ?_
   refine TX 22 (some 34) (lo 24 29) ax aO af ?_
   iterate 5 first | refine PS ax ?_ | refine TS ax aO af ?_
   refine done_ (done_of ax.out (by kernel_rfl)) ?_
   try go_wp2
   go_ret
   exact ⟨by first | rfl | (simp [errW_none, errW_some] <;> rfl) | (simp only [← a6]; first | rfl | (simp [errW_none, errW_some] <;> rfl)) | (simp [*, errW_none, errW_some] <;> rfl), BT HB.out⟩

/-! ### impl_IsValidStore_1: function 75 -/
def impl_IsValidStore_1.f (k : Nat) (l0 : List (S52)) : Option (Bool) := (impl_IsValidChain.f k l0).bind fun aa => (if aa = true then (some (decide ((l0.length : Int) > 50))) else (some true))
theorem impl_IsValidStore_1.mono : ∀ a0 k, LeO (impl_IsValidStore_1.f k a0) (impl_IsValidStore_1.f (k + 1) a0) := by
 intro a0 k
 unfold impl_IsValidStore_1.f
 repeat' (with_reducible first | exact impl_IsValidChain.mono .. | exact LeO.refl _ | exact LeO.none _ | refine LeO.ite ?_ ?_ | refine LeO.bind ?_ (fun _ => ?_))
theorem impl_IsValidStore_1.calls (k : Nat) (A0 : Option Addr) (c0 : Nat) (l0 : List (S52)) (r : Bool) (w : World) (ab : Kd.C k52 w A0 l0.length l0) (ac : l0.length ≤ c0) (h : impl_IsValidStore_1.f k l0 = some r) :
  Calls Try.prog 75 #[.slice A0 l0.length c0] w fun e w' => e = .returned (.bool r) ∧ Below w.heap.size w w' := by
 have ad := AM_ ab
 have ae := AM_ ac
 clear ab ac
 have HB := AM_ (Below.refl w.heap.size w)
 unfold impl_IsValidStore_1.f at h
 have H := h
 clear h
 obtain ⟨aa, A2, H⟩ := OB H
 by_cases c3 : aa = true
 ·subst c3
  replace H := HT H
  obtain rfl := SI H
  go_enter Try.func75, Try.ntmps75
  go_wp2_with (first | ((with_reducible refine G1 76 rfl ?_); refine GC (some 4) Try.func76 #[.slice A0 l0.length c0] ?_; (with_reducible refine (impl_IsValidChain.calls k _ _ l0 true _ ?side1 ae.out A2.out).mono ?_); (case side1 => repeat (first | exact ad.out | (with_reducible refine Kd.C_alloc ?_ _) | (with_reducible refine Kd.C_drewN ?_ _) | (with_reducible refine Kd.C_drew ?_))); rintro e w4 ⟨rfl, hb⟩; refine ⟨_, rfl, ?_⟩; replace HB := BW HB hb; (try clear hb)))
  go_ret
  exact QT (BT HB.out)
 replace c3 := Bool.eq_false_iff.mpr c3
 subst c3
 replace H := HF H
 obtain rfl := SI H
 go_enter Try.func75, Try.ntmps75
 go_wp2_with (first | ((with_reducible refine G1 76 rfl ?_); refine GC (some 4) Try.func76 #[.slice A0 l0.length c0] ?_; (with_reducible refine (impl_IsValidChain.calls k _ _ l0 false _ ?side1 ae.out A2.out).mono ?_); (case side1 => repeat (first | exact ad.out | (with_reducible refine Kd.C_alloc ?_ _) | (with_reducible refine Kd.C_drewN ?_ _) | (with_reducible refine Kd.C_drew ?_))); rintro e w5 ⟨rfl, hb⟩; refine ⟨_, rfl, ?_⟩; replace HB := BW HB hb; (try clear hb)))
 go_ret
 exact QT (BT HB.out)

/-! ### impl_Version_107: function 107 -/
def impl_Version_107.l0 : Nat → List (List (S52)) → Int → Int → Option (Int)
 | 0, _, _, _ => none
 | k + 1, x0, x7, x8 => if x8 < x7 then (if 0 ≤ x8 then (if x8 < (x0.length : Int) then ((impl_IsValidStore_1.f k (rd_L3 x0 x8)).bind fun aa => (if aa = true then (some x8) else (impl_Version_107.l0 k x0 x7 (wrap64 (x8 + 1))))) else (none)) else (none)) else (some (-1))
def impl_Version_107.f (k : Nat) (l0 : List (List (S52)))  : Option (Int) := impl_Version_107.l0 k l0 (l0.length : Int) 0
theorem impl_Version_107.mono_l : ∀ k, (∀ y0 y1 y2, LeO (impl_Version_107.l0 k y0 y1 y2) (impl_Version_107.l0 (k + 1) y0 y1 y2))
 | 0 => fun _ _ _ r h => by simp [impl_Version_107.l0] at h
 | k + 1 => by
  have aa := impl_Version_107.mono_l k
  all_goals intros; unfold impl_Version_107.l0
  all_goals repeat' (with_reducible first | exact aa .. | exact impl_IsValidStore_1.mono .. | exact LeO.refl _ | exact LeO.none _ | refine LeO.ite ?_ ?_ | refine LeO.bind ?_ (fun _ => ?_))
theorem impl_Version_107.mono : ∀ a0 k, LeO (impl_Version_107.f k a0) (impl_Version_107.f (k + 1) a0) := by
 intro a0 k
 have aa := impl_Version_107.mono_l k
 unfold impl_Version_107.f
 repeat' (with_reducible first | exact aa .. | exact impl_IsValidStore_1.mono .. | exact LeO.refl _ | exact LeO.none _ | refine LeO.ite ?_ ?_ | refine LeO.bind ?_ (fun _ => ?_))
theorem impl_Version_107.calls (k : Nat) (A0 : Option Addr) (c0 : Nat) (l0 : List (List (S52)))  (r : Int) (w : World) (an : Kd.C (Kd.slice 52 k52) w A0 l0.length l0) (ao : l0.length ≤ c0) (h : impl_Version_107.f k l0 = some r) :
  Calls Try.prog 107 #[.slice A0 l0.length c0, .func (.func 75) #[] #[]] w fun e w' => e = .returned (.int .i64 r) ∧ Below w.heap.size w w' := by
 have ar := AM_ an
 have aw := AM_ ao
 clear an ao
 have HB := AM_ (Below.refl w.heap.size w)
 unfold impl_Version_107.f at h
 have H := h
 clear h
 have H' := AM_ H
 clear H
 go_enter Try.func107, Try.ntmps107
 go_wp2
 go_loopg [8] k (fun kq v8 w' => ∃ (aa : Int), v8 = .int .i64 aa ∧ Aside0 (impl_Version_107.l0 kq l0 (l0.length : Int) aa = some r) ∧ Aside0 (kq ≤ k) ∧ Aside0 (Below w.heap.size w w'))
 case atStart => exact ⟨(0), (by first | rfl | (simp; done) | (simp [*]; done)), H', ⟨Nat.le_refl _⟩, ⟨BT HB.out⟩⟩
 case round =>
  clear H'
  obtain ⟨aa, rfl, HA, ap, HB⟩ := hrel
  cases gk with
  | zero => exact absurd HA.out (by simp [impl_Version_107.l0])
  | succ k1 =>
   have H := HA.out
   clear HA
   simp only [impl_Version_107.l0] at H
   by_cases c3 : aa < (l0.length : Int)
   rotate_left
   ·rw [if_neg c3] at H
    have al := decide_eq_false c3
    clear c3
    obtain rfl := SI H
    go_wp2
    go_ret
    exact QT (BT HB.out)
   rw [if_pos c3] at H
   have al := DE c3
   clear c3
   replace H := HI H
   obtain ⟨c4, H⟩ := H
   have au := DE c4
   clear c4
   replace H := HI H
   obtain ⟨c5, H⟩ := H
   have av := DE c5
   clear c5
   obtain ⟨ak, A6, H⟩ := OB H
   have ag : 0 ≤ (aa : Int) := DT
   have ah : aa < (l0.length : Int) := DT
   obtain ⟨aq, ai, aj, am, ab, ac, ad⟩ := at_L3 ar.out aa ag ah
   cases am
   replace ab := BC HB.out ab
   have ae := AM_ ad
   have af := AM_ ac
   clear ad ac
   replace ag := ET ag
   replace ah := ET ah
   go_upto_if 16 with (first | ((with_reducible refine G2 16 rfl ?_); refine goesF_ (some 16) rfl rfl Try.func75 (by kernel_rfl) rfl (lb := #[]) #[.slice ai (rd_L3 l0 aa).length aj] rfl rfl (by (try simp only [List.map_toArray, List.map_cons, List.map_nil]); first | done | rfl) ?_; (with_reducible refine MB (impl_IsValidStore_1.calls k1 _ _ (rd_L3 l0 aa) ak _ (CC ae HB) af.out A6.out) ?_); intro w9 hb; replace HB := BW HB hb; (try clear hb)))
   by_cases c7 : ak = true
   ·subst c7
    replace H := HT H
    obtain rfl := SI H
    try go_wp2
    go_ret
    exact QT (BT HB.out)
   replace c7 := Bool.eq_false_iff.mpr c7
   subst c7
   replace H := HF H
   have H' := AM_ H
   clear H
   try go_wp2
   go_roundg k1
   case measure => have := ap.out; omega
   case rel => exact ⟨(wrap64 (aa + 1)), (by first | rfl | (simp; done) | (simp [*]; done)), H', ⟨by have := ap.out; omega⟩, ⟨BT HB.out⟩⟩

/-! ### impl_Version_74: function 74 -/
def impl_Version_74.f (k : Nat) (l0 : List (List (S52)))  : Option (Bool) := (impl_Version_107.f k l0).bind fun aa => (some (decide (aa ≥ 0)))
theorem impl_Version_74.mono : ∀ a0 k, LeO (impl_Version_74.f k a0) (impl_Version_74.f (k + 1) a0) := by
 intro a0 k
 unfold impl_Version_74.f
 repeat' (with_reducible first | exact impl_Version_107.mono .. | exact LeO.refl _ | exact LeO.none _ | refine LeO.ite ?_ ?_ | refine LeO.bind ?_ (fun _ => ?_))
theorem impl_Version_74.calls (k : Nat) (A0 : Option Addr) (c0 : Nat) (l0 : List (List (S52)))  (r : Bool) (w : World) (ab : Kd.C (Kd.slice 52 k52) w A0 l0.length l0) (ac : l0.length ≤ c0) (h : impl_Version_74.f k l0 = some r) :
  Calls Try.prog 74 #[.slice A0 l0.length c0, .func (.func 75) #[] #[]] w fun e w' => e = .returned (.bool r) ∧ Below w.heap.size w w' := by
 have ad := AM_ ab
 have ae := AM_ ac
 clear ab ac
 have HB := AM_ (Below.refl w.heap.size w)
 unfold impl_Version_74.f at h
 have H := h
 clear h
 obtain ⟨aa, A3, H⟩ := OB H
 obtain rfl := SI H
 go_enter Try.func74, Try.ntmps74
 go_wp2_with (first | ((with_reducible refine G1 107 rfl ?_); refine GC (some 7) Try.func107 #[.slice A0 l0.length c0, .func (.func 75) #[] #[]] ?_; (with_reducible refine (impl_Version_107.calls k _ _ l0  aa _ ?side1 ae.out A3.out).mono ?_); (case side1 => repeat (first | exact ad.out | (with_reducible refine Kd.C_alloc ?_ _) | (with_reducible refine Kd.C_drewN ?_ _) | (with_reducible refine Kd.C_drew ?_))); rintro e w4 ⟨rfl, hb⟩; refine ⟨_, rfl, ?_⟩; replace HB := BW HB hb; (try clear hb)))
 go_ret
 exact QT (BT HB.out)

/-! ### impl_IsValidStore: function 38 -/
def impl_IsValidStore.f (k : Nat) (aa : List (List (S52))) : Option (Bool) := if (aa.length : Int) = 6 then ((impl_Version_74.f k aa).bind fun ab => (some (!ab))) else (some false)
theorem impl_IsValidStore.mono : ∀ a0 k, LeO (impl_IsValidStore.f k a0) (impl_IsValidStore.f (k + 1) a0) := by
 intro a0 k
 unfold impl_IsValidStore.f
 repeat' (with_reducible first | exact impl_Version_74.mono .. | exact LeO.refl _ | exact LeO.none _ | refine LeO.ite ?_ ?_ | refine LeO.bind ?_ (fun _ => ?_))
theorem impl_IsValidStore.calls (k : Nat) (ac : Option Addr) (ad : Nat) (aa : List (List (S52))) (r : Bool) (w : World) (ae : Kd.C (Kd.slice 52 k52) w ac aa.length aa) (af : aa.length ≤ ad) (h : impl_IsValidStore.f k aa = some r) :
  Calls Try.prog 38 #[.agg #[.slice ac aa.length ad]] w fun e w' => e = .returned (.bool r) ∧ Below w.heap.size w w' := by
 have aq := Try.underlying34
 have ag := AM_ ae
 have ah := AM_ af
 clear ae af
 have HB := AM_ (Below.refl w.heap.size w)
 unfold impl_IsValidStore.f at h
 have H := h
 clear h
 by_cases c2 : (aa.length : Int) = 6
 rotate_left
 ·rw [if_neg c2] at H
  have ak : ((aa.length : Int) == 6) = false := beq_eq_false_iff_ne.mpr c2
  have c2b1 : ((aa.length : Int) != 6) = true := bne_iff_ne.mpr c2
  obtain rfl := SI H
  go_enter Try.func38, Try.ntmps38
  go_wp2_with (first | ((with_reducible refine G2 1 rfl ?_); refine BY 1 #[.slice ac aa.length ad] 34 HB ?_; clear HB; intro ai w7 ab aj HB; obtain ⟨al, am⟩ := bk1 ab.out))
  go_ret
  exact QT (BT HB.out)
 rw [if_pos c2] at H
 have ak : ((aa.length : Int) == 6) = true := beq_iff_eq.mpr c2
 have c2b1 : ((aa.length : Int) != 6) = false := bne_eq_false_iff_eq.mpr c2
 clear c2
 obtain ⟨an, A3, H⟩ := OB H
 obtain rfl := SI H
 go_enter Try.func38, Try.ntmps38
 go_wp2_with (first | ((with_reducible refine G2 1 rfl ?_); refine BY 1 #[.slice ac aa.length ad] 34 HB ?_; clear HB; intro ai w4 ab aj HB; obtain ⟨ao, ap⟩ := bk1 ab.out) | (go_at_call 74; (with_reducible refine (impl_Version_74.calls k _ _ aa  an _ (CC ag HB) ah.out A3.out).mono ?_); rintro e w6 ⟨rfl, hb⟩; replace ab := BV ab hb; replace HB := BW HB hb; (try clear hb)))
 go_ret
 exact QT (BT HB.out)

/-! ### impl_isScheme: function 109 -/
def impl_isScheme.f (a0 : Int) : Option (Bool) := (impl_in.f a0 1 4).bind fun aa => (some aa)
theorem impl_isScheme.calls (a0 : Int) (r : Bool) (w : World) (h : impl_isScheme.f a0 = some r) :
  Calls Try.prog 109 #[.int .i64 a0] w fun e w' => e = .returned (.bool r) ∧ Drawn0 w w' := by
 unfold impl_isScheme.f at h
 have H := h
 clear h
 obtain ⟨aa, A2, H⟩ := OB H
 obtain rfl := SI H
 go_enter Try.func109, Try.ntmps109
 go_wp2_with (first | ((with_reducible refine G1 41 rfl ?_); refine GC (some 4) Try.func41 #[.int .i64 a0, .int .i64 1, .int .i64 4] ?_; (with_reducible refine MQ (impl_in.calls a0 1 4 aa _ A2.out) ?_); intro nd))
 go_ret
 exact ⟨by first | rfl | (simp; done) | (simp [*]; done), by repeat (first | exact Drawn0.refl _ | apply Drawn0.step)⟩

/-! ### impl_IsStamp: function 110 -/
def impl_IsStamp.f (a0 : Int) : Option (Bool) := (impl_in.f a0 1 999).bind fun aa => (some aa)
theorem impl_IsStamp.calls (a0 : Int) (r : Bool) (w : World) (h : impl_IsStamp.f a0 = some r) :
  Calls Try.prog 110 #[.int .i64 a0] w fun e w' => e = .returned (.bool r) ∧ Drawn0 w w' := by
 unfold impl_IsStamp.f at h
 have H := h
 clear h
 obtain ⟨aa, A2, H⟩ := OB H
 obtain rfl := SI H
 go_enter Try.func110, Try.ntmps110
 go_wp2_with (first | ((with_reducible refine G1 41 rfl ?_); refine GC (some 4) Try.func41 #[.int .i64 a0, .int .i64 1, .int .i64 999] ?_; (with_reducible refine MQ (impl_in.calls a0 1 999 aa _ A2.out) ?_); intro nd))
 go_ret
 exact ⟨by first | rfl | (simp; done) | (simp [*]; done), by repeat (first | exact Drawn0.refl _ | apply Drawn0.step)⟩

/-! ### impl_isKey: function 56 -/
def impl_isKey.f (a0 : Int) : Option (Bool) := (impl_in.f a0 0 5).bind fun aa => (some aa)
theorem impl_isKey.calls (a0 : Int) (r : Bool) (w : World) (h : impl_isKey.f a0 = some r) :
  Calls Try.prog 56 #[.int .i64 a0] w fun e w' => e = .returned (.bool r) ∧ Drawn0 w w' := by
 unfold impl_isKey.f at h
 have H := h
 clear h
 obtain ⟨aa, A2, H⟩ := OB H
 obtain rfl := SI H
 go_enter Try.func56, Try.ntmps56
 go_wp2_with (first | ((with_reducible refine G1 41 rfl ?_); refine GC (some 4) Try.func41 #[.int .i64 a0, .int .i64 0, .int .i64 5] ?_; (with_reducible refine MQ (impl_in.calls a0 0 5 aa _ A2.out) ?_); intro nd))
 go_ret
 exact ⟨by first | rfl | (simp; done) | (simp [*]; done), by repeat (first | exact Drawn0.refl _ | apply Drawn0.step)⟩

/-! ### cmp_Or_int: function 138 -/
def cmp_Or_int.l0 : Nat → Int → List Int → Int → Int → Option (Int)
 | 0, _, _, _, _ => none
 | k + 1, x3, x6, x7, x8 => if x8 < x7 then (if 0 ≤ x8 then (if x8 < (x6.length : Int) then (if (rd x6 x8) = x3 then (cmp_Or_int.l0 k x3 x6 x7 (wrap64 (x8 + 1))) else (some (rd x6 x8))) else (none)) else (none)) else (some x3)
def cmp_Or_int.f (k : Nat) (l0 : List Int) : Option (Int) := cmp_Or_int.l0 k 0 l0 (l0.length : Int) 0
theorem cmp_Or_int.mono_l : ∀ k, (∀ y0 y1 y2 y3, LeO (cmp_Or_int.l0 k y0 y1 y2 y3) (cmp_Or_int.l0 (k + 1) y0 y1 y2 y3))
 | 0 => fun _ _ _ _ r h => by simp [cmp_Or_int.l0] at h
 | k + 1 => by
  have aa := cmp_Or_int.mono_l k
  all_goals intros; unfold cmp_Or_int.l0
  all_goals repeat' (with_reducible first | exact aa .. | exact LeO.refl _ | exact LeO.none _ | refine LeO.ite ?_ ?_ | refine LeO.bind ?_ (fun _ => ?_))
theorem cmp_Or_int.mono : ∀ a0 k, LeO (cmp_Or_int.f k a0) (cmp_Or_int.f (k + 1) a0) := by
 intro a0 k
 have aa := cmp_Or_int.mono_l k
 unfold cmp_Or_int.f
 repeat' (with_reducible first | exact aa .. | exact LeO.refl _ | exact LeO.none _ | refine LeO.ite ?_ ?_ | refine LeO.bind ?_ (fun _ => ?_))
theorem cmp_Or_int.calls (k : Nat) (A0 : Option Addr) (c0 : Nat) (l0 : List Int) (r : Int) (w : World) (ai : Kd.C (Kd.int .i64) w A0 l0.length l0) (aj : l0.length ≤ c0) (h : cmp_Or_int.f k l0 = some r) :
  Calls Try.prog 138 #[.slice A0 l0.length c0] w fun e w' => e = .returned (.int .i64 r) ∧ Drawn0 w w' := by
 have ak := AM_ ai
 have ao := AM_ aj
 clear ai aj
 unfold cmp_Or_int.f at h
 have H := h
 clear h
 have H' := AM_ H
 clear H
 go_enter Try.func138, Try.ntmps138
 go_wp2
 go_loopg [8] k (fun kq v8 w' => ∃ (aa : Int), v8 = .int .i64 aa ∧ Aside0 (cmp_Or_int.l0 kq 0 l0 (l0.length : Int) aa = some r) ∧ Aside0 (kq ≤ k) ∧ Drawn0 w w')
 case atStart => exact ⟨(0), (by first | rfl | (simp; done) | (simp [*]; done)), H', ⟨Nat.le_refl _⟩, by repeat (first | exact Drawn0.refl _ | apply Drawn0.step)⟩
 case round =>
  clear H'
  obtain ⟨aa, rfl, HA, al, ⟨m1, rfl⟩⟩ := hrel
  cases gk with
  | zero => exact absurd HA.out (by simp [cmp_Or_int.l0])
  | succ k1 =>
   have H := HA.out
   clear HA
   simp only [cmp_Or_int.l0] at H
   by_cases c2 : aa < (l0.length : Int)
   rotate_left
   ·rw [if_neg c2] at H
    have ag := decide_eq_false c2
    clear c2
    obtain rfl := SI H
    go_wp2
    go_ret
    exact ⟨by first | rfl | (simp; done) | (simp [*]; done), by repeat (first | exact Drawn0.refl _ | apply Drawn0.step)⟩
   rw [if_pos c2] at H
   have ag := DE c2
   clear c2
   replace H := HI H
   obtain ⟨c3, H⟩ := H
   have am := DE c3
   clear c3
   replace H := HI H
   obtain ⟨c4, H⟩ := H
   have an := DE c4
   clear c4
   by_cases c5 : (rd l0 aa) = 0
   rotate_left
   ·rw [if_neg c5] at H
    have ah : ((rd l0 aa) == 0) = false := beq_eq_false_iff_ne.mpr c5
    have c5b1 : ((rd l0 aa) != 0) = true := bne_iff_ne.mpr c5
    obtain rfl := SI H
    have ab : 0 ≤ (aa : Int) := DT
    have ac : aa < (l0.length : Int) := DT
    obtain ⟨af, ae, ad⟩ := Kd.at_int ak.out aa ab ac
    cases ae
    replace ab := ET ab
    replace ac := ET ac
    go_wp2
    go_ret
    exact ⟨by first | rfl | (simp; done) | (simp [*]; done), by repeat (first | exact Drawn0.refl _ | apply Drawn0.step)⟩
   rw [if_pos c5] at H
   have ah : ((rd l0 aa) == 0) = true := beq_iff_eq.mpr c5
   have c5b1 : ((rd l0 aa) != 0) = false := bne_eq_false_iff_eq.mpr c5
   clear c5
   have H' := AM_ H
   clear H
   have ab : 0 ≤ (aa : Int) := DT
   have ac : aa < (l0.length : Int) := DT
   obtain ⟨af, ae, ad⟩ := Kd.at_int ak.out aa ab ac
   cases ae
   replace ab := ET ab
   replace ac := ET ac
   go_wp2
   go_roundg k1
   case measure => have := al.out; omega
   case rel => exact ⟨(wrap64 (aa + 1)), (by first | rfl | (simp; done) | (simp [*]; done)), H', ⟨by have := al.out; omega⟩, by repeat (first | exact Drawn0.refl _ | apply Drawn0.step)⟩

/-! ### cmp_isNaN_int: function 142 -/
def cmp_isNaN_int.f (a0 : Int) : Option (Bool) := some (a0 != a0)
theorem cmp_isNaN_int.calls (a0 : Int) (r : Bool) (w : World) (h : cmp_isNaN_int.f a0 = some r) :
  Calls Try.prog 142 #[.int .i64 a0] w fun e w' => e = .returned (.bool r) ∧ Drawn0 w w' := by
 unfold cmp_isNaN_int.f at h
 have H := h
 clear h
 obtain rfl := SI H
 go_enter Try.func142, Try.ntmps142
 go_wp2
 go_ret
 exact ⟨by first | rfl | (simp; done) | (simp [*]; done), by repeat (first | exact Drawn0.refl _ | apply Drawn0.step)⟩

/-! ### cmp_Compare_int: function 139 -/
def cmp_Compare_int.f (a0 : Int) (a1 : Int) : Option (Int) := (cmp_isNaN_int.f a0).bind fun ab => ((cmp_isNaN_int.f a1).bind fun aa => (if ab = true then (if aa = true then (some 0) else (some (-1))) else (if aa = true then (some 1) else (if a0 < a1 then (some (-1)) else (if a0 > a1 then (some 1) else (some 0))))))
theorem cmp_Compare_int.calls (a0 : Int) (a1 : Int) (r : Int) (w : World) (h : cmp_Compare_int.f a0 a1 = some r) :
  Calls Try.prog 139 #[.int .i64 a0, .int .i64 a1] w fun e w' => e = .returned (.int .i64 r) ∧ Drawn0 w w' := by
 unfold cmp_Compare_int.f at h
 have H := h
 clear h
 obtain ⟨ab, A3, H⟩ := OB H
 obtain ⟨aa, A4, H⟩ := OB H
 go_enter Try.func139, Try.ntmps139
 go_upto_if 11 with (first | ((with_reducible refine G1 142 rfl ?_); refine GC (some 8) Try.func142 #[.int .i64 a0] ?_; (with_reducible refine MQ (cmp_isNaN_int.calls a0 ab _ A3.out) ?_); intro nd) | ((with_reducible refine G1 142 rfl ?_); refine GC (some 10) Try.func142 #[.int .i64 a1] ?_; (with_reducible refine MQ (cmp_isNaN_int.calls a1 aa _ A4.out) ?_); intro nd))
 by_cases c5 : ab = true
 ·subst c5
  replace H := HT H
  by_cases c6 : aa = true
  ·subst c6
   replace H := HT H
   obtain rfl := SI H
   try go_wp2
   go_ret
   exact ⟨by first | rfl | (simp; done) | (simp [*]; done), by repeat (first | exact Drawn0.refl _ | apply Drawn0.step)⟩
  replace c6 := Bool.eq_false_iff.mpr c6
  subst c6
  replace H := HF H
  obtain rfl := SI H
  try go_wp2
  go_ret
  exact ⟨by first | rfl | (simp; done) | (simp [*]; done), by repeat (first | exact Drawn0.refl _ | apply Drawn0.step)⟩
 replace c5 := Bool.eq_false_iff.mpr c5
 subst c5
 replace H := HF H
 by_cases c7 : aa = true
 ·subst c7
  replace H := HT H
  obtain rfl := SI H
  try go_wp2
  go_ret
  exact ⟨by first | rfl | (simp; done) | (simp [*]; done), by repeat (first | exact Drawn0.refl _ | apply Drawn0.step)⟩
 replace c7 := Bool.eq_false_iff.mpr c7
 subst c7
 replace H := HF H
 by_cases c8 : a0 < a1
 ·rw [if_pos c8] at H
  have ac := DE c8
  clear c8
  obtain rfl := SI H
  try go_wp2
  go_ret
  exact ⟨by first | rfl | (simp; done) | (simp [*]; done), by repeat (first | exact Drawn0.refl _ | apply Drawn0.step)⟩
 rw [if_neg c8] at H
 have ac := decide_eq_false c8
 clear c8
 by_cases c9 : a0 > a1
 ·rw [if_pos c9] at H
  have ad : decide (a1 < a0) = true := DE c9
  clear c9
  obtain rfl := SI H
  try go_wp2
  go_ret
  exact ⟨by first | rfl | (simp; done) | (simp [*]; done), by repeat (first | exact Drawn0.refl _ | apply Drawn0.step)⟩
 rw [if_neg c9] at H
 have ad : decide (a1 < a0) = false := decide_eq_false c9
 clear c9
 obtain rfl := SI H
 try go_wp2
 go_ret
 exact ⟨by first | rfl | (simp; done) | (simp [*]; done), by repeat (first | exact Drawn0.refl _ | apply Drawn0.step)⟩

/-! ### impl_compareMarks: function 131 -/
def impl_compareMarks.f (k : Nat) (aa : Int) (ab : Int) (ac : Int) (ad : Int) : Option (Int) := (cmp_Compare_int.f aa ac).bind fun ae => ((cmp_Compare_int.f ab ad).bind fun af => ((cmp_Or_int.f k (([ae, af] : List Int))).bind fun ag => (some ag)))
theorem impl_compareMarks.mono : ∀ a0 a1 a2 a3 k, LeO (impl_compareMarks.f k a0 a1 a2 a3) (impl_compareMarks.f (k + 1) a0 a1 a2 a3) := by
 intro a0 a1 a2 a3 k
 unfold impl_compareMarks.f
 repeat' (with_reducible first | exact cmp_Or_int.mono .. | exact LeO.refl _ | exact LeO.none _ | refine LeO.ite ?_ ?_ | refine LeO.bind ?_ (fun _ => ?_))
def impl_compareMarks.T1 : Bool × List (List Nat × List Nat) := (true, [([], []), ([0], [0]), ([], []), ([2], [2]), ([1, 3], [1, 3]), ([], []), ([5], [5]), ([], []), ([7], [7]), ([6, 8, 4], [6, 8]), ([4, 9], [4, 9]), ([10, 9], [10]), ([11, 11, 0, 1, 2, 3, 4, 5, 6, 7, 8, 9, 10, 11], [11])])
def impl_compareMarks.B1 : List Nat := [0, 1, 0, 4, 15, 0, 32, 0, 128, 511, 1023, 2047, 4095]
theorem impl_compareMarks.tab1 : rtab .any (opsOf Try.f131 1) = impl_compareMarks.T1 := by kernel_rfl
theorem impl_compareMarks.bits1 : waitsOk impl_compareMarks.T1.2 impl_compareMarks.B1 = true := by kernel_rfl
theorem impl_compareMarks.calls (k : Nat) (ae : Int) (af : Int) (ag : Int) (ah : Int) (r : Int) (w : World) (h : impl_compareMarks.f k ae af ag ah = some r) :
  Calls Try.prog 131 #[.agg #[.int .i64 ae, .int .i64 af], .agg #[.int .i64 ag, .int .i64 ah]] w fun e w' => e = .returned (.int .i64 r) ∧ Below w.heap.size w w' := by
 have aA := Try.underlying116
 have HB := AM_ (Below.refl w.heap.size w)
 unfold impl_compareMarks.f at h
 have H := h
 clear h
 obtain ⟨ai, A3, H⟩ := OB H
 obtain ⟨aj, A4, H⟩ := OB H
 obtain ⟨au, ak⟩ : ∃ y_ : List Int, y_ = (([ai, aj] : List Int)) := ⟨_, rfl⟩
 rw [← ak] at H
 have an := AM_ ak
 clear ak
 obtain ⟨ax, A5, H⟩ := OB H
 obtain rfl := SI H
 go_enter Try.func131, Try.ntmps131
 try go_wp2_with (first | ((with_reducible refine G2 2 rfl ?_); refine BY 2 #[.int .i64 ae, .int .i64 af] 116 HB ?_; clear HB; intro ao w6 aa aB HB) | ((with_reducible refine G2 3 rfl ?_); refine BZ 3 #[.int .i64 ag, .int .i64 ah] 116 HB ?_; clear HB; intro ap w7 hg hb ab aC HB; have aq := NP aa hg; have ar := NQ aa hg; replace aa := BV aa hb; clear hb hg))
 replace aa := BD1 aa
 replace ab := BD1 ab
 replace HB := BD2 HB
 refine start_ (n := 13) (S := fun w' => w'.cell? ⟨ao, 0, none⟩ = some (.int .i64 ae) ∧ w'.cell? ⟨ao, 1, none⟩ = some (.int .i64 af) ∧ w'.cell? ⟨ap, 0, none⟩ = some (.int .i64 ag) ∧ w'.cell? ⟨ap, 1, none⟩ = some (.int .i64 ah)) (ds := []) (lo 0 13) (by kernel_rfl) rfl rfl ⟨bc aa.out 0, bc aa.out 1, bc ab.out 0, bc ab.out 1⟩ (fun ac => ?_); refine with_tabW impl_compareMarks.tab1 impl_compareMarks.bits1 (fun ad aw => ?_)
 generalize w7.drew = w8 at aa ab HB ac ⊢
 refine PS ad ?_
 refine PV 2 (some 7) (bs 5 13) ad ?_
 refine PV 5 (some 10) (bs 37 13) ad ?_
 refine PV 7 (some 12) (bs 165 13) ad ?_
 refine TX 1 (some 6) (bs 167 13) ad aw ac ?_
 refine TX 3 (some 8) (bs 175 13) ad aw ac ?_
 refine TX 6 (some 11) (bs 239 13) ad aw ac ?_
 refine TX 8 (some 13) (bs 495 13) ad aw ac ?_
 refine one_ (i := 4) (N := some 9) (lo 9 13) rfl rfl (one_of ad.out (by kernel_rfl)) (by decide) (fun K hK => ?_)
 refine GO Try.func139 #[.int .i64 ae, .int .i64 ag] ?_
 with_reducible refine MQ (cmp_Compare_int.calls ae ag ai _ A3.out) ?_
 intro nd
 refine hK.out _ _ ⟨bc aa.out 0, bc aa.out 1, bc ab.out 0, bc ab.out 1⟩ (fun ac => ?_)
 clear hK K
 refine NM 9 ?_
 refine OS ad (fun K hK => ?_)
 refine GO Try.func139 #[.int .i64 af, .int .i64 ah] ?_
 with_reducible refine MQ (cmp_Compare_int.calls af ah aj _ A4.out) ?_
 intro nd
 refine hK.out _ _ ⟨bc aa.out 0, bc aa.out 1, bc ab.out 0, bc ab.out 1⟩ (fun ac => ?_)
 clear hK K
 refine NM 14 ?_
 refine OS ad (fun K hK => ?_)
 refine Kd.R_lit_step (Kd.int .i64) _ 3 ?hg (N := 15) ?hd (xs := ([ai, aj] : List Int)) (inner := [.int .i64 ai, .int .i64 aj]) (ok := fun _ => True) (okp := fun _ => True) ?hr ?hp (fun _ hk => hk) trivial (Below.refl _ _) (Nat.le_refl _) (by simp) ?_; (case hd => rfl); (case hg => rfl); (case hr => first | (go_simp; done) | (go_simp; rfl)); (case hp => exact (Reps.one (show Kd.M (Kd.int .i64) _ _ _ ai [.int .i64 ai] from rfl) (Reps.one (show Kd.M (Kd.int .i64) _ _ _ aj [.int .i64 aj] from rfl) (Reps.none _ _))))
 intro aD w9 al hb hg_ hnew_
 clear hg_ hnew_
 (first | rw [← an.out] at al | (simp only [Int.reduceToNat] at al; rw [← an.out] at al))
 have am := AM_ (Kd.R_lower al (below_size (BT HB.out)))
 replace aa := BV aa hb
 replace ab := BV ab hb
 replace HB := BW HB hb
 clear hb al
 obtain ⟨ay, az, av⟩ := Kd.R_slice am.out
 (first | subst av | (injection av with f1_ f2_ f3_; have f4_ := f1_.symm; have f5_ := f3_.symm; clear f1_ f2_ f3_; subst f4_; subst f5_))
 refine hK.out _ _ ⟨bc aa.out 0, bc aa.out 1, bc ab.out 0, bc ab.out 1⟩ (fun ac => ?_)
 clear hK K
 refine NM 15 ?_
 refine OS ad (fun K hK => ?_)
 refine GO Try.func138 #[.slice ay au.length az] ?_
 with_reducible refine (cmp_Or_int.calls k _ _ au ax _ (CRR am) (Kd.R_reads' am.out).2.1 A5.out).mono ?_
 rintro e w' ⟨rfl, ⟨nd, rfl⟩⟩
 refine ⟨_, rfl, ?_⟩
 refine hK.out _ _ ⟨bc aa.out 0, bc aa.out 1, bc ab.out 0, bc ab.out 1⟩ (fun ac => ?_)
 clear hK K
 refine NM 16 ?_
 refine PS ad ?_
 refine done_ (done_of ad.out (by kernel_rfl)) ?_
 try go_wp2
 go_ret
 exact QT (BT HB.out)

/-! ### impl_areReads: function 111 -/
mutual
def impl_areReads.l0 : Nat → List (S116) → List (S116) → Int → Int → Option (Bool)
 | 0, _, _, _, _ => none
 | k + 1, x0, x5, x6, x7 => if x7 < x6 then (if 0 ≤ x7 then (if x7 < (x5.length : Int) then ((impl_isKey.f ((rd_T116 x5 x7).f0)).bind fun aa => (if aa = true then ((impl_in.f ((rd_T116 x5 x7).f1) 0 999).bind fun ab => (if ab = true then (if x7 > 0 then (if 0 ≤ (wrap64 (x7 - 1)) then (if (wrap64 (x7 - 1)) < (x0.length : Int) then ((impl_compareMarks.f k ((rd_T116 x0 (wrap64 (x7 - 1))).f0) ((rd_T116 x0 (wrap64 (x7 - 1))).f1) ((rd_T116 x5 x7).f0) ((rd_T116 x5 x7).f1)).bind fun ac => (impl_areReads.j1 k x0 x7 x5 x6 (decide (ac ≥ 0)))) else (none)) else (none)) else (impl_areReads.j1 k x0 x7 x5 x6 false)) else (impl_areReads.j1 k x0 x7 x5 x6 true))) else (impl_areReads.j1 k x0 x7 x5 x6 true))) else (none)) else (none)) else (some (decide ((x0.length : Int) ≤ 60)))
def impl_areReads.j1 : Nat → List (S116) → Int → List (S116) → Int → Bool → Option (Bool)
 | 0, _, _, _, _, _ => none
 | k + 1, x0, x3, x5, x6, ad => if ad = true then (some false) else (impl_areReads.l0 k x0 x5 x6 (wrap64 (x3 + 1)))
end
def impl_areReads.f (k : Nat) (l0 : List (S116)) : Option (Bool) := impl_areReads.l0 k l0 l0 (l0.length : Int) 0
theorem impl_areReads.mono_l : ∀ k, (∀ y0 y1 y2 y3, LeO (impl_areReads.l0 k y0 y1 y2 y3) (impl_areReads.l0 (k + 1) y0 y1 y2 y3)) ∧ (∀ y0 y1 y2 y3 y4, LeO (impl_areReads.j1 k y0 y1 y2 y3 y4) (impl_areReads.j1 (k + 1) y0 y1 y2 y3 y4))
 | 0 => ⟨fun _ _ _ _ r h => by simp [impl_areReads.l0] at h, fun _ _ _ _ _ r h => by simp [impl_areReads.j1] at h⟩
 | k + 1 => by
  obtain ⟨aa, ab⟩ := impl_areReads.mono_l k
  refine ⟨?_, ?_⟩
  all_goals intros; first | unfold impl_areReads.l0 | unfold impl_areReads.j1
  all_goals repeat' (with_reducible first | exact aa .. | exact ab .. | exact impl_compareMarks.mono .. | exact LeO.refl _ | exact LeO.none _ | refine LeO.ite ?_ ?_ | refine LeO.bind ?_ (fun _ => ?_))
theorem impl_areReads.mono : ∀ a0 k, LeO (impl_areReads.f k a0) (impl_areReads.f (k + 1) a0) := by
 intro a0 k
 obtain ⟨aa, ab⟩ := impl_areReads.mono_l k
 unfold impl_areReads.f
 repeat' (with_reducible first | exact aa .. | exact ab .. | exact impl_compareMarks.mono .. | exact LeO.refl _ | exact LeO.none _ | refine LeO.ite ?_ ?_ | refine LeO.bind ?_ (fun _ => ?_))
def impl_areReads.T4 : Bool × List (List Nat × List Nat) := (true, [([], []), ([0], [0]), ([1], [1]), ([2], [2]), ([3, 2], [3]), ([4], [4]), ([5, 4], [4, 5]), ([6, 4, 4], [4, 6]), ([7, 4], [4, 7]), ([4, 8], [4, 8]), ([9, 7], [9]), ([10], [10]), ([11, 10], [10, 11]), ([12, 10, 10], [10, 12]), ([13], [13]), ([13], [13]), ([15, 13], [13, 15]), ([14, 16, 13], [13, 14, 16]), ([17, 13], [13, 17]), ([13], [13]), ([18, 19, 13, 13], [13, 18, 19]), ([20, 13], [13, 20]), ([13, 21, 10], [10, 13, 21]), ([10, 22], [10, 22])])
def impl_areReads.B4 : List Nat := [0, 1, 3, 7, 15, 31, 63, 127, 255, 511, 1023, 2047, 4095, 8191, 16383, 16383, 49151, 131071, 262143, 16383, 1048575, 2097151, 4194303, 8388607]
theorem impl_areReads.tab4 : rtab .any (opsOf Try.f111 4) = impl_areReads.T4 := by kernel_rfl
theorem impl_areReads.bits4 : waitsOk impl_areReads.T4.2 impl_areReads.B4 = true := by kernel_rfl
theorem impl_areReads.calls (k : Nat) (A0 : Option Addr) (c0 : Nat) (l0 : List (S116)) (r : Bool) (w : World) (aX : Kd.C k116 w A0 l0.length l0) (aY : l0.length ≤ c0) (h : impl_areReads.f k l0 = some r) :
  Calls Try.prog 111 #[.slice A0 l0.length c0] w fun e w' => e = .returned (.bool r) ∧ Below w.heap.size w w' := by
 have aZ := Try.underlying116
 have a4 := AM_ aX
 have be := AM_ aY
 clear aX aY
 have HB := AM_ (Below.refl w.heap.size w)
 unfold impl_areReads.f at h
 have H := h
 clear h
 have H' := AM_ H
 clear H
 go_enter Try.func111, Try.ntmps111
 go_wp2
 go_loopg [7] k (fun kq v7 w' => ∃ (ab : Int), v7 = .int .i64 ab ∧ Aside0 (impl_areReads.l0 kq l0 l0 (l0.length : Int) ab = some r) ∧ Aside0 (kq ≤ k) ∧ Aside0 (Below w.heap.size w w'))
 case atStart => exact ⟨(0), (by first | rfl | (simp; done) | (simp [*]; done)), H', ⟨Nat.le_refl _⟩, ⟨BT HB.out⟩⟩
 case round =>
  clear H'
  obtain ⟨ab, rfl, HA, aC, HB⟩ := hrel
  cases gk with
  | zero => exact absurd HA.out (by simp [impl_areReads.l0])
  | succ k1 =>
   have H := HA.out
   clear HA
   simp only [impl_areReads.l0] at H
   by_cases c2 : ab < (l0.length : Int)
   rotate_left
   ·rw [if_neg c2] at H
    have aH := decide_eq_false c2
    clear c2
    obtain rfl := SI H
    go_wp2
    go_ret
    exact QT (BT HB.out)
   rw [if_pos c2] at H
   have aH := DE c2
   clear c2
   replace H := HI H
   obtain ⟨c3, H⟩ := H
   have a9 := DE c3
   clear c3
   replace H := HI H
   obtain ⟨c4, H⟩ := H
   have ba := DE c4
   clear c4
   have aI := AM_ H
   clear H
   have ax : 0 ≤ (ab : Int) := DT
   have ay : ab < (l0.length : Int) := DT
   obtain ⟨an, aJ, ao, ap⟩ := at_T116 a4.out ab ax ay
   cases aJ
   replace ao := BC HB.out ao
   replace ap := BC HB.out ap
   replace ax := ET ax
   replace ay := ET ay
   go_upto_region 4 with (first | ((with_reducible refine G2 4 rfl ?_); refine BY 4 #[.int .i64 0, .int .i64 0] 116 HB ?_; clear HB; intro ad w6 aa a5 HB; obtain ⟨aK, aL, aM, aN⟩ := bk2 aa.out))
   (try simp only [pA, pS, pZ, pK])
   go_cut [35] (fun bb wc => ∃ (kq : Nat) (aq : Bool), bb = .bool aq ∧ Aside0 (impl_areReads.j1 kq l0 ab l0 (l0.length : Int) aq = some r) ∧ Aside0 (kq ≤ k1) ∧ Aside0 (wc.heap[ad]? = some (.cells #[.int .i64 ((rd_T116 l0 ab).f0), .int .i64 ((rd_T116 l0 ab).f1)] 116 (0, 0))) ∧ Aside0 (Below w.heap.size w wc))
   case first =>
    have H := aI.out
    clear aI
    obtain ⟨aO, A8, H⟩ := OB H
    by_cases c9 : aO = true
    rotate_left
    ·replace c9 := Bool.eq_false_iff.mpr c9
     subst c9
     replace H := HF H
     have H' := AM_ H
     clear H
     try go_wp2
     generalize am : (w6.setCell ⟨ad, 0, none⟩ (.int .i64 ((rd_T116 l0 ab).f0))).setCell ⟨ad, 1, none⟩ (.int .i64 ((rd_T116 l0 ab).f1)) = aP
     have ar : Aside0 (aP.heap[ad]? = some (.cells #[.int .i64 ((rd_T116 l0 ab).f0), .int .i64 ((rd_T116 l0 ab).f1)] 116 (0, 0))) := by subst am; exact ⟨BQ aa.out⟩
     have au : Aside0 (Below w.heap.size w aP) := by subst am; exact ⟨BT HB.out⟩
     (try clear aa)
     (try clear HB)
     clear am
     have aa := ar
     have HB := au
     clear ar au
     replace aa := BD1 aa
     replace HB := BD2 HB
     refine start_ (n := 24) (S := fun w' => w'.cell? ⟨ad, 0, none⟩ = some (.int .i64 ((rd_T116 l0 ab).f0)) ∧ w'.cell? ⟨ad, 1, none⟩ = some (.int .i64 ((rd_T116 l0 ab).f1))) (ds := []) (lo 0 24) (by kernel_rfl) rfl rfl ⟨bc aa.out 0, bc aa.out 1⟩ (fun ac => ?_); refine with_tabW impl_areReads.tab4 impl_areReads.bits4 (fun ae av => ?_)
     generalize aP.drew = bf at aa HB ac ⊢
     iterate 2 first | refine PS ae ?_ | refine TS ae av ac ?_
     refine OS ae (fun K hK => ?_)
     refine GO Try.func56 #[.int .i64 ((rd_T116 l0 ab).f0)] ?_
     with_reducible refine MQ (impl_isKey.calls ((rd_T116 l0 ab).f0) false _ A8.out) ?_
     intro nd
     refine hK.out _ _ ⟨bc aa.out 0, bc aa.out 1⟩ (fun ac => ?_)
     clear hK K
     refine NM 14 ?_
     iterate 21 first | refine PS ae ?_ | refine PT ae ?_
     refine done_ (done_of ae.out (by kernel_rfl)) ?_
     try go_wp2
     go_meet
     case rel => exact ⟨_, (true), (by first | rfl | (simp; done) | (simp [*]; done)), H', ⟨by have := aC.out; first | omega | exact Nat.le_refl _⟩, ⟨BH aa.out⟩, ⟨BT HB.out⟩⟩
    subst c9
    replace H := HT H
    obtain ⟨aQ, aF, H⟩ := OB H
    by_cases aD : aQ = true
    rotate_left
    ·replace aD := Bool.eq_false_iff.mpr aD
     subst aD
     replace H := HF H
     have H' := AM_ H
     clear H
     try go_wp2
     generalize am : (w6.setCell ⟨ad, 0, none⟩ (.int .i64 ((rd_T116 l0 ab).f0))).setCell ⟨ad, 1, none⟩ (.int .i64 ((rd_T116 l0 ab).f1)) = aR
     have ar : Aside0 (aR.heap[ad]? = some (.cells #[.int .i64 ((rd_T116 l0 ab).f0), .int .i64 ((rd_T116 l0 ab).f1)] 116 (0, 0))) := by subst am; exact ⟨BQ aa.out⟩
     have au : Aside0 (Below w.heap.size w aR) := by subst am; exact ⟨BT HB.out⟩
     (try clear aa)
     (try clear HB)
     clear am
     have aa := ar
     have HB := au
     clear ar au
     replace aa := BD1 aa
     replace HB := BD2 HB
     refine start_ (n := 24) (S := fun w' => w'.cell? ⟨ad, 0, none⟩ = some (.int .i64 ((rd_T116 l0 ab).f0)) ∧ w'.cell? ⟨ad, 1, none⟩ = some (.int .i64 ((rd_T116 l0 ab).f1))) (ds := []) (lo 0 24) (by kernel_rfl) rfl rfl ⟨bc aa.out 0, bc aa.out 1⟩ (fun ac => ?_); refine with_tabW impl_areReads.tab4 impl_areReads.bits4 (fun ae av => ?_)
     generalize aR.drew = bg at aa HB ac ⊢
     iterate 2 first | refine PS ae ?_ | refine TS ae av ac ?_
     refine OS ae (fun K hK => ?_)
     refine GO Try.func56 #[.int .i64 ((rd_T116 l0 ab).f0)] ?_
     with_reducible refine MQ (impl_isKey.calls ((rd_T116 l0 ab).f0) true _ A8.out) ?_
     intro nd
     refine hK.out _ _ ⟨bc aa.out 0, bc aa.out 1⟩ (fun ac => ?_)
     clear hK K
     refine NM 14 ?_
     iterate 4 first | refine PS ae ?_ | refine TS ae av ac ?_
     refine OS ae (fun K hK => ?_)
     refine GO Try.func41 #[.int .i64 ((rd_T116 l0 ab).f1), .int .i64 0, .int .i64 999] ?_
     with_reducible refine MQ (impl_in.calls ((rd_T116 l0 ab).f1) 0 999 false _ aF.out) ?_
     intro nd
     refine hK.out _ _ ⟨bc aa.out 0, bc aa.out 1⟩ (fun ac => ?_)
     clear hK K
     refine NM 19 ?_
     iterate 16 first | refine PS ae ?_ | refine PT ae ?_
     refine done_ (done_of ae.out (by kernel_rfl)) ?_
     try go_wp2
     go_meet
     case rel => exact ⟨_, (true), (by first | rfl | (simp; done) | (simp [*]; done)), H', ⟨by have := aC.out; first | omega | exact Nat.le_refl _⟩, ⟨BH aa.out⟩, ⟨BT HB.out⟩⟩
    subst aD
    replace H := HT H
    by_cases az : ab > 0
    rotate_left
    ·rw [if_neg az] at H
     have ak : decide (0 < ab) = false := decide_eq_false az
     clear az
     (first | rw [ak] | (simp only [i64_w, i32_w]; rw [ak]) | skip)
     have H' := AM_ H
     clear H
     try go_wp2
     generalize am : (w6.setCell ⟨ad, 0, none⟩ (.int .i64 ((rd_T116 l0 ab).f0))).setCell ⟨ad, 1, none⟩ (.int .i64 ((rd_T116 l0 ab).f1)) = aS
     have ar : Aside0 (aS.heap[ad]? = some (.cells #[.int .i64 ((rd_T116 l0 ab).f0), .int .i64 ((rd_T116 l0 ab).f1)] 116 (0, 0))) := by subst am; exact ⟨BQ aa.out⟩
     have au : Aside0 (Below w.heap.size w aS) := by subst am; exact ⟨BT HB.out⟩
     (try clear aa)
     (try clear HB)
     clear am
     have aa := ar
     have HB := au
     clear ar au
     replace aa := BD1 aa
     replace HB := BD2 HB
     refine start_ (n := 24) (S := fun w' => w'.cell? ⟨ad, 0, none⟩ = some (.int .i64 ((rd_T116 l0 ab).f0)) ∧ w'.cell? ⟨ad, 1, none⟩ = some (.int .i64 ((rd_T116 l0 ab).f1))) (ds := []) (lo 0 24) (by kernel_rfl) rfl rfl ⟨bc aa.out 0, bc aa.out 1⟩ (fun ac => ?_); refine with_tabW impl_areReads.tab4 impl_areReads.bits4 (fun ae av => ?_)
     generalize aS.drew = bh at aa HB ac ⊢
     iterate 2 first | refine PS ae ?_ | refine TS ae av ac ?_
     refine OS ae (fun K hK => ?_)
     refine GO Try.func56 #[.int .i64 ((rd_T116 l0 ab).f0)] ?_
     with_reducible refine MQ (impl_isKey.calls ((rd_T116 l0 ab).f0) true _ A8.out) ?_
     intro nd
     refine hK.out _ _ ⟨bc aa.out 0, bc aa.out 1⟩ (fun ac => ?_)
     clear hK K
     refine NM 14 ?_
     iterate 4 first | refine PS ae ?_ | refine TS ae av ac ?_
     refine OS ae (fun K hK => ?_)
     refine GO Try.func41 #[.int .i64 ((rd_T116 l0 ab).f1), .int .i64 0, .int .i64 999] ?_
     with_reducible refine MQ (impl_in.calls ((rd_T116 l0 ab).f1) 0 999 true _ aF.out) ?_
     intro nd
     refine hK.out _ _ ⟨bc aa.out 0, bc aa.out 1⟩ (fun ac => ?_)
     clear hK K
     refine NM 19 ?_
     iterate 16 first | refine PS ae ?_ | refine PT ae ?_
     refine done_ (done_of ae.out (by kernel_rfl)) ?_
     try go_wp2
     go_meet
     case rel => exact ⟨_, (false), (by first | rfl | (simp; done) | (simp [*]; done)), H', ⟨by have := aC.out; first | omega | exact Nat.le_refl _⟩, ⟨BH aa.out⟩, ⟨BT HB.out⟩⟩
    rw [if_pos az] at H
    have ak : decide (0 < ab) = true := DE az
    clear az
    (first | rw [ak] | (simp only [i64_w, i32_w]; rw [ak]) | skip)
    obtain ⟨af, al⟩ : ∃ j_ : Int, (wrap64 (ab - 1)) = j_ := ⟨_, rfl⟩
    replace H : (if 0 ≤ (af) then (if (af) < (l0.length : Int) then ((impl_compareMarks.f k1 ((rd_T116 l0 (af)).f0) ((rd_T116 l0 (af)).f1) ((rd_T116 l0 ab).f0) ((rd_T116 l0 ab).f1)).bind fun aw => (impl_areReads.j1 k1 l0 ab l0 (l0.length : Int) (decide (aw ≥ 0)))) else (none)) else (none)) = some r := by first | (rw [al] at H; exact H) | (simp only [al] at H ⊢; exact H)
    (try rw [al] at A8)
    (try rw [al] at aF)
    have hji13w : (IntKind.i64.wrap (ab - 1)) = af := (i64_w _).trans al
    replace H := HI H
    obtain ⟨aT, H⟩ := H
    have a6 := DE aT
    clear aT
    replace H := HI H
    obtain ⟨aU, H⟩ := H
    have a7 := DE aU
    clear aU
    obtain ⟨aw, bd, H⟩ := OB H
    have H' := AM_ H
    clear H
    try go_wp2
    generalize am : (w6.setCell ⟨ad, 0, none⟩ (.int .i64 ((rd_T116 l0 ab).f0))).setCell ⟨ad, 1, none⟩ (.int .i64 ((rd_T116 l0 ab).f1)) = aV
    have ar : Aside0 (aV.heap[ad]? = some (.cells #[.int .i64 ((rd_T116 l0 ab).f0), .int .i64 ((rd_T116 l0 ab).f1)] 116 (0, 0))) := by subst am; exact ⟨BQ aa.out⟩
    have au : Aside0 (Below w.heap.size w aV) := by subst am; exact ⟨BT HB.out⟩
    (try clear aa)
    (try clear HB)
    clear am
    have aa := ar
    have HB := au
    clear ar au
    replace aa := BD1 aa
    replace HB := BD2 HB
    have aA : 0 ≤ ((af) : Int) := DT
    have aB : (af) < (l0.length : Int) := DT
    obtain ⟨aE, aW, ag, ah⟩ := at_T116 a4.out (af) aA aB
    have ai := ah
    have aj := ag
    obtain rfl : an = aE := (by injection aW)
    replace ag := BC HB.out ag
    replace ah := BC HB.out ah
    replace aA := ET aA
    replace aB := ET aB
    refine start_ (n := 24) (S := fun w' => w'.cell? ⟨ad, 0, none⟩ = some (.int .i64 ((rd_T116 l0 ab).f0)) ∧ w'.cell? ⟨ad, 1, none⟩ = some (.int .i64 ((rd_T116 l0 ab).f1)) ∧ w'.cell? (an.add (((af)).toNat * 2)) = some (.int .i64 ((rd_T116 l0 (af)).f0)) ∧ w'.cell? ⟨(an.add (((af)).toNat * 2)).block, (an.add (((af)).toNat * 2)).off + 1, none⟩ = some (.int .i64 ((rd_T116 l0 (af)).f1))) (ds := []) (lo 0 24) (by kernel_rfl) rfl rfl ⟨bc aa.out 0, bc aa.out 1, (BD HB.out aj), (BD HB.out ai)⟩ (fun ac => ?_); refine with_tabW impl_areReads.tab4 impl_areReads.bits4 (fun ae av => ?_)
    generalize aV.drew = bi at aa HB ag ah ac ⊢
    iterate 2 first | refine PS ae ?_ | refine TS ae av ac ?_
    refine OS ae (fun K hK => ?_)
    refine GO Try.func56 #[.int .i64 ((rd_T116 l0 ab).f0)] ?_
    with_reducible refine MQ (impl_isKey.calls ((rd_T116 l0 ab).f0) true _ A8.out) ?_
    intro nd
    refine hK.out _ _ ⟨bc aa.out 0, bc aa.out 1, (BD HB.out aj), (BD HB.out ai)⟩ (fun ac => ?_)
    clear hK K
    refine NM 14 ?_
    iterate 4 first | refine PS ae ?_ | refine TS ae av ac ?_
    refine OS ae (fun K hK => ?_)
    refine GO Try.func41 #[.int .i64 ((rd_T116 l0 ab).f1), .int .i64 0, .int .i64 999] ?_
    with_reducible refine MQ (impl_in.calls ((rd_T116 l0 ab).f1) 0 999 true _ aF.out) ?_
    intro nd
    refine hK.out _ _ ⟨bc aa.out 0, bc aa.out 1, (BD HB.out aj), (BD HB.out ai)⟩ (fun ac => ?_)
    clear hK K
    refine NM 19 ?_
    iterate 12 first | refine PS ae ?_ | refine TS ae av ac ?_
    refine OS ae (fun K hK => ?_)
    refine goes_ Try.func131 (by kernel_rfl) rfl #[.agg #[.int .i64 ((rd_T116 l0 (af)).f0), .int .i64 ((rd_T116 l0 (af)).f1)], .agg #[.int .i64 ((rd_T116 l0 ab).f0), .int .i64 ((rd_T116 l0 ab).f1)]] (by rfl) rfl rfl (by (try simp only [List.map_toArray, List.map_cons, List.map_nil]); first | done | (simp only [al]; rfl) | rfl | (simp only [List.length_drop, List.length_take]; rfl)) ?_
    with_reducible refine (impl_compareMarks.calls k1 ((rd_T116 l0 (af)).f0) ((rd_T116 l0 (af)).f1) ((rd_T116 l0 ab).f0) ((rd_T116 l0 ab).f1) aw _ bd.out).mono ?_
    rintro e bj ⟨rfl, hb⟩
    refine ⟨_, rfl, ?_⟩
    replace aa := BV aa hb
    replace HB := BW HB hb
    (try clear hb)
    refine hK.out _ _ ⟨bc aa.out 0, bc aa.out 1, (BD HB.out aj), (BD HB.out ai)⟩ (fun ac => ?_)
    clear hK K
    refine NM 32 ?_
    iterate 3 refine PS ae ?_
    refine done_ (done_of ae.out (by kernel_rfl)) ?_
    try go_wp2
    go_meet
    case rel => exact ⟨_, (decide (aw ≥ 0)), (by first | rfl | (simp; done) | (simp [*]; done)), H', ⟨by have := aC.out; first | omega | exact Nat.le_refl _⟩, ⟨BH aa.out⟩, ⟨BT HB.out⟩⟩
   case rest =>
    clear aI
    try clear c4
    try clear c9
    try clear aD
    try clear az
    try clear ak
    try clear aT
    try clear aU
    obtain ⟨kq, aq, rfl, HA, a8, aa, HB⟩ := hcut
    cases kq with
    | zero => exact absurd HA.out (by simp [impl_areReads.j1])
    | succ kj4 =>
     have H := HA.out
     clear HA
     simp only [impl_areReads.j1] at H
     by_cases aG : aq = true
     ·subst aG
      replace H := HT H
      obtain rfl := SI H
      go_wp2
      go_ret
      exact QT (BT HB.out)
     replace aG := Bool.eq_false_iff.mpr aG
     subst aG
     replace H := HF H
     have H' := AM_ H
     clear H
     go_wp2
     go_roundg kj4
     case measure => have := aC.out; have := a8.out; omega
     case rel => exact ⟨(wrap64 (ab + 1)), (by first | rfl | (simp; done) | (simp [*]; done)), H', ⟨by have := aC.out; have := a8.out; omega⟩, ⟨BT HB.out⟩⟩

/-! ### impl_areWrites: function 112 -/
mutual
def impl_areWrites.l0 : Nat → List (S103) → List (S103) → Int → Int → Option (Bool)
 | 0, _, _, _, _ => none
 | k + 1, x0, x5, x6, x7 => if x7 < x6 then (if 0 ≤ x7 then (if x7 < (x5.length : Int) then ((impl_isKey.f ((rd_T103 x5 x7).f0)).bind fun aa => (if aa = true then ((impl_isValue.f ((rd_T103 x5 x7).f1)).bind fun ab => (if ab = true then (if x7 > 0 then (if 0 ≤ (wrap64 (x7 - 1)) then (if (wrap64 (x7 - 1)) < (x0.length : Int) then (impl_areWrites.j1 k x0 x7 x5 x6 (decide (((rd_T103 x0 (wrap64 (x7 - 1))).f0) ≥ ((rd_T103 x5 x7).f0)))) else (none)) else (none)) else (impl_areWrites.j1 k x0 x7 x5 x6 false)) else (impl_areWrites.j1 k x0 x7 x5 x6 true))) else (impl_areWrites.j1 k x0 x7 x5 x6 true))) else (none)) else (none)) else (some true)
def impl_areWrites.j1 : Nat → List (S103) → Int → List (S103) → Int → Bool → Option (Bool)
 | 0, _, _, _, _, _ => none
 | k + 1, x0, x3, x5, x6, ac => if ac = true then (some false) else (impl_areWrites.l0 k x0 x5 x6 (wrap64 (x3 + 1)))
end
def impl_areWrites.f (k : Nat) (l0 : List (S103)) : Option (Bool) := impl_areWrites.l0 k l0 l0 (l0.length : Int) 0
theorem impl_areWrites.mono_l : ∀ k, (∀ y0 y1 y2 y3, LeO (impl_areWrites.l0 k y0 y1 y2 y3) (impl_areWrites.l0 (k + 1) y0 y1 y2 y3)) ∧ (∀ y0 y1 y2 y3 y4, LeO (impl_areWrites.j1 k y0 y1 y2 y3 y4) (impl_areWrites.j1 (k + 1) y0 y1 y2 y3 y4))
 | 0 => ⟨fun _ _ _ _ r h => by simp [impl_areWrites.l0] at h, fun _ _ _ _ _ r h => by simp [impl_areWrites.j1] at h⟩
 | k + 1 => by
  obtain ⟨aa, ab⟩ := impl_areWrites.mono_l k
  refine ⟨?_, ?_⟩
  all_goals intros; first | unfold impl_areWrites.l0 | unfold impl_areWrites.j1
  all_goals repeat' (with_reducible first | exact aa .. | exact ab .. | exact LeO.refl _ | exact LeO.none _ | refine LeO.ite ?_ ?_ | refine LeO.bind ?_ (fun _ => ?_))
theorem impl_areWrites.mono : ∀ a0 k, LeO (impl_areWrites.f k a0) (impl_areWrites.f (k + 1) a0) := by
 intro a0 k
 obtain ⟨aa, ab⟩ := impl_areWrites.mono_l k
 unfold impl_areWrites.f
 repeat' (with_reducible first | exact aa .. | exact ab .. | exact LeO.refl _ | exact LeO.none _ | refine LeO.ite ?_ ?_ | refine LeO.bind ?_ (fun _ => ?_))
theorem impl_areWrites.calls (k : Nat) (A0 : Option Addr) (c0 : Nat) (l0 : List (S103)) (r : Bool) (w : World) (bf : Kd.C k103 w A0 l0.length l0) (bg : l0.length ≤ c0) (h : impl_areWrites.f k l0 = some r) :
  Calls Try.prog 112 #[.slice A0 l0.length c0] w fun e w' => e = .returned (.bool r) ∧ Below w.heap.size w w' := by
 have bh := Try.underlying103
 have a4 := AM_ bf
 have bk := AM_ bg
 clear bf bg
 have HB := AM_ (Below.refl w.heap.size w)
 unfold impl_areWrites.f at h
 have H := h
 clear h
 have H' := AM_ H
 clear H
 go_enter Try.func112, Try.ntmps112
 go_wp2
 repeat (go_quiet (fail); try go_wp2)
 go_loopg [7] k (fun kq v7 w' => ∃ (ab : Int), v7 = .int .i64 ab ∧ Aside0 (impl_areWrites.l0 kq l0 l0 (l0.length : Int) ab = some r) ∧ Aside0 (kq ≤ k) ∧ Aside0 (Below w.heap.size w w'))
 case atStart => exact ⟨(0), (by first | rfl | (simp; done) | (simp [*]; done)), H', ⟨Nat.le_refl _⟩, ⟨BT HB.out⟩⟩
 case round =>
  clear H'
  obtain ⟨ab, rfl, HA, aV, HB⟩ := hrel
  cases gk with
  | zero => exact absurd HA.out (by simp [impl_areWrites.l0])
  | succ k1 =>
   have H := HA.out
   clear HA
   simp only [impl_areWrites.l0] at H
   by_cases c2 : ab < (l0.length : Int)
   rotate_left
   ·rw [if_neg c2] at H
    have aW := decide_eq_false c2
    clear c2
    obtain rfl := SI H
    go_wp2
    repeat (go_quiet (fail); try go_wp2)
    go_ret
    exact QT (BT HB.out)
   rw [if_pos c2] at H
   have aW := DE c2
   clear c2
   replace H := HI H
   obtain ⟨c3, H⟩ := H
   have a6 := DE c3
   clear c3
   replace H := HI H
   obtain ⟨c4, H⟩ := H
   have a7 := DE c4
   clear c4
   have a8 := AM_ H
   clear H
   have aC : 0 ≤ (ab : Int) := DT
   have aD : ab < (l0.length : Int) := DT
   obtain ⟨ah, a9, ao, ap⟩ := at_T103 a4.out ab aC aD
   cases a9
   replace ao := BC HB.out ao
   replace ap := BC HB.out ap
   replace aC := ET aC
   replace aD := ET aD
   go_upto_region 4 with (first | ((with_reducible refine G2 4 rfl ?_); refine BY 4 #[.int .i64 0, .int .i64 0] 103 HB ?_; clear HB; intro af w6 ag aj HB; obtain ⟨ar, au, av, aw⟩ := bk2 ag.out))
   repeat (go_quiet (first | ((with_reducible refine G2 4 rfl ?_); refine BY 4 #[.int .i64 0, .int .i64 0] 103 HB ?_; clear HB; intro af w6 ag aj HB; obtain ⟨ar, au, av, aw⟩ := bk2 ag.out)); go_upto_region 4 with (first | ((with_reducible refine G2 4 rfl ?_); refine BY 4 #[.int .i64 0, .int .i64 0] 103 HB ?_; clear HB; intro af w6 ag aj HB; obtain ⟨ar, au, av, aw⟩ := bk2 ag.out)))
   (try simp only [pA, pS, pZ, pK])
   go_cut [36] (fun bj wc => ∃ (kq : Nat) (ax : Bool), bj = .bool ax ∧ Aside0 (impl_areWrites.j1 kq l0 ab l0 (l0.length : Int) ax = some r) ∧ Aside0 (kq ≤ k1) ∧ Aside0 (wc.heap[af]? = some (.cells #[.int .i64 ((rd_T103 l0 ab).f0), .int .i64 ((rd_T103 l0 ab).f1)] 103 (0, 0))) ∧ Aside0 (Below w.heap.size w wc))
   case first =>
    have H := a8.out
    clear a8
    obtain ⟨ba, A8, H⟩ := OB H
    by_cases c9 : ba = true
    rotate_left
    ·replace c9 := Bool.eq_false_iff.mpr c9
     subst c9
     replace H := HF H
     have H' := AM_ H
     clear H
     obtain ⟨aE, aF, aG, aH⟩ := bk2 ag.out
     go_wp2_with (first | (go_at_call 56; (with_reducible refine (impl_isKey.calls ((rd_T103 l0 ab).f0) false _ A8.out).mono ?_); rintro e w' ⟨rfl, ⟨nd, rfl⟩⟩; (try first | exact DW | exact DX)))
     repeat (go_quiet (first | (go_at_call 56; (with_reducible refine (impl_isKey.calls ((rd_T103 l0 ab).f0) false _ A8.out).mono ?_); rintro e w' ⟨rfl, ⟨nd, rfl⟩⟩; (try first | exact DW | exact DX))); try go_wp2_with (first | (go_at_call 56; (with_reducible refine (impl_isKey.calls ((rd_T103 l0 ab).f0) false _ A8.out).mono ?_); rintro e w' ⟨rfl, ⟨nd, rfl⟩⟩; (try first | exact DW | exact DX))))
     go_meet
     case rel => exact ⟨_, (true), (by first | rfl | (simp; done) | (simp [*]; done)), H', ⟨by have := aV.out; first | omega | exact Nat.le_refl _⟩, ⟨BQ ag.out⟩, ⟨BT HB.out⟩⟩
    subst c9
    replace H := HT H
    obtain ⟨bb, aB, H⟩ := OB H
    by_cases aX : bb = true
    rotate_left
    ·replace aX := Bool.eq_false_iff.mpr aX
     subst aX
     replace H := HF H
     have H' := AM_ H
     clear H
     obtain ⟨aI, aJ, aK, aL⟩ := bk2 ag.out
     go_wp2_with (first | (go_at_call 56; (with_reducible refine (impl_isKey.calls ((rd_T103 l0 ab).f0) true _ A8.out).mono ?_); rintro e w' ⟨rfl, ⟨nd, rfl⟩⟩; (try first | exact DW | exact DX)) | (go_at_call 130; (with_reducible refine (impl_isValue.calls ((rd_T103 l0 ab).f1) false _ aB.out).mono ?_); rintro e w' ⟨rfl, ⟨nd, rfl⟩⟩; (try first | exact DW | exact DX)))
     repeat (go_quiet (first | (go_at_call 56; (with_reducible refine (impl_isKey.calls ((rd_T103 l0 ab).f0) true _ A8.out).mono ?_); rintro e w' ⟨rfl, ⟨nd, rfl⟩⟩; (try first | exact DW | exact DX)) | (go_at_call 130; (with_reducible refine (impl_isValue.calls ((rd_T103 l0 ab).f1) false _ aB.out).mono ?_); rintro e w' ⟨rfl, ⟨nd, rfl⟩⟩; (try first | exact DW | exact DX))); try go_wp2_with (first | (go_at_call 56; (with_reducible refine (impl_isKey.calls ((rd_T103 l0 ab).f0) true _ A8.out).mono ?_); rintro e w' ⟨rfl, ⟨nd, rfl⟩⟩; (try first | exact DW | exact DX)) | (go_at_call 130; (with_reducible refine (impl_isValue.calls ((rd_T103 l0 ab).f1) false _ aB.out).mono ?_); rintro e w' ⟨rfl, ⟨nd, rfl⟩⟩; (try first | exact DW | exact DX))))
     go_meet
     case rel => exact ⟨_, (true), (by first | rfl | (simp; done) | (simp [*]; done)), H', ⟨by have := aV.out; first | omega | exact Nat.le_refl _⟩, ⟨BQ ag.out⟩, ⟨BT HB.out⟩⟩
    subst aX
    replace H := HT H
    by_cases aU : ab > 0
    rotate_left
    ·rw [if_neg aU] at H
     have am : decide (0 < ab) = false := decide_eq_false aU
     clear aU
     (first | rw [am] | (simp only [i64_w, i32_w]; rw [am]) | skip)
     have H' := AM_ H
     clear H
     obtain ⟨aM, aN, aO, aP⟩ := bk2 ag.out
     go_wp2_with (first | (go_at_call 56; (with_reducible refine (impl_isKey.calls ((rd_T103 l0 ab).f0) true _ A8.out).mono ?_); rintro e w' ⟨rfl, ⟨nd, rfl⟩⟩; (try first | exact DW | exact DX)) | (go_at_call 130; (with_reducible refine (impl_isValue.calls ((rd_T103 l0 ab).f1) true _ aB.out).mono ?_); rintro e w' ⟨rfl, ⟨nd, rfl⟩⟩; (try first | exact DW | exact DX)))
     repeat (go_quiet (first | (go_at_call 56; (with_reducible refine (impl_isKey.calls ((rd_T103 l0 ab).f0) true _ A8.out).mono ?_); rintro e w' ⟨rfl, ⟨nd, rfl⟩⟩; (try first | exact DW | exact DX)) | (go_at_call 130; (with_reducible refine (impl_isValue.calls ((rd_T103 l0 ab).f1) true _ aB.out).mono ?_); rintro e w' ⟨rfl, ⟨nd, rfl⟩⟩; (try first | exact DW | exact DX))); try go_wp2_with (first | (go_at_call 56; (with_reducible refine (impl_isKey.calls ((rd_T103 l0 ab).f0) true _ A8.out).mono ?_); rintro e w' ⟨rfl, ⟨nd, rfl⟩⟩; (try first | exact DW | exact DX)) | (go_at_call 130; (with_reducible refine (impl_isValue.calls ((rd_T103 l0 ab).f1) true _ aB.out).mono ?_); rintro e w' ⟨rfl, ⟨nd, rfl⟩⟩; (try first | exact DW | exact DX))))
     go_meet
     case rel => exact ⟨_, (false), (by first | rfl | (simp; done) | (simp [*]; done)), H', ⟨by have := aV.out; first | omega | exact Nat.le_refl _⟩, ⟨BQ ag.out⟩, ⟨BT HB.out⟩⟩
    rw [if_pos aU] at H
    have am : decide (0 < ab) = true := DE aU
    clear aU
    (first | rw [am] | (simp only [i64_w, i32_w]; rw [am]) | skip)
    obtain ⟨ai, an⟩ : ∃ j_ : Int, (wrap64 (ab - 1)) = j_ := ⟨_, rfl⟩
    replace H : (if 0 ≤ (ai) then (if (ai) < (l0.length : Int) then (impl_areWrites.j1 k1 l0 ab l0 (l0.length : Int) (decide (((rd_T103 l0 (ai)).f0) ≥ ((rd_T103 l0 ab).f0)))) else (none)) else (none)) = some r := by first | (rw [an] at H; exact H) | (simp only [an] at H ⊢; exact H)
    (try rw [an] at A8)
    (try rw [an] at aB)
    have hji13w : (IntKind.i64.wrap (ab - 1)) = ai := (i64_w _).trans an
    replace H := HI H
    obtain ⟨bd, H⟩ := H
    have aY := DE bd
    clear bd
    replace H := HI H
    obtain ⟨be, H⟩ := H
    have aZ := DE be
    clear be
    have H' := AM_ H
    clear H
    obtain ⟨aQ, aR, aS, aT⟩ := bk2 ag.out
    go_wp2_with (first | (go_at_call 56; (with_reducible refine (impl_isKey.calls ((rd_T103 l0 ab).f0) true _ A8.out).mono ?_); rintro e w' ⟨rfl, ⟨nd, rfl⟩⟩; (try first | exact DW | exact DX)) | (go_at_call 130; (with_reducible refine (impl_isValue.calls ((rd_T103 l0 ab).f1) true _ aB.out).mono ?_); rintro e w' ⟨rfl, ⟨nd, rfl⟩⟩; (try first | exact DW | exact DX); have ak : 0 ≤ ((ai) : Int) := DT; have al : (ai) < (l0.length : Int) := DT; obtain ⟨aq, aA, aa, ac⟩ := at_T103 a4.out (ai) ak al; obtain rfl : ah = aq := (by injection aA); have ad : ah.block ≠ af := Nat.ne_of_lt (Nat.lt_of_lt_of_le (by have := World.block_lt_of_cell? _ _ aa; first | rwa [add_block] at this | exact this) aj.out); have ae : ah.block ≠ af := Nat.ne_of_lt (Nat.lt_of_lt_of_le (by have := World.block_lt_of_cell? _ _ aa; first | rwa [add_block] at this | exact this) aj.out); replace aa := BD HB.out aa; replace ac := BD HB.out ac; replace aa := (cell_far (p := ⟨af, 0, none⟩) (by first | (rw [add_block]; exact ad) | (show (Addr.add _ _).block ≠ _; rw [add_block]; exact ad) | exact ad) (.int .i64 ((rd_T103 l0 ab).f0))).trans aa; replace ac := (cell_far (p := ⟨af, 0, none⟩) (by first | (rw [add_block]; exact ad) | (show (Addr.add _ _).block ≠ _; rw [add_block]; exact ad) | exact ad) (.int .i64 ((rd_T103 l0 ab).f0))).trans ac; replace aa := (cell_far (p := ⟨af, 1, none⟩) (by first | (rw [add_block]; exact ae) | (show (Addr.add _ _).block ≠ _; rw [add_block]; exact ae) | exact ae) (.int .i64 ((rd_T103 l0 ab).f1))).trans aa; replace ac := (cell_far (p := ⟨af, 1, none⟩) (by first | (rw [add_block]; exact ae) | (show (Addr.add _ _).block ≠ _; rw [add_block]; exact ae) | exact ae) (.int .i64 ((rd_T103 l0 ab).f1))).trans ac; (try have ay := fun (n_ : Nat) => (show ((((w6.drewN n_).setCell ⟨af, 0, none⟩ (.int .i64 ((rd_T103 l0 ab).f0))).setCell ⟨af, 1, none⟩ (.int .i64 ((rd_T103 l0 ab).f1)))).cell? _ = some _ from aa)); (try have az := fun (n_ : Nat) => (show ((((w6.drewN n_).setCell ⟨af, 0, none⟩ (.int .i64 ((rd_T103 l0 ab).f0))).setCell ⟨af, 1, none⟩ (.int .i64 ((rd_T103 l0 ab).f1)))).cell? _ = some _ from ac)); clear ad; clear ae; replace ak := eq_true ak; replace al := eq_true al))
    repeat (go_quiet (first | (go_at_call 56; (with_reducible refine (impl_isKey.calls ((rd_T103 l0 ab).f0) true _ A8.out).mono ?_); rintro e w' ⟨rfl, ⟨nd, rfl⟩⟩; (try first | exact DW | exact DX)) | (go_at_call 130; (with_reducible refine (impl_isValue.calls ((rd_T103 l0 ab).f1) true _ aB.out).mono ?_); rintro e w' ⟨rfl, ⟨nd, rfl⟩⟩; (try first | exact DW | exact DX); have ak : 0 ≤ ((ai) : Int) := DT; have al : (ai) < (l0.length : Int) := DT; obtain ⟨aq, aA, aa, ac⟩ := at_T103 a4.out (ai) ak al; obtain rfl : ah = aq := (by injection aA); have ad : ah.block ≠ af := Nat.ne_of_lt (Nat.lt_of_lt_of_le (by have := World.block_lt_of_cell? _ _ aa; first | rwa [add_block] at this | exact this) aj.out); have ae : ah.block ≠ af := Nat.ne_of_lt (Nat.lt_of_lt_of_le (by have := World.block_lt_of_cell? _ _ aa; first | rwa [add_block] at this | exact this) aj.out); replace aa := BD HB.out aa; replace ac := BD HB.out ac; replace aa := (cell_far (p := ⟨af, 0, none⟩) (by first | (rw [add_block]; exact ad) | (show (Addr.add _ _).block ≠ _; rw [add_block]; exact ad) | exact ad) (.int .i64 ((rd_T103 l0 ab).f0))).trans aa; replace ac := (cell_far (p := ⟨af, 0, none⟩) (by first | (rw [add_block]; exact ad) | (show (Addr.add _ _).block ≠ _; rw [add_block]; exact ad) | exact ad) (.int .i64 ((rd_T103 l0 ab).f0))).trans ac; replace aa := (cell_far (p := ⟨af, 1, none⟩) (by first | (rw [add_block]; exact ae) | (show (Addr.add _ _).block ≠ _; rw [add_block]; exact ae) | exact ae) (.int .i64 ((rd_T103 l0 ab).f1))).trans aa; replace ac := (cell_far (p := ⟨af, 1, none⟩) (by first | (rw [add_block]; exact ae) | (show (Addr.add _ _).block ≠ _; rw [add_block]; exact ae) | exact ae) (.int .i64 ((rd_T103 l0 ab).f1))).trans ac; (try have ay := fun (n_ : Nat) => (show ((((w6.drewN n_).setCell ⟨af, 0, none⟩ (.int .i64 ((rd_T103 l0 ab).f0))).setCell ⟨af, 1, none⟩ (.int .i64 ((rd_T103 l0 ab).f1)))).cell? _ = some _ from aa)); (try have az := fun (n_ : Nat) => (show ((((w6.drewN n_).setCell ⟨af, 0, none⟩ (.int .i64 ((rd_T103 l0 ab).f0))).setCell ⟨af, 1, none⟩ (.int .i64 ((rd_T103 l0 ab).f1)))).cell? _ = some _ from ac)); clear ad; clear ae; replace ak := eq_true ak; replace al := eq_true al)); try go_wp2_with (first | (go_at_call 56; (with_reducible refine (impl_isKey.calls ((rd_T103 l0 ab).f0) true _ A8.out).mono ?_); rintro e w' ⟨rfl, ⟨nd, rfl⟩⟩; (try first | exact DW | exact DX)) | (go_at_call 130; (with_reducible refine (impl_isValue.calls ((rd_T103 l0 ab).f1) true _ aB.out).mono ?_); rintro e w' ⟨rfl, ⟨nd, rfl⟩⟩; (try first | exact DW | exact DX); have ak : 0 ≤ ((ai) : Int) := DT; have al : (ai) < (l0.length : Int) := DT; obtain ⟨aq, aA, aa, ac⟩ := at_T103 a4.out (ai) ak al; obtain rfl : ah = aq := (by injection aA); have ad : ah.block ≠ af := Nat.ne_of_lt (Nat.lt_of_lt_of_le (by have := World.block_lt_of_cell? _ _ aa; first | rwa [add_block] at this | exact this) aj.out); have ae : ah.block ≠ af := Nat.ne_of_lt (Nat.lt_of_lt_of_le (by have := World.block_lt_of_cell? _ _ aa; first | rwa [add_block] at this | exact this) aj.out); replace aa := BD HB.out aa; replace ac := BD HB.out ac; replace aa := (cell_far (p := ⟨af, 0, none⟩) (by first | (rw [add_block]; exact ad) | (show (Addr.add _ _).block ≠ _; rw [add_block]; exact ad) | exact ad) (.int .i64 ((rd_T103 l0 ab).f0))).trans aa; replace ac := (cell_far (p := ⟨af, 0, none⟩) (by first | (rw [add_block]; exact ad) | (show (Addr.add _ _).block ≠ _; rw [add_block]; exact ad) | exact ad) (.int .i64 ((rd_T103 l0 ab).f0))).trans ac; replace aa := (cell_far (p := ⟨af, 1, none⟩) (by first | (rw [add_block]; exact ae) | (show (Addr.add _ _).block ≠ _; rw [add_block]; exact ae) | exact ae) (.int .i64 ((rd_T103 l0 ab).f1))).trans aa; replace ac := (cell_far (p := ⟨af, 1, none⟩) (by first | (rw [add_block]; exact ae) | (show (Addr.add _ _).block ≠ _; rw [add_block]; exact ae) | exact ae) (.int .i64 ((rd_T103 l0 ab).f1))).trans ac; (try have ay := fun (n_ : Nat) => (show ((((w6.drewN n_).setCell ⟨af, 0, none⟩ (.int .i64 ((rd_T103 l0 ab).f0))).setCell ⟨af, 1, none⟩ (.int .i64 ((rd_T103 l0 ab).f1)))).cell? _ = some _ from aa)); (try have az := fun (n_ : Nat) => (show ((((w6.drewN n_).setCell ⟨af, 0, none⟩ (.int .i64 ((rd_T103 l0 ab).f0))).setCell ⟨af, 1, none⟩ (.int .i64 ((rd_T103 l0 ab).f1)))).cell? _ = some _ from ac)); clear ad; clear ae; replace ak := eq_true ak; replace al := eq_true al)))
    go_meet
    case rel => exact ⟨_, (decide (((rd_T103 l0 (ai)).f0) ≥ ((rd_T103 l0 ab).f0))), (by first | rfl | (simp; done) | (simp only [← an] <;> (first | rfl | simp)) | (simp [*]; done)), H', ⟨by have := aV.out; first | omega | exact Nat.le_refl _⟩, ⟨BQ ag.out⟩, ⟨BT HB.out⟩⟩
   case rest =>
    clear a8
    try clear c2
    try clear aW
    try clear c3
    try clear a6
    try clear c4
    try clear a7
    try clear c9
    try clear aX
    try clear aU
    try clear am
    try clear bd
    try clear aY
    try clear be
    try clear aZ
    try clear aQ aR
    try clear aM aN
    try clear aI aJ
    try clear aE aF
    try clear ar au
    try clear aS aT
    try clear aO aP
    try clear aK aL
    try clear aG aH
    try clear av aw
    try clear ao
    try clear ap
    try clear aa
    try clear ac
    try clear aC
    try clear ak
    try clear aD
    try clear al
    obtain ⟨kq, ax, rfl, HA, bi, ag, HB⟩ := hcut
    cases kq with
    | zero => exact absurd HA.out (by simp [impl_areWrites.j1])
    | succ kj4 =>
     have H := HA.out
     clear HA
     simp only [impl_areWrites.j1] at H
     by_cases a5 : ax = true
     ·subst a5
      replace H := HT H
      obtain rfl := SI H
      go_wp2
      repeat (go_quiet (fail); try go_wp2)
      go_ret
      exact QT (BT HB.out)
     replace a5 := Bool.eq_false_iff.mpr a5
     subst a5
     replace H := HF H
     have H' := AM_ H
     clear H
     go_wp2
     repeat (go_quiet (fail); try go_wp2)
     go_roundg kj4
     case measure => have := aV.out; have := bi.out; omega
     case rel => exact ⟨(wrap64 (ab + 1)), (by first | rfl | (simp; done) | (simp [*]; done)), H', ⟨by have := aV.out; have := bi.out; omega⟩, ⟨BT HB.out⟩⟩

end Go.Proofs.Ytdgknikgfjhohaa.PFnSchemes
