-- Printed by wip/myprint.py.
import Derived.Test.YtdgknikgfjhohaaPFnSchemesx18
import Derived.Test.YtdgknikgfjhohaaPFnSchemesx19
namespace Go.Proofs.Ytdgknikgfjhohaa.PFnSchemes
open Go.RowKit Go.Proofs.YtdgknikgfjhohaaW.PrintWords Go.Proofs.YtdgknikgfjhohaaW.PrintLast Go.Proofs.YtdgknikgfjhohaaW.PrintMore
set_option maxHeartbeats 8000000
set_option maxRecDepth 100000
set_option linter.unusedVariables false
set_option linter.unusedSimpArgs false

/-! ### spec_IsValidTransaction: function 31 -/
mutual
def spec_IsValidTransaction.l0 : Nat → Int → Int → Int → Int → Int → Int → Int → Int → List (S116) → List (S103) → Option (Bool)
 | 0, _, _, _, _, _, _, _, _, _, _ => none
 | k + 1, x3, af, ag, ac, ah, ai, aj, ae, aa, ab => if x3 < (aa.length : Int) then (if 0 ≤ x3 then ((spec_l1In.f ((rd_T116 aa x3).f0) 0 5).bind fun ak => (if ak = true then ((spec_l1In.f ((rd_T116 aa x3).f1) 0 999).bind fun al => (if al = true then (if x3 > 0 then (if 0 ≤ (wrap64 (x3 - 1)) then (if (wrap64 (x3 - 1)) < (aa.length : Int) then ((spec_l5Before.f ((rd_T116 aa (wrap64 (x3 - 1))).f0) ((rd_T116 aa (wrap64 (x3 - 1))).f1) ((rd_T116 aa x3).f0) ((rd_T116 aa x3).f1)).bind fun am => (spec_IsValidTransaction.j1 k x3 (!am) af ag ac ah ai aj ae aa ab)) else (none)) else (none)) else (spec_IsValidTransaction.j1 k x3 false af ag ac ah ai aj ae aa ab)) else (spec_IsValidTransaction.j1 k x3 true af ag ac ah ai aj ae aa ab))) else (spec_IsValidTransaction.j1 k x3 true af ag ac ah ai aj ae aa ab))) else (none)) else (spec_IsValidTransaction.l1 k 0 af ag ac ah ai aj ae aa ab)
def spec_IsValidTransaction.j1 : Nat → Int → Bool → Int → Int → Int → Int → Int → Int → Int → List (S116) → List (S103) → Option (Bool)
 | 0, _, _, _, _, _, _, _, _, _, _, _ => none
 | k + 1, x3, ay, af, ag, ac, ah, ai, aj, ae, aa, ab => if ay = true then (some false) else (spec_IsValidTransaction.l0 k (wrap64 (x3 + 1)) af ag ac ah ai aj ae aa ab)
def spec_IsValidTransaction.l1 : Nat → Int → Int → Int → Int → Int → Int → Int → Int → List (S116) → List (S103) → Option (Bool)
 | 0, _, _, _, _, _, _, _, _, _, _ => none
 | k + 1, x5, af, ag, ac, ah, ai, aj, ae, aa, ab => if x5 < (ab.length : Int) then (if 0 ≤ x5 then ((spec_l1In.f ((rd_T103 ab x5).f0) 0 5).bind fun an => (if an = true then ((spec_l1In.f ((rd_T103 ab x5).f1) (-1) 99).bind fun ao => (if ao = true then (if x5 > 0 then (if 0 ≤ (wrap64 (x5 - 1)) then (if (wrap64 (x5 - 1)) < (ab.length : Int) then (spec_IsValidTransaction.j3 k x5 (decide (((rd_T103 ab (wrap64 (x5 - 1))).f0) ≥ ((rd_T103 ab x5).f0))) af ag ac ah ai aj ae aa ab) else (none)) else (none)) else (spec_IsValidTransaction.j3 k x5 false af ag ac ah ai aj ae aa ab)) else (spec_IsValidTransaction.j3 k x5 true af ag ac ah ai aj ae aa ab))) else (spec_IsValidTransaction.j3 k x5 true af ag ac ah ai aj ae aa ab))) else (none)) else ((spec_l1In.f af 1 9).bind fun ap => (if ap = true then ((spec_l1In.f ag 1 4).bind fun aq => (if aq = true then ((spec_l1In.f ah 0 999).bind fun ar => (spec_IsValidTransaction.j4 k (!ar) af ag ac ah ai aj ae aa ab)) else (spec_IsValidTransaction.j4 k true af ag ac ah ai aj ae aa ab))) else (spec_IsValidTransaction.j4 k true af ag ac ah ai aj ae aa ab)))
def spec_IsValidTransaction.j3 : Nat → Int → Bool → Int → Int → Int → Int → Int → Int → Int → List (S116) → List (S103) → Option (Bool)
 | 0, _, _, _, _, _, _, _, _, _, _, _ => none
 | k + 1, x5, az, af, ag, ac, ah, ai, aj, ae, aa, ab => if az = true then (some false) else (spec_IsValidTransaction.l1 k (wrap64 (x5 + 1)) af ag ac ah ai aj ae aa ab)
def spec_IsValidTransaction.j4 : Nat → Bool → Int → Int → Int → Int → Int → Int → Int → List (S116) → List (S103) → Option (Bool)
 | 0, _, _, _, _, _, _, _, _, _, _ => none
 | k + 1, aA, af, ag, ac, ah, ai, aj, ae, aa, ab => if aA = true then (some false) else ((spec_l1In.f ac 1 3).bind fun au => (if au = true then ((spec_l1In.f ai 0 999).bind fun av => (if av = true then ((spec_l1In.f aj 1 1000).bind fun aw => (if aw = true then (if ((ac == 2) == (decide (ae > 0))) = true then ((spec_l1In.f ae 0 999).bind fun ax => (if ax = true then (some (decide ((aa.length : Int) ≤ 60))) else (some false))) else (some false)) else (some false))) else (some false))) else (some false)))
end
def spec_IsValidTransaction.f (k : Nat) (aa : Int) (ab : Int) (ac : Int) (ae : Int) (af : Int) (ag : Int) (ah : Int) (ai : List (S116)) (aj : List (S103)) : Option (Bool) := spec_IsValidTransaction.l0 k 0 aa ab ac ae af ag ah ai aj
theorem spec_IsValidTransaction.mono_l : ∀ k, (∀ y0 y1 y2 y3 y4 y5 y6 y7 y8 y9, LeO (spec_IsValidTransaction.l0 k y0 y1 y2 y3 y4 y5 y6 y7 y8 y9) (spec_IsValidTransaction.l0 (k + 1) y0 y1 y2 y3 y4 y5 y6 y7 y8 y9)) ∧ (∀ y0 y1 y2 y3 y4 y5 y6 y7 y8 y9 aa, LeO (spec_IsValidTransaction.j1 k y0 y1 y2 y3 y4 y5 y6 y7 y8 y9 aa) (spec_IsValidTransaction.j1 (k + 1) y0 y1 y2 y3 y4 y5 y6 y7 y8 y9 aa)) ∧ (∀ y0 y1 y2 y3 y4 y5 y6 y7 y8 y9, LeO (spec_IsValidTransaction.l1 k y0 y1 y2 y3 y4 y5 y6 y7 y8 y9) (spec_IsValidTransaction.l1 (k + 1) y0 y1 y2 y3 y4 y5 y6 y7 y8 y9)) ∧ (∀ y0 y1 y2 y3 y4 y5 y6 y7 y8 y9 aa, LeO (spec_IsValidTransaction.j3 k y0 y1 y2 y3 y4 y5 y6 y7 y8 y9 aa) (spec_IsValidTransaction.j3 (k + 1) y0 y1 y2 y3 y4 y5 y6 y7 y8 y9 aa)) ∧ (∀ y0 y1 y2 y3 y4 y5 y6 y7 y8 y9, LeO (spec_IsValidTransaction.j4 k y0 y1 y2 y3 y4 y5 y6 y7 y8 y9) (spec_IsValidTransaction.j4 (k + 1) y0 y1 y2 y3 y4 y5 y6 y7 y8 y9))
 | 0 => ⟨fun _ _ _ _ _ _ _ _ _ _ r h => by simp [spec_IsValidTransaction.l0] at h, fun _ _ _ _ _ _ _ _ _ _ _ r h => by simp [spec_IsValidTransaction.j1] at h, fun _ _ _ _ _ _ _ _ _ _ r h => by simp [spec_IsValidTransaction.l1] at h, fun _ _ _ _ _ _ _ _ _ _ _ r h => by simp [spec_IsValidTransaction.j3] at h, fun _ _ _ _ _ _ _ _ _ _ r h => by simp [spec_IsValidTransaction.j4] at h⟩
 | k + 1 => by
  obtain ⟨ab, ac, ae, af, ag⟩ := spec_IsValidTransaction.mono_l k
  refine ⟨?_, ?_, ?_, ?_, ?_⟩
  all_goals intros; first | unfold spec_IsValidTransaction.l0 | unfold spec_IsValidTransaction.j1 | unfold spec_IsValidTransaction.l1 | unfold spec_IsValidTransaction.j3 | unfold spec_IsValidTransaction.j4
  all_goals repeat' (with_reducible first | exact ab .. | exact ac .. | exact ae .. | exact af .. | exact ag .. | exact LeO.refl _ | exact LeO.none _ | refine LeO.ite ?_ ?_ | refine LeO.bind ?_ (fun _ => ?_))
theorem spec_IsValidTransaction.mono : ∀ a0 a1 a2 a3 a4 a5 a6 a7 a8 k, LeO (spec_IsValidTransaction.f k a0 a1 a2 a3 a4 a5 a6 a7 a8) (spec_IsValidTransaction.f (k + 1) a0 a1 a2 a3 a4 a5 a6 a7 a8) := by
 intro a0 a1 a2 a3 a4 a5 a6 a7 a8 k
 obtain ⟨aa, ab, ac, ae, af⟩ := spec_IsValidTransaction.mono_l k
 unfold spec_IsValidTransaction.f
 repeat' (with_reducible first | exact aa .. | exact ab .. | exact ac .. | exact ae .. | exact af .. | exact LeO.refl _ | exact LeO.none _ | refine LeO.ite ?_ ?_ | refine LeO.bind ?_ (fun _ => ?_))
def spec_IsValidTransaction.T5 : Bool × List (List Nat × List Nat) := (true, [([], []), ([0], [0]), ([1], [1]), ([2], [2]), ([3, 2], [3]), ([4], [4]), ([5, 4], [4, 5]), ([6, 4, 4], [4, 6]), ([7, 4], [4, 7]), ([4, 8], [4, 8]), ([9, 7], [9]), ([10], [10]), ([11, 10], [10, 11]), ([12, 10, 10], [10, 12]), ([13], [13]), ([14, 13], [13, 14]), ([13], [13]), ([16, 13], [13, 16]), ([15, 17, 13], [13, 15, 17]), ([18, 13], [13, 18]), ([13], [13]), ([19, 20, 13, 13], [13, 19, 20]), ([21, 13], [13, 21]), ([13, 22, 10], [10, 13, 22]), ([10, 23], [10, 23])])
def spec_IsValidTransaction.B5 : List Nat := [0, 1, 3, 7, 15, 31, 63, 127, 255, 511, 1023, 2047, 4095, 8191, 16383, 32767, 16383, 81919, 262143, 524287, 16383, 2097151, 4194303, 8388607, 16777215]
theorem spec_IsValidTransaction.tab5 : rtab .any (opsOf Try.f31 5) = spec_IsValidTransaction.T5 := by kernel_rfl
theorem spec_IsValidTransaction.bits5 : waitsOk spec_IsValidTransaction.T5.2 spec_IsValidTransaction.B5 = true := by kernel_rfl
def spec_IsValidTransaction.T11 : Bool × List (List Nat × List Nat) := (true, [([], []), ([0], [0]), ([1], [1]), ([2], [2]), ([3, 2], [3]), ([4], [4]), ([5, 4], [4, 5]), ([6, 4, 4], [4, 6]), ([7, 4], [4, 7]), ([4, 8], [4, 8]), ([9, 7], [9]), ([10], [10]), ([11, 10], [10, 11]), ([12, 10, 10], [10, 12]), ([13], [13]), ([14, 13], [13, 14]), ([13], [13]), ([16, 13], [13, 16]), ([15, 17, 13], [13, 15, 17]), ([18, 13], [13, 18]), ([19, 13], [13, 19]), ([13], [13]), ([21, 13], [13, 21]), ([20, 22, 13], [13, 20, 22]), ([13, 23, 10], [10, 13, 23]), ([10, 24], [10, 24])])
def spec_IsValidTransaction.B11 : List Nat := [0, 1, 3, 7, 15, 31, 63, 127, 255, 511, 1023, 2047, 4095, 8191, 16383, 32767, 16383, 81919, 262143, 524287, 1048575, 16383, 2113535, 8388607, 16777215, 33554431]
theorem spec_IsValidTransaction.tab11 : rtab .any (opsOf Try.f31 11) = spec_IsValidTransaction.T11 := by kernel_rfl
theorem spec_IsValidTransaction.bits11 : waitsOk spec_IsValidTransaction.T11.2 spec_IsValidTransaction.B11 = true := by kernel_rfl
theorem spec_IsValidTransaction.calls (k : Nat) (ap : Int) (au : Int) (ak : Int) (av : Int) (aq : Int) (ar : Int) (am : Int) (aG : Option Addr) (az : Nat) (ab : List (S116)) (aH : Option Addr) (aA : Nat) (af : List (S103)) (r : Bool) (w : World) (cT : Kd.C k116 w aG ab.length ab) (cU : ab.length ≤ az) (cV : Kd.C k103 w aH af.length af) (cW : af.length ≤ aA) (h : spec_IsValidTransaction.f k ap au ak av aq ar am ab af = some r) :
  Calls Try.prog 31 #[.agg #[.int .i64 ap, .int .i64 au, .int .i64 ak, .int .i64 av, .int .i64 aq, .int .i64 ar, .int .i64 am, .slice aG ab.length az, .slice aH af.length aA]] w fun e w' => e = .returned (.bool r) ∧ Below w.heap.size w w' := by
 have ha := Try.underlying48
 have gS := Try.underlying116
 have gT := Try.underlying103
 have cX := AM_ cT
 have gU := AM_ cU
 clear cT cU
 have cY := AM_ cV
 have gV := AM_ cW
 clear cV cW
 have HB := AM_ (Below.refl w.heap.size w)
 unfold spec_IsValidTransaction.f at h
 have H := h
 clear h
 have H' := AM_ H
 clear H
 go_enter Try.func31, Try.ntmps31
 go_wp2_with (first | ((with_reducible refine G2 1 rfl ?_); (try (refine gate_guard (by rfl) ?_; dsimp only)); refine BY 1 #[.int .i64 ap, .int .i64 au, .int .i64 ak, .int .i64 av, .int .i64 aq, .int .i64 ar, .int .i64 am, .slice aG ab.length az, .slice aH af.length aA] 48 HB ?_; clear HB; intro aj w2 aa gW HB))
 go_loopg [3] k (fun kq v3 w' => ∃ (ah : Int), v3 = .int .i64 ah ∧ Aside0 (spec_IsValidTransaction.l0 kq ah ap au ak av aq ar am ab af = some r) ∧ Aside0 (kq ≤ k) ∧ Aside0 (w'.heap[aj]? = some (.cells #[.int .i64 ap, .int .i64 au, .int .i64 ak, .int .i64 av, .int .i64 aq, .int .i64 ar, .int .i64 am, (.slice aG ab.length az), (.slice aH af.length aA)] 48 (0, 0))) ∧ Aside0 (Below w.heap.size w w'))
 case atStart => exact ⟨(0), (by first | rfl | (simp; done) | (simp [*]; done)), H', ⟨Nat.le_refl _⟩, ⟨BH aa.out⟩, ⟨BT HB.out⟩⟩
 case round =>
  clear H'
  obtain ⟨ah, rfl, HA, aZ, aa, HB⟩ := hrel
  cases gk with
  | zero => exact absurd HA.out (by simp [spec_IsValidTransaction.l0])
  | succ k1 =>
   have H := HA.out
   clear HA
   simp only [spec_IsValidTransaction.l0] at H
   by_cases c3 : ah < (ab.length : Int)
   ·rw [if_pos c3] at H
    have dq := DE c3
    clear c3
    replace H := HI H
    obtain ⟨c4, H⟩ := H
    have hc := DE c4
    clear c4
    have gc := AM_ H
    clear H
    obtain ⟨ge, gf, gg, gh, gi, gj, gl, gm, gn, go, gp, gq, gr, gs, gt, gu, gv, gw⟩ := bk9 aa.out
    have da : 0 ≤ (ah : Int) := DT
    have db : ah < (ab.length : Int) := DT
    obtain ⟨aC, gx, ba, bb⟩ := at_T116 cX.out ah da db
    cases gx
    replace ba := BC HB.out ba
    replace bb := BC HB.out bb
    replace da := ET da
    replace db := ET db
    go_upto_region 5 with (first | ((with_reducible refine G2 4 rfl ?_); (try (refine gate_guard (by rfl) ?_; dsimp only)); refine BZ 4 #[.int .i64 0, .int .i64 0] 116 HB ?_; clear HB; intro an w7 hg hb ac gX HB; have aw := NP aa hg; have bg := NQ aa hg; replace aa := BV aa hb; clear hb hg; have hd := bg.out; have he := aw.out; obtain ⟨gy, gz, gA, gB⟩ := bk2 ac.out))
    (try simp only [pA, pS, pZ, pK])
    go_cut [43] (fun hf wc => ∃ (kq : Nat) (bd : Bool), hf = .bool bd ∧ Aside0 (spec_IsValidTransaction.j1 kq ah bd ap au ak av aq ar am ab af = some r) ∧ Aside0 (kq ≤ k1) ∧ Aside0 (wc.heap[aj]? = some (.cells #[.int .i64 ap, .int .i64 au, .int .i64 ak, .int .i64 av, .int .i64 aq, .int .i64 ar, .int .i64 am, (.slice (some aC) ab.length az), (.slice aH af.length aA)] 48 (0, 0))) ∧ Aside0 (wc.heap[an]? = some (.cells #[.int .i64 ((rd_T116 ab ah).f0), .int .i64 ((rd_T116 ab ah).f1)] 116 (0, 0))) ∧ Aside0 (Below w.heap.size w wc))
    case first =>
     have H := gc.out
     clear gc
     obtain ⟨gC, dr, H⟩ := OB H
     by_cases dm : gC = true
     rotate_left
     ·replace dm := Bool.eq_false_iff.mpr dm
      subst dm
      replace H := HF H
      have H' := AM_ H
      clear H
      try go_wp2
      generalize ay : (w7.setCell ⟨an, 0, none⟩ (.int .i64 ((rd_T116 ab ah).f0))).setCell ⟨an, 1, none⟩ (.int .i64 ((rd_T116 ab ah).f1)) = dF
      have aO : Aside0 (dF.heap[aj]? = some (.cells #[.int .i64 ap, .int .i64 au, .int .i64 ak, .int .i64 av, .int .i64 aq, .int .i64 ar, .int .i64 am, .slice (some aC) ab.length az, .slice aH af.length aA] 48 (0, 0))) := by subst ay; exact ⟨BG aa.out aw.out⟩
      have aP : Aside0 (dF.heap[an]? = some (.cells #[.int .i64 ((rd_T116 ab ah).f0), .int .i64 ((rd_T116 ab ah).f1)] 116 (0, 0))) := by subst ay; exact ⟨BQ ac.out⟩
      have aQ : Aside0 (Below w.heap.size w dF) := by subst ay; exact ⟨BT HB.out⟩
      (try clear aa)
      (try clear ac)
      (try clear HB)
      clear ay
      have aa := aO
      have ac := aP
      have HB := aQ
      clear aO aP aQ
      replace aa := BD1 aa
      replace ac := BD1 ac
      replace HB := BD2 HB
      refine start_ (n := 25) (S := fun w' => w'.cell? ⟨an, 0, none⟩ = some (.int .i64 ((rd_T116 ab ah).f0)) ∧ w'.cell? ⟨an, 1, none⟩ = some (.int .i64 ((rd_T116 ab ah).f1))) (ds := []) (lo 0 25) (by kernel_rfl) rfl rfl ⟨bc ac.out 0, bc ac.out 1⟩ (fun ag => ?_); refine with_tabW spec_IsValidTransaction.tab5 spec_IsValidTransaction.bits5 (fun al aF => ?_)
      generalize dF.drew = ho at aa ac HB ag ⊢
      iterate 2 first | refine PS al ?_ | refine TS al aF ag ?_
      refine OS al (fun K hK => ?_)
      refine GO Try.func29 #[.int .i64 ((rd_T116 ab ah).f0), .int .i64 0, .int .i64 5] ?_
      with_reducible refine MQ (spec_l1In.calls ((rd_T116 ab ah).f0) 0 5 false _ dr.out) ?_
      intro nd
      refine hK.out _ _ ⟨bc ac.out 0, bc ac.out 1⟩ (fun ag => ?_)
      clear hK K
      refine NM 21 ?_
      iterate 22 first | refine PS al ?_ | refine PT al ?_
      refine done_ (done_of al.out (by kernel_rfl)) ?_
      try go_wp2
      go_meet
      case rel => exact ⟨_, (true), (by first | rfl | (simp; done) | (simp [*]; done)), H', ⟨by have := aZ.out; first | omega | exact Nat.le_refl _⟩, ⟨BH aa.out⟩, ⟨BH ac.out⟩, ⟨BT HB.out⟩⟩
     subst dm
     replace H := HT H
     obtain ⟨gD, dG, H⟩ := OB H
     by_cases dn : gD = true
     rotate_left
     ·replace dn := Bool.eq_false_iff.mpr dn
      subst dn
      replace H := HF H
      have H' := AM_ H
      clear H
      try go_wp2
      generalize ay : (w7.setCell ⟨an, 0, none⟩ (.int .i64 ((rd_T116 ab ah).f0))).setCell ⟨an, 1, none⟩ (.int .i64 ((rd_T116 ab ah).f1)) = dH
      have aO : Aside0 (dH.heap[aj]? = some (.cells #[.int .i64 ap, .int .i64 au, .int .i64 ak, .int .i64 av, .int .i64 aq, .int .i64 ar, .int .i64 am, .slice (some aC) ab.length az, .slice aH af.length aA] 48 (0, 0))) := by subst ay; exact ⟨BG aa.out aw.out⟩
      have aP : Aside0 (dH.heap[an]? = some (.cells #[.int .i64 ((rd_T116 ab ah).f0), .int .i64 ((rd_T116 ab ah).f1)] 116 (0, 0))) := by subst ay; exact ⟨BQ ac.out⟩
      have aQ : Aside0 (Below w.heap.size w dH) := by subst ay; exact ⟨BT HB.out⟩
      (try clear aa)
      (try clear ac)
      (try clear HB)
      clear ay
      have aa := aO
      have ac := aP
      have HB := aQ
      clear aO aP aQ
      replace aa := BD1 aa
      replace ac := BD1 ac
      replace HB := BD2 HB
      refine start_ (n := 25) (S := fun w' => w'.cell? ⟨an, 0, none⟩ = some (.int .i64 ((rd_T116 ab ah).f0)) ∧ w'.cell? ⟨an, 1, none⟩ = some (.int .i64 ((rd_T116 ab ah).f1))) (ds := []) (lo 0 25) (by kernel_rfl) rfl rfl ⟨bc ac.out 0, bc ac.out 1⟩ (fun ag => ?_); refine with_tabW spec_IsValidTransaction.tab5 spec_IsValidTransaction.bits5 (fun al aF => ?_)
      generalize dH.drew = hp at aa ac HB ag ⊢
      iterate 2 first | refine PS al ?_ | refine TS al aF ag ?_
      refine OS al (fun K hK => ?_)
      refine GO Try.func29 #[.int .i64 ((rd_T116 ab ah).f0), .int .i64 0, .int .i64 5] ?_
      with_reducible refine MQ (spec_l1In.calls ((rd_T116 ab ah).f0) 0 5 true _ dr.out) ?_
      intro nd
      refine hK.out _ _ ⟨bc ac.out 0, bc ac.out 1⟩ (fun ag => ?_)
      clear hK K
      refine NM 21 ?_
      iterate 4 first | refine PS al ?_ | refine TS al aF ag ?_
      refine OS al (fun K hK => ?_)
      refine GO Try.func29 #[.int .i64 ((rd_T116 ab ah).f1), .int .i64 0, .int .i64 999] ?_
      with_reducible refine MQ (spec_l1In.calls ((rd_T116 ab ah).f1) 0 999 false _ dG.out) ?_
      intro nd
      refine hK.out _ _ ⟨bc ac.out 0, bc ac.out 1⟩ (fun ag => ?_)
      clear hK K
      refine NM 26 ?_
      iterate 17 first | refine PS al ?_ | refine PT al ?_
      refine done_ (done_of al.out (by kernel_rfl)) ?_
      try go_wp2
      go_meet
      case rel => exact ⟨_, (true), (by first | rfl | (simp; done) | (simp [*]; done)), H', ⟨by have := aZ.out; first | omega | exact Nat.le_refl _⟩, ⟨BH aa.out⟩, ⟨BH ac.out⟩, ⟨BT HB.out⟩⟩
     subst dn
     replace H := HT H
     by_cases cZ : ah > 0
     rotate_left
     ·rw [if_neg cZ] at H
      have aR : decide (0 < ah) = false := decide_eq_false cZ
      clear cZ
      (first | rw [aR] | (simp only [i64_w, i32_w]; rw [aR]) | skip)
      have H' := AM_ H
      clear H
      try go_wp2
      generalize ay : (w7.setCell ⟨an, 0, none⟩ (.int .i64 ((rd_T116 ab ah).f0))).setCell ⟨an, 1, none⟩ (.int .i64 ((rd_T116 ab ah).f1)) = dI
      have aO : Aside0 (dI.heap[aj]? = some (.cells #[.int .i64 ap, .int .i64 au, .int .i64 ak, .int .i64 av, .int .i64 aq, .int .i64 ar, .int .i64 am, .slice (some aC) ab.length az, .slice aH af.length aA] 48 (0, 0))) := by subst ay; exact ⟨BG aa.out aw.out⟩
      have aP : Aside0 (dI.heap[an]? = some (.cells #[.int .i64 ((rd_T116 ab ah).f0), .int .i64 ((rd_T116 ab ah).f1)] 116 (0, 0))) := by subst ay; exact ⟨BQ ac.out⟩
      have aQ : Aside0 (Below w.heap.size w dI) := by subst ay; exact ⟨BT HB.out⟩
      (try clear aa)
      (try clear ac)
      (try clear HB)
      clear ay
      have aa := aO
      have ac := aP
      have HB := aQ
      clear aO aP aQ
      replace aa := BD1 aa
      replace ac := BD1 ac
      replace HB := BD2 HB
      refine start_ (n := 25) (S := fun w' => w'.cell? ⟨an, 0, none⟩ = some (.int .i64 ((rd_T116 ab ah).f0)) ∧ w'.cell? ⟨an, 1, none⟩ = some (.int .i64 ((rd_T116 ab ah).f1))) (ds := []) (lo 0 25) (by kernel_rfl) rfl rfl ⟨bc ac.out 0, bc ac.out 1⟩ (fun ag => ?_); refine with_tabW spec_IsValidTransaction.tab5 spec_IsValidTransaction.bits5 (fun al aF => ?_)
      generalize dI.drew = hq at aa ac HB ag ⊢
      iterate 2 first | refine PS al ?_ | refine TS al aF ag ?_
      refine OS al (fun K hK => ?_)
      refine GO Try.func29 #[.int .i64 ((rd_T116 ab ah).f0), .int .i64 0, .int .i64 5] ?_
      with_reducible refine MQ (spec_l1In.calls ((rd_T116 ab ah).f0) 0 5 true _ dr.out) ?_
      intro nd
      refine hK.out _ _ ⟨bc ac.out 0, bc ac.out 1⟩ (fun ag => ?_)
      clear hK K
      refine NM 21 ?_
      iterate 4 first | refine PS al ?_ | refine TS al aF ag ?_
      refine OS al (fun K hK => ?_)
      refine GO Try.func29 #[.int .i64 ((rd_T116 ab ah).f1), .int .i64 0, .int .i64 999] ?_
      with_reducible refine MQ (spec_l1In.calls ((rd_T116 ab ah).f1) 0 999 true _ dG.out) ?_
      intro nd
      refine hK.out _ _ ⟨bc ac.out 0, bc ac.out 1⟩ (fun ag => ?_)
      clear hK K
      refine NM 26 ?_
      iterate 17 first | refine PS al ?_ | refine PT al ?_
      refine done_ (done_of al.out (by kernel_rfl)) ?_
      try go_wp2
      go_meet
      case rel => exact ⟨_, (false), (by first | rfl | (simp; done) | (simp [*]; done)), H', ⟨by have := aZ.out; first | omega | exact Nat.le_refl _⟩, ⟨BH aa.out⟩, ⟨BH ac.out⟩, ⟨BT HB.out⟩⟩
     rw [if_pos cZ] at H
     have aR : decide (0 < ah) = true := DE cZ
     clear cZ
     (first | rw [aR] | (simp only [i64_w, i32_w]; rw [aR]) | skip)
     obtain ⟨aB, aS⟩ : ∃ j_ : Int, (wrap64 (ah - 1)) = j_ := ⟨_, rfl⟩
     replace H : (if 0 ≤ (aB) then (if (aB) < (ab.length : Int) then ((spec_l5Before.f ((rd_T116 ab (aB)).f0) ((rd_T116 ab (aB)).f1) ((rd_T116 ab ah).f0) ((rd_T116 ab ah).f1)).bind fun bj => (spec_IsValidTransaction.j1 k1 ah (!bj) ap au ak av aq ar am ab af)) else (none)) else (none)) = some r := by first | (rw [aS] at H; exact H) | (simp only [aS] at H ⊢; exact H)
     (try rw [aS] at dr)
     (try rw [aS] at dG)
     have hji15w : (IntKind.i64.wrap (ah - 1)) = aB := (i64_w _).trans aS
     replace H := HI H
     obtain ⟨dJ, H⟩ := H
     have gY := DE dJ
     clear dJ
     replace H := HI H
     obtain ⟨dK, H⟩ := H
     have gZ := DE dK
     clear dK
     obtain ⟨bj, hh, H⟩ := OB H
     have H' := AM_ H
     clear H
     try go_wp2
     generalize ay : (w7.setCell ⟨an, 0, none⟩ (.int .i64 ((rd_T116 ab ah).f0))).setCell ⟨an, 1, none⟩ (.int .i64 ((rd_T116 ab ah).f1)) = dL
     have aO : Aside0 (dL.heap[aj]? = some (.cells #[.int .i64 ap, .int .i64 au, .int .i64 ak, .int .i64 av, .int .i64 aq, .int .i64 ar, .int .i64 am, .slice (some aC) ab.length az, .slice aH af.length aA] 48 (0, 0))) := by subst ay; exact ⟨BG aa.out aw.out⟩
     have aP : Aside0 (dL.heap[an]? = some (.cells #[.int .i64 ((rd_T116 ab ah).f0), .int .i64 ((rd_T116 ab ah).f1)] 116 (0, 0))) := by subst ay; exact ⟨BQ ac.out⟩
     have aQ : Aside0 (Below w.heap.size w dL) := by subst ay; exact ⟨BT HB.out⟩
     (try clear aa)
     (try clear ac)
     (try clear HB)
     clear ay
     have aa := aO
     have ac := aP
     have HB := aQ
     clear aO aP aQ
     replace aa := BD1 aa
     replace ac := BD1 ac
     replace HB := BD2 HB
     have dc : 0 ≤ ((aB) : Int) := DT
     have dd : (aB) < (ab.length : Int) := DT
     obtain ⟨dt, gE, aI, aJ⟩ := at_T116 cX.out (aB) dc dd
     have aK := aJ
     have aL := aI
     obtain rfl : aC = dt := (by injection gE)
     replace aI := BC HB.out aI
     replace aJ := BC HB.out aJ
     replace dc := ET dc
     replace dd := ET dd
     refine start_ (n := 25) (S := fun w' => w'.cell? ⟨an, 0, none⟩ = some (.int .i64 ((rd_T116 ab ah).f0)) ∧ w'.cell? ⟨an, 1, none⟩ = some (.int .i64 ((rd_T116 ab ah).f1)) ∧ w'.cell? ⟨aj, 0, none⟩ = some (.int .i64 ap) ∧ w'.cell? ⟨aj, 1, none⟩ = some (.int .i64 au) ∧ w'.cell? ⟨aj, 2, none⟩ = some (.int .i64 ak) ∧ w'.cell? ⟨aj, 3, none⟩ = some (.int .i64 av) ∧ w'.cell? ⟨aj, 4, none⟩ = some (.int .i64 aq) ∧ w'.cell? ⟨aj, 5, none⟩ = some (.int .i64 ar) ∧ w'.cell? ⟨aj, 6, none⟩ = some (.int .i64 am) ∧ w'.cell? ⟨aj, 7, none⟩ = some (.slice (some aC) ab.length az) ∧ w'.cell? ⟨aj, 8, none⟩ = some (.slice aH af.length aA) ∧ w'.cell? (aC.add (((aB)).toNat * 2)) = some (.int .i64 ((rd_T116 ab (aB)).f0)) ∧ w'.cell? ⟨(aC.add (((aB)).toNat * 2)).block, (aC.add (((aB)).toNat * 2)).off + 1, none⟩ = some (.int .i64 ((rd_T116 ab (aB)).f1))) (ds := []) (lo 0 25) (by kernel_rfl) rfl rfl ⟨bc ac.out 0, bc ac.out 1, bc aa.out 0, bc aa.out 1, bc aa.out 2, bc aa.out 3, bc aa.out 4, bc aa.out 5, bc aa.out 6, bc aa.out 7, bc aa.out 8, (BD HB.out aL), (BD HB.out aK)⟩ (fun ag => ?_); refine with_tabW spec_IsValidTransaction.tab5 spec_IsValidTransaction.bits5 (fun al aF => ?_)
     generalize dL.drew = hr at aa ac HB aI aJ ag ⊢
     iterate 2 first | refine PS al ?_ | refine TS al aF ag ?_
     refine OS al (fun K hK => ?_)
     refine GO Try.func29 #[.int .i64 ((rd_T116 ab ah).f0), .int .i64 0, .int .i64 5] ?_
     with_reducible refine MQ (spec_l1In.calls ((rd_T116 ab ah).f0) 0 5 true _ dr.out) ?_
     intro nd
     refine hK.out _ _ ⟨bc ac.out 0, bc ac.out 1, bc aa.out 0, bc aa.out 1, bc aa.out 2, bc aa.out 3, bc aa.out 4, bc aa.out 5, bc aa.out 6, bc aa.out 7, bc aa.out 8, (BD HB.out aL), (BD HB.out aK)⟩ (fun ag => ?_)
     clear hK K
     refine NM 21 ?_
     iterate 4 first | refine PS al ?_ | refine TS al aF ag ?_
     refine OS al (fun K hK => ?_)
     refine GO Try.func29 #[.int .i64 ((rd_T116 ab ah).f1), .int .i64 0, .int .i64 999] ?_
     with_reducible refine MQ (spec_l1In.calls ((rd_T116 ab ah).f1) 0 999 true _ dG.out) ?_
     intro nd
     refine hK.out _ _ ⟨bc ac.out 0, bc ac.out 1, bc aa.out 0, bc aa.out 1, bc aa.out 2, bc aa.out 3, bc aa.out 4, bc aa.out 5, bc aa.out 6, bc aa.out 7, bc aa.out 8, (BD HB.out aL), (BD HB.out aK)⟩ (fun ag => ?_)
     clear hK K
     refine NM 26 ?_
     iterate 7 refine PS al ?_
     refine PV 16 (some 35) (bs 98303 25) al ?_
     refine PV 17 (some 36) (bs 229375 25) al ?_
     refine TX 15 (some 34) (lo 18 25) al aF ag ?_
     iterate 3 first | refine PS al ?_ | refine TS al aF ag ?_
     refine OS al (fun K hK => ?_)
     refine goes_ Try.func67 (by kernel_rfl) rfl #[.agg #[.int .i64 ((rd_T116 ab (aB)).f0), .int .i64 ((rd_T116 ab (aB)).f1)], .agg #[.int .i64 ((rd_T116 ab ah).f0), .int .i64 ((rd_T116 ab ah).f1)]] (by rfl) rfl rfl (by (try simp only [List.map_toArray, List.map_cons, List.map_nil]); first | done | (simp only [aS]; rfl) | rfl | (simp only [List.length_drop, List.length_take]; rfl)) ?_
     with_reducible refine (spec_l5Before.calls ((rd_T116 ab (aB)).f0) ((rd_T116 ab (aB)).f1) ((rd_T116 ab ah).f0) ((rd_T116 ab ah).f1) bj _ hh.out).mono ?_
     rintro e hs ⟨rfl, hb⟩
     refine ⟨_, rfl, ?_⟩
     replace aa := BV aa hb
     replace ac := BV ac hb
     replace HB := BW HB hb
     (try clear hb)
     refine hK.out _ _ ⟨bc ac.out 0, bc ac.out 1, bc aa.out 0, bc aa.out 1, bc aa.out 2, bc aa.out 3, bc aa.out 4, bc aa.out 5, bc aa.out 6, bc aa.out 7, bc aa.out 8, (BD HB.out aL), (BD HB.out aK)⟩ (fun ag => ?_)
     clear hK K
     refine NM 40 ?_
     iterate 3 refine PS al ?_
     refine done_ (done_of al.out (by kernel_rfl)) ?_
     try go_wp2
     go_meet
     case rel => exact ⟨_, (!bj), (by first | rfl | (simp; done) | (simp [*]; done)), H', ⟨by have := aZ.out; first | omega | exact Nat.le_refl _⟩, ⟨BH aa.out⟩, ⟨BH ac.out⟩, ⟨BT HB.out⟩⟩
    case rest =>
     clear gc
     try clear dm
     try clear dn
     try clear cZ
     try clear aR
     try clear dJ
     try clear dK
     obtain ⟨kq, bd, rfl, HA, g0, aa, ac, HB⟩ := hcut
     cases kq with
     | zero => exact absurd HA.out (by simp [spec_IsValidTransaction.j1])
     | succ kj4 =>
      have H := HA.out
      clear HA
      simp only [spec_IsValidTransaction.j1] at H
      by_cases du : bd = true
      ·subst du
       replace H := HT H
       obtain rfl := SI H
       go_wp2
       go_ret
       exact QT (BT HB.out)
      replace du := Bool.eq_false_iff.mpr du
      subst du
      replace H := HF H
      have H' := AM_ H
      clear H
      go_wp2
      go_roundg kj4
      case measure => have := aZ.out; have := g0.out; omega
      case rel => exact ⟨(wrap64 (ah + 1)), (by first | rfl | (simp; done) | (simp [*]; done)), H', ⟨by have := aZ.out; have := g0.out; omega⟩, ⟨BH aa.out⟩, ⟨BT HB.out⟩⟩
   rw [if_neg c3] at H
   have dq := decide_eq_false c3
   clear c3
   have H' := AM_ H
   clear H
   obtain ⟨bk, bm, bn, bo, bp, bq, br, bu, bv, bw, bx, bz, bA, bB, bC, bD, bE, bF⟩ := bk9 aa.out
   go_wp2
   go_loopg [5] k1 (fun kq v5 w' => ∃ (ai : Int), v5 = .int .i64 ai ∧ Aside0 (spec_IsValidTransaction.l1 kq ai ap au ak av aq ar am ab af = some r) ∧ Aside0 (kq ≤ k1) ∧ Aside0 (w'.heap[aj]? = some (.cells #[.int .i64 ap, .int .i64 au, .int .i64 ak, .int .i64 av, .int .i64 aq, .int .i64 ar, .int .i64 am, (.slice aG ab.length az), (.slice aH af.length aA)] 48 (0, 0))) ∧ Aside0 (Below w.heap.size w w'))
   case atStart => exact ⟨(0), (by first | rfl | (simp; done) | (simp [*]; done)), H', ⟨Nat.le_refl _⟩, ⟨BH aa.out⟩, ⟨BT HB.out⟩⟩
   case round =>
    clear H'
    try clear c3
    try clear dq
    try clear c4
    try clear dm
    try clear dn
    try clear cZ
    try clear aR
    try clear dJ
    try clear dK
    try clear du
    try clear bk bm bn bo bp bq br bu bv bw bx bz bA bB bC bD bE bF
    obtain ⟨ai, rfl, HA, bG, aa, HB⟩ := hrel
    cases gk with
    | zero => exact absurd HA.out (by simp [spec_IsValidTransaction.l1])
    | succ k2 =>
     have H := HA.out
     clear HA
     simp only [spec_IsValidTransaction.l1] at H
     by_cases de : ai < (af.length : Int)
     rotate_left
     ·rw [if_neg de] at H
      have c2 := decide_eq_false de
      clear de
      have df := AM_ H
      clear H
      obtain ⟨bH, bI, bJ, bK, bL, bM, bN, bO, bP, bQ, bR, bS, bT, bU, bV, bW, bX, bY⟩ := bk9 aa.out
      go_upto_region 13 with (fail)
      go_cut [97] (fun hj wc => ∃ (kq : Nat) (aV : Bool), hj = .bool aV ∧ Aside0 (spec_IsValidTransaction.j4 kq aV ap au ak av aq ar am ab af = some r) ∧ Aside0 (kq ≤ k2) ∧ Aside0 (wc.heap[aj]? = some (.cells #[.int .i64 ap, .int .i64 au, .int .i64 ak, .int .i64 av, .int .i64 aq, .int .i64 ar, .int .i64 am, (.slice aG ab.length az), (.slice aH af.length aA)] 48 (0, 0))) ∧ Aside0 (Below w.heap.size w wc))
      case first =>
       have H := df.out
       clear df
       obtain ⟨gF, gG, H⟩ := OB H
       by_cases dv : gF = true
       rotate_left
       ·replace dv := Bool.eq_false_iff.mpr dv
        subst dv
        replace H := HF H
        have H' := AM_ H
        clear H
        obtain ⟨bZ, b0, b1, b2, b3, b4, b6, b7, b8, ca, cb, cc, cd, ce, cf, cg, ch, ci⟩ := bk9 aa.out
        go_wp2_with (first | ((with_reducible refine G1 29 rfl ?_); refine GC (some 84) Try.func29 #[.int .i64 ap, .int .i64 1, .int .i64 9] ?_; (with_reducible refine MQ (spec_l1In.calls ap 1 9 false _ gG.out) ?_); intro nd))
        go_meet
        case rel => exact ⟨_, (true), (by first | rfl | (simp; done) | (simp [*]; done)), H', ⟨by have := aZ.out; have := bG.out; first | omega | exact Nat.le_refl _⟩, ⟨BH aa.out⟩, ⟨BT HB.out⟩⟩
       subst dv
       replace H := HT H
       obtain ⟨gH, g1, H⟩ := OB H
       by_cases dw : gH = true
       rotate_left
       ·replace dw := Bool.eq_false_iff.mpr dw
        subst dw
        replace H := HF H
        have H' := AM_ H
        clear H
        obtain ⟨cj, ck, cl, cm, cn, co, cp, cq, cr, cs, ct, cu, cv, cw, cx, cy, cz, cA⟩ := bk9 aa.out
        go_wp2_with (first | ((with_reducible refine G1 29 rfl ?_); refine GC (some 84) Try.func29 #[.int .i64 ap, .int .i64 1, .int .i64 9] ?_; (with_reducible refine MQ (spec_l1In.calls ap 1 9 true _ gG.out) ?_); intro nd) | (go_at_call 29; (with_reducible refine (spec_l1In.calls au 1 4 false _ g1.out).mono ?_); rintro e w' ⟨rfl, ⟨nd, rfl⟩⟩))
        go_meet
        case rel => exact ⟨_, (true), (by first | rfl | (simp; done) | (simp [*]; done)), H', ⟨by have := aZ.out; have := bG.out; first | omega | exact Nat.le_refl _⟩, ⟨BH aa.out⟩, ⟨BT HB.out⟩⟩
       subst dw
       replace H := HT H
       obtain ⟨dx, hk, H⟩ := OB H
       have H' := AM_ H
       clear H
       obtain ⟨cB, cC, cD, cE, cF, cG, cH, cI, cJ, cK, cL, cM, cN, cO, cP, cQ, cR, cS⟩ := bk9 aa.out
       go_wp2_with (first | ((with_reducible refine G1 29 rfl ?_); refine GC (some 84) Try.func29 #[.int .i64 ap, .int .i64 1, .int .i64 9] ?_; (with_reducible refine MQ (spec_l1In.calls ap 1 9 true _ gG.out) ?_); intro nd) | (go_at_call 29; (with_reducible refine (spec_l1In.calls au 1 4 true _ g1.out).mono ?_); rintro e w' ⟨rfl, ⟨nd, rfl⟩⟩) | (go_at_call 29; (with_reducible refine (spec_l1In.calls av 0 999 dx _ hk.out).mono ?_); rintro e w' ⟨rfl, ⟨nd, rfl⟩⟩))
       go_meet
       case rel => exact ⟨_, (!dx), (by first | rfl | (simp; done) | (simp [*]; done)), H', ⟨by have := aZ.out; have := bG.out; first | omega | exact Nat.le_refl _⟩, ⟨BH aa.out⟩, ⟨BT HB.out⟩⟩
      case rest =>
       clear df
       try clear c3
       try clear c4
       try clear de
       try clear c2
       try clear dv
       try clear dw
       try clear bH bI bJ bK bL bM bN bO bP
       try clear cB cC cD cE cF cG cH cI cJ
       try clear cj ck cl cm cn co cp cq cr
       try clear bZ b0 b1 b2 b3 b4 b6 b7 b8
       try clear bQ bR bS bT bU bV bW bX bY
       try clear cK cL cM cN cO cP cQ cR cS
       try clear cs ct cu cv cw cx cy cz cA
       try clear ca cb cc cd ce cf cg ch ci
       obtain ⟨kq, aV, rfl, HA, hm, aa, HB⟩ := hcut
       cases kq with
       | zero => exact absurd HA.out (by simp [spec_IsValidTransaction.j4])
       | succ kj53 =>
        have H := HA.out
        clear HA
        simp only [spec_IsValidTransaction.j4] at H
        by_cases dM : aV = true
        ·subst dM
         replace H := HT H
         obtain rfl := SI H
         go_wp2
         go_ret
         exact QT (BT HB.out)
        replace dM := Bool.eq_false_iff.mpr dM
        subst dM
        replace H := HF H
        obtain ⟨gI, dp, H⟩ := OB H
        by_cases dN : gI = true
        rotate_left
        ·replace dN := Bool.eq_false_iff.mpr dN
         subst dN
         replace H := HF H
         obtain rfl := SI H
         obtain ⟨dO, dP, dQ, dR, dS, dT, dU, dV, dW, dX, dY, dZ, d0, d1, d2, d3, d4, d5⟩ := bk9 aa.out
         go_wp2_with (first | ((with_reducible refine G1 29 rfl ?_); refine GC (some 100) Try.func29 #[.int .i64 ak, .int .i64 1, .int .i64 3] ?_; (with_reducible refine MQ (spec_l1In.calls ak 1 3 false _ dp.out) ?_); intro nd))
         go_ret
         exact QT (BT HB.out)
        subst dN
        replace H := HT H
        obtain ⟨gJ, dy, H⟩ := OB H
        by_cases d6 : gJ = true
        rotate_left
        ·replace d6 := Bool.eq_false_iff.mpr d6
         subst d6
         replace H := HF H
         obtain rfl := SI H
         obtain ⟨d7, d8, d9, ea, eb, ec, ed, ee, ef, eg, eh, ei, ej, ek, el, em, en, eo⟩ := bk9 aa.out
         go_wp2_with (first | ((with_reducible refine G1 29 rfl ?_); refine GC (some 100) Try.func29 #[.int .i64 ak, .int .i64 1, .int .i64 3] ?_; (with_reducible refine MQ (spec_l1In.calls ak 1 3 true _ dp.out) ?_); intro nd) | (go_at_call 29; (with_reducible refine (spec_l1In.calls aq 0 999 false _ dy.out).mono ?_); rintro e w' ⟨rfl, ⟨nd, rfl⟩⟩))
         go_ret
         exact QT (BT HB.out)
        subst d6
        replace H := HT H
        obtain ⟨gK, ep, H⟩ := OB H
        by_cases eq : gK = true
        rotate_left
        ·replace eq := Bool.eq_false_iff.mpr eq
         subst eq
         replace H := HF H
         obtain rfl := SI H
         obtain ⟨er, es, et, eu, ev, ew, ex, ey, ez, eA, eB, eC, eD, eE, eF, eG, eH, eI⟩ := bk9 aa.out
         go_wp2_with (first | ((with_reducible refine G1 29 rfl ?_); refine GC (some 100) Try.func29 #[.int .i64 ak, .int .i64 1, .int .i64 3] ?_; (with_reducible refine MQ (spec_l1In.calls ak 1 3 true _ dp.out) ?_); intro nd) | (go_at_call 29; (with_reducible refine (spec_l1In.calls aq 0 999 true _ dy.out).mono ?_); rintro e w' ⟨rfl, ⟨nd, rfl⟩⟩) | (go_at_call 29; (with_reducible refine (spec_l1In.calls ar 1 1000 false _ ep.out).mono ?_); rintro e w' ⟨rfl, ⟨nd, rfl⟩⟩))
         go_ret
         exact QT (BT HB.out)
        subst eq
        replace H := HT H
        by_cases bi : ((ak == 2) == (decide (am > 0))) = true
        rotate_left
        ·rw [if_neg bi] at H
         have dz : ((ak == 2) == (decide (am > 0))) = false := by simpa using bi
         (try (have c71b1 : decide ((ak == 2) = (decide (am > 0))) = false := by simpa using bi))
         (try (have c71b2 : ((ak == 2) == (decide (am > 0))) = false := by simpa using bi))
         (try (have c71b3 : ¬ ((ak == 2) = (decide (am > 0))) := by simpa using bi))
         clear bi
         obtain rfl := SI H
         obtain ⟨eJ, eK, eL, eM, eN, eO, eP, eQ, eR, eS, eT, eU, eV, eW, eX, eY, eZ, e0⟩ := bk9 aa.out
         go_wp2_with (first | ((with_reducible refine G1 29 rfl ?_); refine GC (some 100) Try.func29 #[.int .i64 ak, .int .i64 1, .int .i64 3] ?_; (with_reducible refine MQ (spec_l1In.calls ak 1 3 true _ dp.out) ?_); intro nd) | (go_at_call 29; (with_reducible refine (spec_l1In.calls aq 0 999 true _ dy.out).mono ?_); rintro e w' ⟨rfl, ⟨nd, rfl⟩⟩) | (go_at_call 29; (with_reducible refine (spec_l1In.calls ar 1 1000 true _ ep.out).mono ?_); rintro e w' ⟨rfl, ⟨nd, rfl⟩⟩))
         go_ret
         exact QT (BT HB.out)
        rw [if_pos bi] at H
        have dz : ((ak == 2) == (decide (am > 0))) = true := bi
        (try (have c71b1 : decide ((ak == 2) = (decide (am > 0))) = true := by simpa using bi))
        (try (have c71b2 : ((ak == 2) == (decide (am > 0))) = true := by simpa using bi))
        clear bi
        obtain ⟨gL, g2, H⟩ := OB H
        by_cases e3 : gL = true
        ·subst e3
         replace H := HT H
         obtain rfl := SI H
         obtain ⟨e4, e5, e6, e7, e8, e9, fa, fb, fc, fd, fe, ff, fg, fh, fi, fj, fk, fl⟩ := bk9 aa.out
         go_wp2_with (first | ((with_reducible refine G1 29 rfl ?_); refine GC (some 100) Try.func29 #[.int .i64 ak, .int .i64 1, .int .i64 3] ?_; (with_reducible refine MQ (spec_l1In.calls ak 1 3 true _ dp.out) ?_); intro nd) | (go_at_call 29; (with_reducible refine (spec_l1In.calls aq 0 999 true _ dy.out).mono ?_); rintro e w' ⟨rfl, ⟨nd, rfl⟩⟩) | (go_at_call 29; (with_reducible refine (spec_l1In.calls ar 1 1000 true _ ep.out).mono ?_); rintro e w' ⟨rfl, ⟨nd, rfl⟩⟩) | (go_at_call 29; (with_reducible refine (spec_l1In.calls am 0 999 true _ g2.out).mono ?_); rintro e w' ⟨rfl, ⟨nd, rfl⟩⟩))
         go_ret
         exact QT (BT HB.out)
        replace e3 := Bool.eq_false_iff.mpr e3
        subst e3
        replace H := HF H
        obtain rfl := SI H
        obtain ⟨fm, fn, fo, fp, fq, fr, fs, ft, fu, fv, fw, fx, fy, fz, fA, fB, fC, fD⟩ := bk9 aa.out
        go_wp2_with (first | ((with_reducible refine G1 29 rfl ?_); refine GC (some 100) Try.func29 #[.int .i64 ak, .int .i64 1, .int .i64 3] ?_; (with_reducible refine MQ (spec_l1In.calls ak 1 3 true _ dp.out) ?_); intro nd) | (go_at_call 29; (with_reducible refine (spec_l1In.calls aq 0 999 true _ dy.out).mono ?_); rintro e w' ⟨rfl, ⟨nd, rfl⟩⟩) | (go_at_call 29; (with_reducible refine (spec_l1In.calls ar 1 1000 true _ ep.out).mono ?_); rintro e w' ⟨rfl, ⟨nd, rfl⟩⟩) | (go_at_call 29; (with_reducible refine (spec_l1In.calls am 0 999 false _ g2.out).mono ?_); rintro e w' ⟨rfl, ⟨nd, rfl⟩⟩))
        go_ret
        exact QT (BT HB.out)
     rw [if_pos de] at H
     have c2 := DE de
     clear de
     replace H := HI H
     obtain ⟨g3, H⟩ := H
     have g4 := DE g3
     clear g3
     have dg := AM_ H
     clear H
     obtain ⟨fE, fF, fG, fH, fI, fJ, fK, fL, fM, fN, fO, fP, fQ, fR, fS, fT, fU, fV⟩ := bk9 aa.out
     have dh : 0 ≤ (ai : Int) := DT
     have di : ai < (af.length : Int) := DT
     obtain ⟨aD, gM, be, bf⟩ := at_T103 cY.out ai dh di
     cases gM
     replace be := BC HB.out be
     replace bf := BC HB.out bf
     replace dh := ET dh
     replace di := ET di
     go_upto_region 11 with (first | ((with_reducible refine G2 6 rfl ?_); (try (refine gate_guard (by rfl) ?_; dsimp only)); refine BZ 6 #[.int .i64 0, .int .i64 0] 103 HB ?_; clear HB; intro ao fW hg hb ae g5 HB; have ax := NP aa hg; have bh := NQ aa hg; replace aa := BV aa hb; clear hb hg; have g6 := bh.out; have g7 := ax.out; obtain ⟨fX, fY, fZ, f5⟩ := bk2 ae.out))
     (try simp only [pA, pS, pZ, pK])
     go_cut [81] (fun hn wc => ∃ (kq : Nat) (aW : Bool), hn = .bool aW ∧ Aside0 (spec_IsValidTransaction.j3 kq ai aW ap au ak av aq ar am ab af = some r) ∧ Aside0 (kq ≤ k2) ∧ Aside0 (wc.heap[aj]? = some (.cells #[.int .i64 ap, .int .i64 au, .int .i64 ak, .int .i64 av, .int .i64 aq, .int .i64 ar, .int .i64 am, (.slice aG ab.length az), (.slice (some aD) af.length aA)] 48 (0, 0))) ∧ Aside0 (wc.heap[ao]? = some (.cells #[.int .i64 ((rd_T103 af ai).f0), .int .i64 ((rd_T103 af ai).f1)] 103 (0, 0))) ∧ Aside0 (Below w.heap.size w wc))
     case first =>
      have H := dg.out
      clear dg
      obtain ⟨gN, dA, H⟩ := OB H
      by_cases dB : gN = true
      rotate_left
      ·replace dB := Bool.eq_false_iff.mpr dB
       subst dB
       replace H := HF H
       have H' := AM_ H
       clear H
       try go_wp2
       generalize ay : (fW.setCell ⟨ao, 0, none⟩ (.int .i64 ((rd_T103 af ai).f0))).setCell ⟨ao, 1, none⟩ (.int .i64 ((rd_T103 af ai).f1)) = f6
       have aO : Aside0 (f6.heap[aj]? = some (.cells #[.int .i64 ap, .int .i64 au, .int .i64 ak, .int .i64 av, .int .i64 aq, .int .i64 ar, .int .i64 am, .slice aG ab.length az, .slice (some aD) af.length aA] 48 (0, 0))) := by subst ay; exact ⟨BG aa.out ax.out⟩
       have aP : Aside0 (f6.heap[ao]? = some (.cells #[.int .i64 ((rd_T103 af ai).f0), .int .i64 ((rd_T103 af ai).f1)] 103 (0, 0))) := by subst ay; exact ⟨BQ ae.out⟩
       have aQ : Aside0 (Below w.heap.size w f6) := by subst ay; exact ⟨BT HB.out⟩
       (try clear aa)
       (try clear ae)
       (try clear HB)
       clear ay
       have aa := aO
       have ae := aP
       have HB := aQ
       clear aO aP aQ
       replace aa := BD1 aa
       replace ae := BD1 ae
       replace HB := BD2 HB
       refine start_ (n := 26) (S := fun w' => w'.cell? ⟨ao, 0, none⟩ = some (.int .i64 ((rd_T103 af ai).f0)) ∧ w'.cell? ⟨ao, 1, none⟩ = some (.int .i64 ((rd_T103 af ai).f1))) (ds := []) (lo 0 26) (by kernel_rfl) rfl rfl ⟨bc ae.out 0, bc ae.out 1⟩ (fun ag => ?_); refine with_tabW spec_IsValidTransaction.tab11 spec_IsValidTransaction.bits11 (fun al aF => ?_)
       generalize f6.drew = ht at aa ae HB ag ⊢
       iterate 2 first | refine PS al ?_ | refine TS al aF ag ?_
       refine OS al (fun K hK => ?_)
       refine GO Try.func29 #[.int .i64 ((rd_T103 af ai).f0), .int .i64 0, .int .i64 5] ?_
       with_reducible refine MQ (spec_l1In.calls ((rd_T103 af ai).f0) 0 5 false _ dA.out) ?_
       intro nd
       refine hK.out _ _ ⟨bc ae.out 0, bc ae.out 1⟩ (fun ag => ?_)
       clear hK K
       refine NM 58 ?_
       iterate 23 first | refine PS al ?_ | refine PT al ?_
       refine done_ (done_of al.out (by kernel_rfl)) ?_
       try go_wp2
       go_meet
       case rel => exact ⟨_, (true), (by first | rfl | (simp; done) | (simp [*]; done)), H', ⟨by have := aZ.out; have := bG.out; first | omega | exact Nat.le_refl _⟩, ⟨BH aa.out⟩, ⟨BH ae.out⟩, ⟨BT HB.out⟩⟩
      subst dB
      replace H := HT H
      obtain ⟨gO, f7, H⟩ := OB H
      by_cases dC : gO = true
      rotate_left
      ·replace dC := Bool.eq_false_iff.mpr dC
       subst dC
       replace H := HF H
       have H' := AM_ H
       clear H
       try go_wp2
       generalize ay : (fW.setCell ⟨ao, 0, none⟩ (.int .i64 ((rd_T103 af ai).f0))).setCell ⟨ao, 1, none⟩ (.int .i64 ((rd_T103 af ai).f1)) = f8
       have aO : Aside0 (f8.heap[aj]? = some (.cells #[.int .i64 ap, .int .i64 au, .int .i64 ak, .int .i64 av, .int .i64 aq, .int .i64 ar, .int .i64 am, .slice aG ab.length az, .slice (some aD) af.length aA] 48 (0, 0))) := by subst ay; exact ⟨BG aa.out ax.out⟩
       have aP : Aside0 (f8.heap[ao]? = some (.cells #[.int .i64 ((rd_T103 af ai).f0), .int .i64 ((rd_T103 af ai).f1)] 103 (0, 0))) := by subst ay; exact ⟨BQ ae.out⟩
       have aQ : Aside0 (Below w.heap.size w f8) := by subst ay; exact ⟨BT HB.out⟩
       (try clear aa)
       (try clear ae)
       (try clear HB)
       clear ay
       have aa := aO
       have ae := aP
       have HB := aQ
       clear aO aP aQ
       replace aa := BD1 aa
       replace ae := BD1 ae
       replace HB := BD2 HB
       refine start_ (n := 26) (S := fun w' => w'.cell? ⟨ao, 0, none⟩ = some (.int .i64 ((rd_T103 af ai).f0)) ∧ w'.cell? ⟨ao, 1, none⟩ = some (.int .i64 ((rd_T103 af ai).f1))) (ds := []) (lo 0 26) (by kernel_rfl) rfl rfl ⟨bc ae.out 0, bc ae.out 1⟩ (fun ag => ?_); refine with_tabW spec_IsValidTransaction.tab11 spec_IsValidTransaction.bits11 (fun al aF => ?_)
       generalize f8.drew = hu at aa ae HB ag ⊢
       iterate 2 first | refine PS al ?_ | refine TS al aF ag ?_
       refine OS al (fun K hK => ?_)
       refine GO Try.func29 #[.int .i64 ((rd_T103 af ai).f0), .int .i64 0, .int .i64 5] ?_
       with_reducible refine MQ (spec_l1In.calls ((rd_T103 af ai).f0) 0 5 true _ dA.out) ?_
       intro nd
       refine hK.out _ _ ⟨bc ae.out 0, bc ae.out 1⟩ (fun ag => ?_)
       clear hK K
       refine NM 58 ?_
       iterate 4 first | refine PS al ?_ | refine TS al aF ag ?_
       refine OS al (fun K hK => ?_)
       refine GO Try.func29 #[.int .i64 ((rd_T103 af ai).f1), .int .i64 (-1), .int .i64 99] ?_
       with_reducible refine MQ (spec_l1In.calls ((rd_T103 af ai).f1) (-1) 99 false _ f7.out) ?_
       intro nd
       refine hK.out _ _ ⟨bc ae.out 0, bc ae.out 1⟩ (fun ag => ?_)
       clear hK K
       refine NM 63 ?_
       iterate 18 first | refine PS al ?_ | refine PT al ?_
       refine done_ (done_of al.out (by kernel_rfl)) ?_
       try go_wp2
       go_meet
       case rel => exact ⟨_, (true), (by first | rfl | (simp; done) | (simp [*]; done)), H', ⟨by have := aZ.out; have := bG.out; first | omega | exact Nat.le_refl _⟩, ⟨BH aa.out⟩, ⟨BH ae.out⟩, ⟨BT HB.out⟩⟩
      subst dC
      replace H := HT H
      by_cases dj : ai > 0
      rotate_left
      ·rw [if_neg dj] at H
       have aT : decide (0 < ai) = false := decide_eq_false dj
       clear dj
       (first | rw [aT] | (simp only [i64_w, i32_w]; rw [aT]) | skip)
       have H' := AM_ H
       clear H
       try go_wp2
       generalize ay : (fW.setCell ⟨ao, 0, none⟩ (.int .i64 ((rd_T103 af ai).f0))).setCell ⟨ao, 1, none⟩ (.int .i64 ((rd_T103 af ai).f1)) = f9
       have aO : Aside0 (f9.heap[aj]? = some (.cells #[.int .i64 ap, .int .i64 au, .int .i64 ak, .int .i64 av, .int .i64 aq, .int .i64 ar, .int .i64 am, .slice aG ab.length az, .slice (some aD) af.length aA] 48 (0, 0))) := by subst ay; exact ⟨BG aa.out ax.out⟩
       have aP : Aside0 (f9.heap[ao]? = some (.cells #[.int .i64 ((rd_T103 af ai).f0), .int .i64 ((rd_T103 af ai).f1)] 103 (0, 0))) := by subst ay; exact ⟨BQ ae.out⟩
       have aQ : Aside0 (Below w.heap.size w f9) := by subst ay; exact ⟨BT HB.out⟩
       (try clear aa)
       (try clear ae)
       (try clear HB)
       clear ay
       have aa := aO
       have ae := aP
       have HB := aQ
       clear aO aP aQ
       replace aa := BD1 aa
       replace ae := BD1 ae
       replace HB := BD2 HB
       refine start_ (n := 26) (S := fun w' => w'.cell? ⟨ao, 0, none⟩ = some (.int .i64 ((rd_T103 af ai).f0)) ∧ w'.cell? ⟨ao, 1, none⟩ = some (.int .i64 ((rd_T103 af ai).f1))) (ds := []) (lo 0 26) (by kernel_rfl) rfl rfl ⟨bc ae.out 0, bc ae.out 1⟩ (fun ag => ?_); refine with_tabW spec_IsValidTransaction.tab11 spec_IsValidTransaction.bits11 (fun al aF => ?_)
       generalize f9.drew = hv at aa ae HB ag ⊢
       iterate 2 first | refine PS al ?_ | refine TS al aF ag ?_
       refine OS al (fun K hK => ?_)
       refine GO Try.func29 #[.int .i64 ((rd_T103 af ai).f0), .int .i64 0, .int .i64 5] ?_
       with_reducible refine MQ (spec_l1In.calls ((rd_T103 af ai).f0) 0 5 true _ dA.out) ?_
       intro nd
       refine hK.out _ _ ⟨bc ae.out 0, bc ae.out 1⟩ (fun ag => ?_)
       clear hK K
       refine NM 58 ?_
       iterate 4 first | refine PS al ?_ | refine TS al aF ag ?_
       refine OS al (fun K hK => ?_)
       refine GO Try.func29 #[.int .i64 ((rd_T103 af ai).f1), .int .i64 (-1), .int .i64 99] ?_
       with_reducible refine MQ (spec_l1In.calls ((rd_T103 af ai).f1) (-1) 99 true _ f7.out) ?_
       intro nd
       refine hK.out _ _ ⟨bc ae.out 0, bc ae.out 1⟩ (fun ag => ?_)
       clear hK K
       refine NM 63 ?_
       iterate 18 first | refine PS al ?_ | refine PT al ?_
       refine done_ (done_of al.out (by kernel_rfl)) ?_
       try go_wp2
       go_meet
       case rel => exact ⟨_, (false), (by first | rfl | (simp; done) | (simp [*]; done)), H', ⟨by have := aZ.out; have := bG.out; first | omega | exact Nat.le_refl _⟩, ⟨BH aa.out⟩, ⟨BH ae.out⟩, ⟨BT HB.out⟩⟩
      rw [if_pos dj] at H
      have aT : decide (0 < ai) = true := DE dj
      clear dj
      (first | rw [aT] | (simp only [i64_w, i32_w]; rw [aT]) | skip)
      obtain ⟨aE, aU⟩ : ∃ j_ : Int, (wrap64 (ai - 1)) = j_ := ⟨_, rfl⟩
      replace H : (if 0 ≤ (aE) then (if (aE) < (af.length : Int) then (spec_IsValidTransaction.j3 k2 ai (decide (((rd_T103 af (aE)).f0) ≥ ((rd_T103 af ai).f0))) ap au ak av aq ar am ab af) else (none)) else (none)) = some r := by first | (rw [aU] at H; exact H) | (simp only [aU] at H ⊢; exact H)
      (try rw [aU] at dA)
      (try rw [aU] at f7)
      have hji42w : (IntKind.i64.wrap (ai - 1)) = aE := (i64_w _).trans aU
      replace H := HI H
      obtain ⟨gP, H⟩ := H
      have g8 := DE gP
      clear gP
      replace H := HI H
      obtain ⟨gQ, H⟩ := H
      have g9 := DE gQ
      clear gQ
      have H' := AM_ H
      clear H
      try go_wp2
      generalize ay : (fW.setCell ⟨ao, 0, none⟩ (.int .i64 ((rd_T103 af ai).f0))).setCell ⟨ao, 1, none⟩ (.int .i64 ((rd_T103 af ai).f1)) = ga
      have aO : Aside0 (ga.heap[aj]? = some (.cells #[.int .i64 ap, .int .i64 au, .int .i64 ak, .int .i64 av, .int .i64 aq, .int .i64 ar, .int .i64 am, .slice aG ab.length az, .slice (some aD) af.length aA] 48 (0, 0))) := by subst ay; exact ⟨BG aa.out ax.out⟩
      have aP : Aside0 (ga.heap[ao]? = some (.cells #[.int .i64 ((rd_T103 af ai).f0), .int .i64 ((rd_T103 af ai).f1)] 103 (0, 0))) := by subst ay; exact ⟨BQ ae.out⟩
      have aQ : Aside0 (Below w.heap.size w ga) := by subst ay; exact ⟨BT HB.out⟩
      (try clear aa)
      (try clear ae)
      (try clear HB)
      clear ay
      have aa := aO
      have ae := aP
      have HB := aQ
      clear aO aP aQ
      replace aa := BD1 aa
      replace ae := BD1 ae
      replace HB := BD2 HB
      have dk : 0 ≤ ((aE) : Int) := DT
      have dl : (aE) < (af.length : Int) := DT
      obtain ⟨dD, gR, aM, aN⟩ := at_T103 cY.out (aE) dk dl
      have aX := aN
      have aY := aM
      obtain rfl : aD = dD := (by injection gR)
      replace aM := BC HB.out aM
      replace aN := BC HB.out aN
      replace dk := ET dk
      replace dl := ET dl
      refine start_ (n := 26) (S := fun w' => w'.cell? ⟨ao, 0, none⟩ = some (.int .i64 ((rd_T103 af ai).f0)) ∧ w'.cell? ⟨ao, 1, none⟩ = some (.int .i64 ((rd_T103 af ai).f1)) ∧ w'.cell? ⟨aj, 0, none⟩ = some (.int .i64 ap) ∧ w'.cell? ⟨aj, 1, none⟩ = some (.int .i64 au) ∧ w'.cell? ⟨aj, 2, none⟩ = some (.int .i64 ak) ∧ w'.cell? ⟨aj, 3, none⟩ = some (.int .i64 av) ∧ w'.cell? ⟨aj, 4, none⟩ = some (.int .i64 aq) ∧ w'.cell? ⟨aj, 5, none⟩ = some (.int .i64 ar) ∧ w'.cell? ⟨aj, 6, none⟩ = some (.int .i64 am) ∧ w'.cell? ⟨aj, 7, none⟩ = some (.slice aG ab.length az) ∧ w'.cell? ⟨aj, 8, none⟩ = some (.slice (some aD) af.length aA) ∧ w'.cell? (aD.add (((aE)).toNat * 2)) = some (.int .i64 ((rd_T103 af (aE)).f0)) ∧ w'.cell? ⟨(aD.add (((aE)).toNat * 2)).block, (aD.add (((aE)).toNat * 2)).off + 1, none⟩ = some (.int .i64 ((rd_T103 af (aE)).f1))) (ds := []) (lo 0 26) (by kernel_rfl) rfl rfl ⟨bc ae.out 0, bc ae.out 1, bc aa.out 0, bc aa.out 1, bc aa.out 2, bc aa.out 3, bc aa.out 4, bc aa.out 5, bc aa.out 6, bc aa.out 7, bc aa.out 8, (BD HB.out aY), (BD HB.out aX)⟩ (fun ag => ?_); refine with_tabW spec_IsValidTransaction.tab11 spec_IsValidTransaction.bits11 (fun al aF => ?_)
      generalize ga.drew = hw at aa ae HB aM aN ag ⊢
      iterate 2 first | refine PS al ?_ | refine TS al aF ag ?_
      refine OS al (fun K hK => ?_)
      refine GO Try.func29 #[.int .i64 ((rd_T103 af ai).f0), .int .i64 0, .int .i64 5] ?_
      with_reducible refine MQ (spec_l1In.calls ((rd_T103 af ai).f0) 0 5 true _ dA.out) ?_
      intro nd
      refine hK.out _ _ ⟨bc ae.out 0, bc ae.out 1, bc aa.out 0, bc aa.out 1, bc aa.out 2, bc aa.out 3, bc aa.out 4, bc aa.out 5, bc aa.out 6, bc aa.out 7, bc aa.out 8, (BD HB.out aY), (BD HB.out aX)⟩ (fun ag => ?_)
      clear hK K
      refine NM 58 ?_
      iterate 4 first | refine PS al ?_ | refine TS al aF ag ?_
      refine OS al (fun K hK => ?_)
      refine GO Try.func29 #[.int .i64 ((rd_T103 af ai).f1), .int .i64 (-1), .int .i64 99] ?_
      with_reducible refine MQ (spec_l1In.calls ((rd_T103 af ai).f1) (-1) 99 true _ f7.out) ?_
      intro nd
      refine hK.out _ _ ⟨bc ae.out 0, bc ae.out 1, bc aa.out 0, bc aa.out 1, bc aa.out 2, bc aa.out 3, bc aa.out 4, bc aa.out 5, bc aa.out 6, bc aa.out 7, bc aa.out 8, (BD HB.out aY), (BD HB.out aX)⟩ (fun ag => ?_)
      clear hK K
      refine NM 63 ?_
      iterate 7 refine PS al ?_
      refine PV 16 (some 72) (bs 98303 26) al ?_
      refine PV 17 (some 73) (bs 229375 26) al ?_
      refine PV 21 (some 77) (bs 2326527 26) al ?_
      refine TX 15 (some 71) (bs 2359295 26) al aF ag ?_
      refine PV 18 (some 74) (bs 2621439 26) al ?_
      refine PV 19 (some 75) (bs 3145727 26) al ?_
      refine TX 20 (some 76) (lo 22 26) al aF ag ?_
      iterate 4 first | refine PS al ?_ | refine TS al aF ag ?_
      refine done_ (done_of al.out (by kernel_rfl)) ?_
      try go_wp2
      go_meet
      case rel => exact ⟨_, (decide (((rd_T103 af (aE)).f0) ≥ ((rd_T103 af ai).f0))), (by first | rfl | (simp; done) | (simp only [← aU] <;> (first | rfl | simp)) | (simp [*]; done)), H', ⟨by have := aZ.out; have := bG.out; first | omega | exact Nat.le_refl _⟩, ⟨BH aa.out⟩, ⟨BH ae.out⟩, ⟨BT HB.out⟩⟩
     case rest =>
      clear dg
      try clear c3
      try clear c4
      try clear dB
      try clear dC
      try clear dj
      try clear aT
      try clear gP
      try clear gQ
      obtain ⟨kq, aW, rfl, HA, dE, aa, ae, HB⟩ := hcut
      cases kq with
      | zero => exact absurd HA.out (by simp [spec_IsValidTransaction.j3])
      | succ kj31 =>
       have H := HA.out
       clear HA
       simp only [spec_IsValidTransaction.j3] at H
       by_cases gb : aW = true
       ·subst gb
        replace H := HT H
        obtain rfl := SI H
        go_wp2
        go_ret
        exact QT (BT HB.out)
       replace gb := Bool.eq_false_iff.mpr gb
       subst gb
       replace H := HF H
       have H' := AM_ H
       clear H
       go_wp2
       go_roundg kj31
       case measure => have := aZ.out; have := bG.out; have := dE.out; omega
       case rel => exact ⟨(wrap64 (ai + 1)), (by first | rfl | (simp; done) | (simp [*]; done)), H', ⟨by have := aZ.out; have := bG.out; have := dE.out; omega⟩, ⟨BH aa.out⟩, ⟨BT HB.out⟩⟩

/-! ### spec_l12Good: function 58 -/
def spec_l12Good.f (k : Nat) (ab : List (List (S52))) (ac : Int) (ae : Int) (aa : Int) (af : Int) (ag : Int) (ah : Int) (ai : Int) (aj : List (S116)) (ak : List (S103)) (a2 : Int) : Option (Bool) := (spec_IsValidStore.f k ab).bind fun al => (if al = true then ((spec_IsValidTransaction.f k ac ae aa af ag ah ai aj ak).bind fun am => (if am = true then (if aa = 1 then ((spec_l1In.f a2 0 5).bind fun an => (some an)) else (some false)) else (some false))) else (some false))
theorem spec_l12Good.mono : ∀ a0 a1 a2 a3 a4 a5 a6 a7 a8 a9 aa k, LeO (spec_l12Good.f k a0 a1 a2 a3 a4 a5 a6 a7 a8 a9 aa) (spec_l12Good.f (k + 1) a0 a1 a2 a3 a4 a5 a6 a7 a8 a9 aa) := by
 intro a0 a1 a2 a3 a4 a5 a6 a7 a8 a9 aa k
 unfold spec_l12Good.f
 repeat' (with_reducible first | exact spec_IsValidStore.mono .. | exact spec_IsValidTransaction.mono .. | exact LeO.refl _ | exact LeO.none _ | refine LeO.ite ?_ ?_ | refine LeO.bind ?_ (fun _ => ?_))
theorem spec_l12Good.calls (k : Nat) (aj : Option Addr) (ak : Nat) (af : List (List (S52))) (al : Int) (am : Int) (ag : Int) (an : Int) (ao : Int) (ap : Int) (aq : Int) (av : Option Addr) (aw : Nat) (ah : List (S116)) (ax : Option Addr) (ay : Nat) (ai : List (S103)) (a2 : Int) (r : Bool) (w : World) (aH : Kd.C (Kd.slice 52 k52) w aj af.length af) (aI : af.length ≤ ak) (aJ : Kd.C k116 w av ah.length ah) (aK : ah.length ≤ aw) (aL : Kd.C k103 w ax ai.length ai) (aM : ai.length ≤ ay) (h : spec_l12Good.f k af al am ag an ao ap aq ah ai a2 = some r) :
  Calls Try.prog 58 #[.agg #[.slice aj af.length ak], .agg #[.int .i64 al, .int .i64 am, .int .i64 ag, .int .i64 an, .int .i64 ao, .int .i64 ap, .int .i64 aq, .slice av ah.length aw, .slice ax ai.length ay], .int .i64 a2] w fun e w' => e = .returned (.bool r) ∧ Below w.heap.size w w' := by
 have cQ := Try.underlying34
 have cR := Try.underlying48
 have ar := AM_ aH
 have au := AM_ aI
 clear aH aI
 have az := AM_ aJ
 have aA := AM_ aK
 clear aJ aK
 have aB := AM_ aL
 have aC := AM_ aM
 clear aL aM
 have HB := AM_ (Below.refl w.heap.size w)
 unfold spec_l12Good.f at h
 have H := h
 clear h
 obtain ⟨cE, A4, H⟩ := OB H
 by_cases c5 : cE = true
 rotate_left
 ·replace c5 := Bool.eq_false_iff.mpr c5
  subst c5
  replace H := HF H
  obtain rfl := SI H
  go_enter Try.func58, Try.ntmps58
  go_wp2_with (first | ((with_reducible refine G2 3 rfl ?_); refine BY 3 #[.slice aj af.length ak] 34 HB ?_; clear HB; intro aD cS aa aE HB) | ((with_reducible refine G2 4 rfl ?_); refine BZ 4 #[.int .i64 al, .int .i64 am, .int .i64 ag, .int .i64 an, .int .i64 ao, .int .i64 ap, .int .i64 aq, .slice av ah.length aw, .slice ax ai.length ay] 48 HB ?_; clear HB; intro aF cT hg hb ab aG HB; have ac := NP aa hg; have ae := NQ aa hg; replace aa := BV aa hb; clear hb hg; have cI := ac.out; have cJ := ae.out; obtain ⟨aN, aO⟩ := bk1 aa.out) | ((with_reducible refine G1 26 rfl ?_); refine GC (some 8) Try.func26 #[.agg #[.slice aj af.length ak]] ?_; (with_reducible refine MB (spec_IsValidStore.calls k _ _ af false _ (CC ar HB) au.out A4.out) ?_); intro cU hb; replace aa := BV aa hb; replace ab := BV ab hb; replace HB := BW HB hb; (try clear hb)))
  go_ret
  exact QT (BT HB.out)
 subst c5
 replace H := HT H
 obtain ⟨cF, A6, H⟩ := OB H
 by_cases c7 : cF = true
 rotate_left
 ·replace c7 := Bool.eq_false_iff.mpr c7
  subst c7
  replace H := HF H
  obtain rfl := SI H
  go_enter Try.func58, Try.ntmps58
  go_wp2_with (first | ((with_reducible refine G2 3 rfl ?_); refine BY 3 #[.slice aj af.length ak] 34 HB ?_; clear HB; intro aD cV aa aE HB) | ((with_reducible refine G2 4 rfl ?_); refine BZ 4 #[.int .i64 al, .int .i64 am, .int .i64 ag, .int .i64 an, .int .i64 ao, .int .i64 ap, .int .i64 aq, .slice av ah.length aw, .slice ax ai.length ay] 48 HB ?_; clear HB; intro aF cW hg hb ab aG HB; have ac := NP aa hg; have ae := NQ aa hg; replace aa := BV aa hb; clear hb hg; have cK := ac.out; have cL := ae.out; obtain ⟨aP, aQ⟩ := bk1 aa.out) | ((with_reducible refine G1 26 rfl ?_); refine GC (some 8) Try.func26 #[.agg #[.slice aj af.length ak]] ?_; (with_reducible refine MB (spec_IsValidStore.calls k _ _ af true _ (CC ar HB) au.out A4.out) ?_); intro cX hb; replace aa := BV aa hb; replace ab := BV ab hb; replace HB := BW HB hb; (try clear hb); obtain ⟨aR, aS, aT, aU, aV, aW, aX, aY, aZ, ba, bb, bd, be, bf, bg, bh, bi, bj⟩ := bk9 ab.out) | (go_at_call 31; (with_reducible refine (spec_IsValidTransaction.calls k al am ag an ao ap aq _ _ ah _ _ ai false _ (CC az HB) aA.out (CC aB HB) aC.out A6.out).mono ?_); rintro e cY ⟨rfl, hb⟩; replace aa := BV aa hb; replace ab := BV ab hb; replace HB := BW HB hb; (try clear hb)))
  go_ret
  exact QT (BT HB.out)
 subst c7
 replace H := HT H
 by_cases c8 : ag = 1
 rotate_left
 ·rw [if_neg c8] at H
  have cG : (ag == 1) = false := beq_eq_false_iff_ne.mpr c8
  have c8b1 : (ag != 1) = true := bne_iff_ne.mpr c8
  obtain rfl := SI H
  go_enter Try.func58, Try.ntmps58
  go_wp2_with (first | ((with_reducible refine G2 3 rfl ?_); refine BY 3 #[.slice aj af.length ak] 34 HB ?_; clear HB; intro aD cZ aa aE HB) | ((with_reducible refine G2 4 rfl ?_); refine BZ 4 #[.int .i64 al, .int .i64 am, .int .i64 ag, .int .i64 an, .int .i64 ao, .int .i64 ap, .int .i64 aq, .slice av ah.length aw, .slice ax ai.length ay] 48 HB ?_; clear HB; intro aF c2 hg hb ab aG HB; have ac := NP aa hg; have ae := NQ aa hg; replace aa := BV aa hb; clear hb hg; have cM := ac.out; have cN := ae.out; obtain ⟨bk, bm⟩ := bk1 aa.out) | ((with_reducible refine G1 26 rfl ?_); refine GC (some 8) Try.func26 #[.agg #[.slice aj af.length ak]] ?_; (with_reducible refine MB (spec_IsValidStore.calls k _ _ af true _ (CC ar HB) au.out A4.out) ?_); intro da hb; replace aa := BV aa hb; replace ab := BV ab hb; replace HB := BW HB hb; (try clear hb); obtain ⟨bn, bo, bp, bq, br, bu, bv, bw, bx, bz, bA, bB, bC, bD, bE, bF, bG, bH⟩ := bk9 ab.out) | (go_at_call 31; (with_reducible refine (spec_IsValidTransaction.calls k al am ag an ao ap aq _ _ ah _ _ ai true _ (CC az HB) aA.out (CC aB HB) aC.out A6.out).mono ?_); rintro e db ⟨rfl, hb⟩; replace aa := BV aa hb; replace ab := BV ab hb; replace HB := BW HB hb; (try clear hb); obtain ⟨bI, bJ, bK, bL, bM, bN, bO, bP, bQ, bR, bS, bT, bU, bV, bW, bX, bY, bZ⟩ := bk9 ab.out))
  go_ret
  exact QT (BT HB.out)
 rw [if_pos c8] at H
 have cG : (ag == 1) = true := beq_iff_eq.mpr c8
 have c8b1 : (ag != 1) = false := bne_eq_false_iff_eq.mpr c8
 clear c8
 obtain ⟨cH, A9, H⟩ := OB H
 obtain rfl := SI H
 go_enter Try.func58, Try.ntmps58
 go_wp2_with (first | ((with_reducible refine G2 3 rfl ?_); refine BY 3 #[.slice aj af.length ak] 34 HB ?_; clear HB; intro aD dc aa aE HB) | ((with_reducible refine G2 4 rfl ?_); refine BZ 4 #[.int .i64 al, .int .i64 am, .int .i64 ag, .int .i64 an, .int .i64 ao, .int .i64 ap, .int .i64 aq, .slice av ah.length aw, .slice ax ai.length ay] 48 HB ?_; clear HB; intro aF dd hg hb ab aG HB; have ac := NP aa hg; have ae := NQ aa hg; replace aa := BV aa hb; clear hb hg; have cO := ac.out; have cP := ae.out; obtain ⟨b0, b1⟩ := bk1 aa.out) | ((with_reducible refine G1 26 rfl ?_); refine GC (some 8) Try.func26 #[.agg #[.slice aj af.length ak]] ?_; (with_reducible refine MB (spec_IsValidStore.calls k _ _ af true _ (CC ar HB) au.out A4.out) ?_); intro de hb; replace aa := BV aa hb; replace ab := BV ab hb; replace HB := BW HB hb; (try clear hb); obtain ⟨b2, b3, b4, b6, b7, b8, ca, cb, cc, cd, ce, cf, cg, ch, ci, cj, ck, cl⟩ := bk9 ab.out) | (go_at_call 31; (with_reducible refine (spec_IsValidTransaction.calls k al am ag an ao ap aq _ _ ah _ _ ai true _ (CC az HB) aA.out (CC aB HB) aC.out A6.out).mono ?_); rintro e df ⟨rfl, hb⟩; replace aa := BV aa hb; replace ab := BV ab hb; replace HB := BW HB hb; (try clear hb); obtain ⟨cm, cn, co, cp, cq, cr, cs, ct, cu, cv, cw, cx, cy, cz, cA, cB, cC, cD⟩ := bk9 ab.out) | (go_at_call 29; (with_reducible refine (spec_l1In.calls a2 0 5 cH _ A9.out).mono ?_); rintro e w' ⟨rfl, ⟨nd, rfl⟩⟩))
 go_ret
 exact QT (BT HB.out)

/-! ### spec_VersionAt: function 94 -/
mutual
def spec_VersionAt.l0 : Nat → List (S52) → Int → Int → Int → Option (Int)
 | 0, _, _, _, _ => none
 | k + 1, x0, x1, x5, x6 => if x6 < (x0.length : Int) then ((spec_IsValidChain.f k x0).bind fun aa => (spec_VersionAt.j1 k x0 x1 x5 x6 aa)) else (spec_VersionAt.j1 k x0 x1 x5 x6 false)
def spec_VersionAt.j1 : Nat → List (S52) → Int → Int → Int → Bool → Option (Int)
 | 0, _, _, _, _, _ => none
 | k + 1, x0, x1, x5, x6, ab => if ab = true then (if 0 ≤ x6 then (if x6 < (x0.length : Int) then (if ((rd_T52 x0 x6).f2) ≤ x1 then (spec_VersionAt.l0 k x0 x1 x6 (wrap64 (x6 + 1))) else (spec_VersionAt.l0 k x0 x1 x5 (wrap64 (x6 + 1)))) else (none)) else (none)) else (some x5)
end
def spec_VersionAt.f (k : Nat) (l0 : List (S52)) (a1 : Int) : Option (Int) := spec_VersionAt.l0 k l0 a1 (-1) 0
theorem spec_VersionAt.mono_l : ∀ k, (∀ y0 y1 y2 y3, LeO (spec_VersionAt.l0 k y0 y1 y2 y3) (spec_VersionAt.l0 (k + 1) y0 y1 y2 y3)) ∧ (∀ y0 y1 y2 y3 y4, LeO (spec_VersionAt.j1 k y0 y1 y2 y3 y4) (spec_VersionAt.j1 (k + 1) y0 y1 y2 y3 y4))
 | 0 => ⟨fun _ _ _ _ r h => by simp [spec_VersionAt.l0] at h, fun _ _ _ _ _ r h => by simp [spec_VersionAt.j1] at h⟩
 | k + 1 => by
  obtain ⟨aa, ab⟩ := spec_VersionAt.mono_l k
  refine ⟨?_, ?_⟩
  all_goals intros; first | unfold spec_VersionAt.l0 | unfold spec_VersionAt.j1
  all_goals repeat' (with_reducible first | exact aa .. | exact ab .. | exact spec_IsValidChain.mono .. | exact LeO.refl _ | exact LeO.none _ | refine LeO.ite ?_ ?_ | refine LeO.bind ?_ (fun _ => ?_))
theorem spec_VersionAt.mono : ∀ a0 a1 k, LeO (spec_VersionAt.f k a0 a1) (spec_VersionAt.f (k + 1) a0 a1) := by
 intro a0 a1 k
 obtain ⟨aa, ab⟩ := spec_VersionAt.mono_l k
 unfold spec_VersionAt.f
 repeat' (with_reducible first | exact aa .. | exact ab .. | exact spec_IsValidChain.mono .. | exact LeO.refl _ | exact LeO.none _ | refine LeO.ite ?_ ?_ | refine LeO.bind ?_ (fun _ => ?_))
theorem spec_VersionAt.calls (k : Nat) (A0 : Option Addr) (c0 : Nat) (l0 : List (S52)) (a1 : Int) (r : Int) (w : World) (ax : Kd.C k52 w A0 l0.length l0) (ay : l0.length ≤ c0) (h : spec_VersionAt.f k l0 a1 = some r) :
  Calls Try.prog 94 #[.slice A0 l0.length c0, .int .i64 a1] w fun e w' => e = .returned (.int .i64 r) ∧ Below w.heap.size w w' := by
 have av := AM_ ax
 have az := AM_ ay
 clear ax ay
 have HB := AM_ (Below.refl w.heap.size w)
 unfold spec_VersionAt.f at h
 have H := h
 clear h
 have H' := AM_ H
 clear H
 go_enter Try.func94, Try.ntmps94
 go_wp2
 go_loopg [5, 6] k (fun kq v5 v6 w' => ∃ (al : Int) (aa : Int), v5 = .int .i64 al ∧ v6 = .int .i64 aa ∧ Aside0 (spec_VersionAt.l0 kq l0 a1 al aa = some r) ∧ Aside0 (kq ≤ k) ∧ Aside0 (Below w.heap.size w w'))
 case atStart => exact ⟨((-1)), (0), (by first | rfl | (simp; done) | (simp [*]; done)), (by first | rfl | (simp; done) | (simp [*]; done)), H', ⟨Nat.le_refl _⟩, ⟨BT HB.out⟩⟩
 case round =>
  clear H'
  obtain ⟨al, aa, rfl, rfl, HA, an, HB⟩ := hrel
  cases gk with
  | zero => exact absurd HA.out (by simp [spec_VersionAt.l0])
  | succ k1 =>
   have H := HA.out
   clear HA
   simp only [spec_VersionAt.l0] at H
   have aw := AM_ H
   clear H
   go_upto_region 3 with (fail)
   go_cut [14] (fun aA wc => ∃ (kq : Nat) (aj : Bool), aA = .bool aj ∧ Aside0 (spec_VersionAt.j1 kq l0 a1 al aa aj = some r) ∧ Aside0 (kq ≤ k1) ∧ Aside0 (Below w.heap.size w wc))
   case first =>
    have H := aw.out
    clear aw
    by_cases c4 : aa < (l0.length : Int)
    rotate_left
    ·rw [if_neg c4] at H
     have ak := decide_eq_false c4
     clear c4
     (first | rw [ak] | (simp only [i64_w, i32_w]; rw [ak]) | skip)
     have H' := AM_ H
     clear H
     go_wp2
     go_meet
     case rel => exact ⟨_, (false), (by first | rfl | (simp; done) | (simp [*]; done)), H', ⟨by have := an.out; first | omega | exact Nat.le_refl _⟩, ⟨BT HB.out⟩⟩
    rw [if_pos c4] at H
    have ak := DE c4
    clear c4
    (first | rw [ak] | (simp only [i64_w, i32_w]; rw [ak]) | skip)
    obtain ⟨ap, A5, H⟩ := OB H
    have H' := AM_ H
    clear H
    go_wp2_with (first | (go_at_call 64; (with_reducible refine (spec_IsValidChain.calls k1 _ _ l0 ap _ (CC av HB) az.out A5.out).mono ?_); rintro e w6 ⟨rfl, hb⟩; replace HB := BW HB hb; (try clear hb)))
    go_meet
    case rel => exact ⟨_, (ap), (by first | rfl | (simp; done) | (simp [*]; done)), H', ⟨by have := an.out; first | omega | exact Nat.le_refl _⟩, ⟨BT HB.out⟩⟩
   case rest =>
    clear aw
    try clear c4
    try clear ak
    obtain ⟨kq, aj, rfl, HA, au, HB⟩ := hcut
    cases kq with
    | zero => exact absurd HA.out (by simp [spec_VersionAt.j1])
    | succ kj2 =>
     have H := HA.out
     clear HA
     simp only [spec_VersionAt.j1] at H
     by_cases c7 : aj = true
     rotate_left
     ·replace c7 := Bool.eq_false_iff.mpr c7
      subst c7
      replace H := HF H
      obtain rfl := SI H
      go_wp2
      go_ret
      exact QT (BT HB.out)
     subst c7
     replace H := HT H
     replace H := HI H
     obtain ⟨c8, H⟩ := H
     have aB := DE c8
     clear c8
     replace H := HI H
     obtain ⟨c9, H⟩ := H
     have aC := DE c9
     clear c9
     by_cases ao : ((rd_T52 l0 aa).f2) ≤ a1
     ·rw [if_pos ao] at H
      have aq := DE ao
      clear ao
      have H' := AM_ H
      clear H
      have ah : 0 ≤ (aa : Int) := DT
      have ai : aa < (l0.length : Int) := DT
      obtain ⟨ar, am, ab, ac, ae, af, ag⟩ := at_T52 av.out aa ah ai
      cases am
      replace ab := BC HB.out ab
      replace ac := BC HB.out ac
      replace ae := BC HB.out ae
      replace af := BC HB.out af
      replace ag := BC HB.out ag
      replace ah := ET ah
      replace ai := ET ai
      go_wp2
      go_roundg kj2
      case measure => have := an.out; have := au.out; omega
      case rel => exact ⟨(aa), (wrap64 (aa + 1)), (by first | rfl | (simp; done) | (simp [*]; done)), (by first | rfl | (simp; done) | (simp [*]; done)), H', ⟨by have := an.out; have := au.out; omega⟩, ⟨BT HB.out⟩⟩
     rw [if_neg ao] at H
     have aq := decide_eq_false ao
     clear ao
     have H' := AM_ H
     clear H
     have ah : 0 ≤ (aa : Int) := DT
     have ai : aa < (l0.length : Int) := DT
     obtain ⟨ar, am, ab, ac, ae, af, ag⟩ := at_T52 av.out aa ah ai
     cases am
     replace ab := BC HB.out ab
     replace ac := BC HB.out ac
     replace ae := BC HB.out ae
     replace af := BC HB.out af
     replace ag := BC HB.out ag
     replace ah := ET ah
     replace ai := ET ai
     go_wp2
     go_roundg kj2
     case measure => have := an.out; have := au.out; omega
     case rel => exact ⟨(al), (wrap64 (aa + 1)), (by first | rfl | (simp; done) | (simp [*]; done)), (by first | rfl | (simp; done) | (simp [*]; done)), H', ⟨by have := an.out; have := au.out; omega⟩, ⟨BT HB.out⟩⟩

/-! ### spec_ReadAt: function 59 -/
def spec_ReadAt.j0 : Nat → Int → Int → Bool → List (List (S52)) → Option (Int × Int × Int × Int × Int × Bool)
 | 0, _, _, _, _ => none
 | k + 1, x1, x2, ac, aa => if ac = true then (some (0, 0, 0, 0, 0, false)) else (if 0 ≤ x1 then (if x1 < (aa.length : Int) then ((spec_VersionAt.f k (rd_L3 aa x1) x2).bind fun ab => (if ab < 0 then (some (0, 0, 0, 0, 0, false)) else (if 0 ≤ ab then (if ab < ((rd_L3 aa x1).length : Int) then (some ((rd_T52 (rd_L3 aa x1) ab).f0, (rd_T52 (rd_L3 aa x1) ab).f1, (rd_T52 (rd_L3 aa x1) ab).f2, (rd_T52 (rd_L3 aa x1) ab).f3, (rd_T52 (rd_L3 aa x1) ab).f4, true)) else (none)) else (none)))) else (none)) else (none))
def spec_ReadAt.f (k : Nat) (aa : List (List (S52))) (a1 : Int) (a2 : Int) : Option (Int × Int × Int × Int × Int × Bool) := (spec_IsValidStore.f k aa).bind fun ab => (if ab = true then ((spec_l1In.f a1 0 5).bind fun ac => (spec_ReadAt.j0 k a1 a2 (!ac) aa)) else (spec_ReadAt.j0 k a1 a2 true aa))
theorem spec_ReadAt.mono_l : ∀ k, (∀ y0 y1 y2 y3, LeO (spec_ReadAt.j0 k y0 y1 y2 y3) (spec_ReadAt.j0 (k + 1) y0 y1 y2 y3))
 | 0 => fun _ _ _ _ r h => by simp [spec_ReadAt.j0] at h
 | k + 1 => by
  have aa := spec_ReadAt.mono_l k
  all_goals intros; unfold spec_ReadAt.j0
  all_goals repeat' (with_reducible first | exact aa .. | exact spec_IsValidStore.mono .. | exact spec_VersionAt.mono .. | exact LeO.refl _ | exact LeO.none _ | refine LeO.ite ?_ ?_ | refine LeO.bind ?_ (fun _ => ?_))
theorem spec_ReadAt.mono : ∀ a0 a1 a2 k, LeO (spec_ReadAt.f k a0 a1 a2) (spec_ReadAt.f (k + 1) a0 a1 a2) := by
 intro a0 a1 a2 k
 have aa := spec_ReadAt.mono_l k
 unfold spec_ReadAt.f
 repeat' (with_reducible first | exact aa .. | exact spec_IsValidStore.mono .. | exact spec_VersionAt.mono .. | exact LeO.refl _ | exact LeO.none _ | refine LeO.ite ?_ ?_ | refine LeO.bind ?_ (fun _ => ?_))
theorem spec_ReadAt.calls (k : Nat) (aD : Option Addr) (aE : Nat) (ab : List (List (S52))) (a1 : Int) (a2 : Int) (r1 : Int) (r2 : Int) (r3 : Int) (r4 : Int) (r5 : Int) (r6 : Bool) (w : World) (aL : Kd.C (Kd.slice 52 k52) w aD ab.length ab) (aM : ab.length ≤ aE) (h : spec_ReadAt.f k ab a1 a2 = some (r1, r2, r3, r4, r5, r6)) :
  Calls Try.prog 59 #[.agg #[.slice aD ab.length aE], .int .i64 a1, .int .i64 a2] w fun e w' => e = .returned (.tuple #[.agg #[.int .i64 r1, .int .i64 r2, .int .i64 r3, .int .i64 r4, .int .i64 r5], .bool r6]) ∧ Below w.heap.size w w' := by
 have cj := Try.underlying34
 have ck := Try.underlying52
 have am := AM_ aL
 have aN := AM_ aM
 clear aL aM
 have HB := AM_ (Below.refl w.heap.size w)
 have H : ((spec_IsValidStore.f k ab).bind fun aP => (if aP = true then ((spec_l1In.f a1 0 5).bind fun aF => (spec_ReadAt.j0 k a1 a2 (!aF) ab)) else (spec_ReadAt.j0 k a1 a2 true ab))) = some (r1, r2, r3, r4, r5, r6) := h
 clear h
 have bQ := AM_ H
 clear H
 go_enter Try.func59, Try.ntmps59
 go_upto_region 1 with (first | ((with_reducible refine G2 3 rfl ?_); refine BY 3 #[.slice aD ab.length aE] 34 HB ?_; clear HB; intro aW w5 aa bV HB) | ((with_reducible refine G2 6 rfl ?_); refine BZ 6 #[.int .i64 0, .int .i64 0, .int .i64 0, .int .i64 0, .int .i64 0] 52 HB ?_; clear HB; intro ar w6 hg hb ac bW HB; have ae := NP aa hg; have af := NQ aa hg; replace aa := BV aa hb; clear hb hg))
 (try simp only [pA, pS, pZ, pK])
 go_cut [16] (fun cl wc => ∃ (kq : Nat) (au : Bool), cl = .bool au ∧ Aside0 (spec_ReadAt.j0 kq a1 a2 au ab = some (r1, r2, r3, r4, r5, r6)) ∧ Aside0 (kq ≤ k) ∧ Aside0 (wc.heap[aW]? = some (.cells #[(.slice aD ab.length aE)] 34 (0, 0))) ∧ Aside0 (wc.heap[ar]? = some (.cells #[.int .i64 0, .int .i64 0, .int .i64 0, .int .i64 0, .int .i64 0] 52 (0, 0))) ∧ Aside0 (Below w.heap.size w wc))
 case first =>
  have H := bQ.out
  clear bQ
  obtain ⟨aP, A7, H⟩ := OB H
  by_cases c8 : aP = true
  rotate_left
  ·replace c8 := Bool.eq_false_iff.mpr c8
   subst c8
   replace H := HF H
   have H' := AM_ H
   clear H
   have bX := ae.out
   have bY := af.out
   obtain ⟨aG, aH⟩ := bk1 aa.out
   go_wp2_with (first | ((with_reducible refine G1 26 rfl ?_); refine GC (some 10) Try.func26 #[.agg #[.slice aD ab.length aE]] ?_; (with_reducible refine MB (spec_IsValidStore.calls k _ _ ab false _ (CC am HB) aN.out A7.out) ?_); intro cm hb; replace aa := BV aa hb; replace ac := BV ac hb; replace HB := BW HB hb; (try clear hb)))
   go_meet
   case rel => exact ⟨_, (true), (by first | rfl | (simp; done) | (simp [*]; done)), H', ⟨by first | omega | exact Nat.le_refl _⟩, ⟨BH aa.out⟩, ⟨BH ac.out⟩, ⟨BT HB.out⟩⟩
  subst c8
  replace H := HT H
  obtain ⟨aF, A9, H⟩ := OB H
  have H' := AM_ H
  clear H
  have bZ := ae.out
  have b0 := af.out
  obtain ⟨aI, aJ⟩ := bk1 aa.out
  go_wp2_with (first | ((with_reducible refine G1 26 rfl ?_); refine GC (some 10) Try.func26 #[.agg #[.slice aD ab.length aE]] ?_; (with_reducible refine MB (spec_IsValidStore.calls k _ _ ab true _ (CC am HB) aN.out A7.out) ?_); intro cn hb; replace aa := BV aa hb; replace ac := BV ac hb; replace HB := BW HB hb; (try clear hb)) | (go_at_call 29; (with_reducible refine (spec_l1In.calls a1 0 5 aF _ A9.out).mono ?_); rintro e w' ⟨rfl, ⟨nd, rfl⟩⟩))
  go_meet
  case rel => exact ⟨_, (!aF), (by first | rfl | (simp; done) | (simp [*]; done)), H', ⟨by first | omega | exact Nat.le_refl _⟩, ⟨BH aa.out⟩, ⟨BH ac.out⟩, ⟨BT HB.out⟩⟩
 case rest =>
  clear bQ
  try clear c8
  try clear aI
  try clear aG
  try clear aJ
  try clear aH
  obtain ⟨kq, au, rfl, HA, co, aa, ac, HB⟩ := hcut
  cases kq with
  | zero => exact absurd HA.out (by simp [spec_ReadAt.j0])
  | succ kj3 =>
   have H := HA.out
   clear HA
   simp only [spec_ReadAt.j0] at H
   by_cases aZ : au = true
   ·subst aZ
    replace H := HT H
    simp only [Option.some.injEq, Prod.mk.injEq] at H
    obtain ⟨rfl, rfl, rfl, rfl, rfl, rfl⟩ := H
    have b1 := af.out
    have b2 := ae.out
    obtain ⟨ba, bb, bd, be, bf, bg, bh, bi, bj, bk⟩ := bk5 ac.out
    go_wp2
    refine bodyPost_ret (results_ct rfl _ _ ar 52 #[.int .i64 0, .int .i64 0, .int .i64 0, .int .i64 0, .int .i64 0] (0, 0) _ rfl (by (with_reducible repeat (first | refine blk_drewN ?_ _ | refine blk_drew ?_ | refine blk_alloc ?_ _)); apply BP5; (with_reducible repeat (first | refine blk_drewN ?_ _ | refine blk_drew ?_ | refine blk_alloc ?_ _)); exact ac.out) Try.underlying52 rfl (by kernel_rfl)) rfl ?_
    exact QT (BT HB.out)
   replace aZ := Bool.eq_false_iff.mpr aZ
   subst aZ
   replace H := HF H
   replace H := HI H
   obtain ⟨b3, H⟩ := H
   have b4 := DE b3
   clear b3
   replace H := HI H
   obtain ⟨b6, H⟩ := H
   have b7 := DE b6
   clear b6
   obtain ⟨aj, b8, H⟩ := OB H
   by_cases aV : aj < 0
   ·rw [if_pos aV] at H
    have aX := DE aV
    clear aV
    simp only [Option.some.injEq, Prod.mk.injEq] at H
    obtain ⟨rfl, rfl, rfl, rfl, rfl, rfl⟩ := H
    have ca := ae.out
    have cb := af.out
    obtain ⟨bm, bn⟩ := bk1 aa.out
    have an : 0 ≤ (a1 : Int) := DT
    have ao : a1 < (ab.length : Int) := DT
    obtain ⟨aO, ap, aq, aQ, ag, ah, ai⟩ := at_L3 am.out a1 an ao
    cases aQ
    replace ag := BC HB.out ag
    have ak := AM_ ai
    have al := AM_ ah
    clear ai ah
    replace an := ET an
    replace ao := ET ao
    go_wp2_with (first | ((with_reducible refine G1 94 rfl ?_); refine GC (some 24) Try.func94 #[.slice ap (rd_L3 ab a1).length aq, .int .i64 a2] ?_; (with_reducible refine MB (spec_VersionAt.calls kj3 _ _ (rd_L3 ab a1) a2 aj _ (CC ak HB) al.out b8.out) ?_); intro cp hb; replace aa := BV aa hb; replace ac := BV ac hb; replace HB := BW HB hb; (try clear hb); obtain ⟨bo, bp, bq, br, bu, bv, bw, bx, bz, bA⟩ := bk5 ac.out))
    refine bodyPost_ret (results_ct rfl _ _ ar 52 #[.int .i64 0, .int .i64 0, .int .i64 0, .int .i64 0, .int .i64 0] (0, 0) _ rfl (by (with_reducible repeat (first | refine blk_drewN ?_ _ | refine blk_drew ?_ | refine blk_alloc ?_ _)); apply BP5; (with_reducible repeat (first | refine blk_drewN ?_ _ | refine blk_drew ?_ | refine blk_alloc ?_ _)); exact ac.out) Try.underlying52 rfl (by kernel_rfl)) rfl ?_
    exact QT (BT HB.out)
   rw [if_neg aV] at H
   have aX := decide_eq_false aV
   clear aV
   replace H := HI H
   obtain ⟨cc, H⟩ := H
   have cd := DE cc
   clear cc
   replace H := HI H
   obtain ⟨ce, H⟩ := H
   have cf := DE ce
   clear ce
   simp only [Option.some.injEq, Prod.mk.injEq] at H
   obtain ⟨rfl, rfl, rfl, rfl, rfl, rfl⟩ := H
   have cg := ae.out
   have ch := af.out
   obtain ⟨bB, bC⟩ := bk1 aa.out
   have an : 0 ≤ (a1 : Int) := DT
   have ao : a1 < (ab.length : Int) := DT
   obtain ⟨aO, ap, aq, aQ, ag, ah, ai⟩ := at_L3 am.out a1 an ao
   cases aQ
   replace ag := BC HB.out ag
   have ak := AM_ ai
   have al := AM_ ah
   clear ai ah
   replace an := ET an
   replace ao := ET ao
   go_wp2_with (first | ((with_reducible refine G1 94 rfl ?_); refine GC (some 24) Try.func94 #[.slice ap (rd_L3 ab a1).length aq, .int .i64 a2] ?_; (with_reducible refine MB (spec_VersionAt.calls kj3 _ _ (rd_L3 ab a1) a2 aj _ (CC ak HB) al.out b8.out) ?_); intro cq hb; replace aa := BV aa hb; replace ac := BV ac hb; replace HB := BW HB hb; (try clear hb); obtain ⟨bD, bE⟩ := bk1 aa.out; have aR : 0 ≤ (a1 : Int) := DT; have aS : a1 < (ab.length : Int) := DT; obtain ⟨aY, bR, bS, bT, av, aw, ax⟩ := at_L3 am.out a1 aR aS; obtain rfl : aO = aY := (by injection bT); replace av := BD HB.out av; have aK := AM_ ax; have bF := AM_ aw; clear ax aw; replace aR := eq_true aR; replace aS := eq_true aS; have aT : 0 ≤ (aj : Int) := DT; have aU : aj < ((rd_L3 ab a1).length : Int) := DT; obtain ⟨ci, bU, ay, az, aA, aB, aC⟩ := at_T52 aK.out aj aT aU; cases bU; replace ay := BD HB.out ay; replace az := BD HB.out az; replace aA := BD HB.out aA; replace aB := BD HB.out aB; replace aC := BD HB.out aC; replace aT := eq_true aT; replace aU := eq_true aU; obtain ⟨bG, bH, bI, bJ, bK, bL, bM, bN, bO, bP⟩ := bk5 ac.out))
   refine bodyPost_ret (results_ct rfl _ _ ar 52 #[.int .i64 ((rd_T52 (rd_L3 ab a1) aj).f0), .int .i64 ((rd_T52 (rd_L3 ab a1) aj).f1), .int .i64 ((rd_T52 (rd_L3 ab a1) aj).f2), .int .i64 ((rd_T52 (rd_L3 ab a1) aj).f3), .int .i64 ((rd_T52 (rd_L3 ab a1) aj).f4)] (0, 0) _ rfl (by (with_reducible repeat (first | refine blk_drewN ?_ _ | refine blk_drew ?_ | refine blk_alloc ?_ _)); apply BP5; (with_reducible repeat (first | refine blk_drewN ?_ _ | refine blk_drew ?_ | refine blk_alloc ?_ _)); exact ac.out) Try.underlying52 rfl (by kernel_rfl)) rfl ?_
   exact QT (BT HB.out)

/-! ### spec_ChooseVersion: function 13 -/
def spec_ChooseVersion.f (k : Nat) (aa : List (List (S52))) (ae : Int) (ab : Int) (af : Int) (ac : Int) (ag : Int) (ah : Int) (ai : Int) (aj : List (S116)) (ak : List (S103)) (a2 : Int) : Option (Int × Int × Int × Int × Int × Int) := (spec_l12Good.f k aa ae ab af ac ag ah ai aj ak a2).bind fun al => (if al = true then (if 0 ≤ a2 then (if a2 < (aa.length : Int) then ((spec_LatestVersion.f k (rd_L3 aa a2)).bind fun bt683 => (if ab = 2 then ((spec_ReadAt.f k aa a2 ac).bind fun bt689 => (if bt689.2.2.2.2.2 = true then (some (bt689.1, bt689.2.1, bt689.2.2.1, bt689.2.2.2.1, bt689.2.2.2.2.1, 0)) else (some (0, 0, 0, 0, 0, 3)))) else (if ab = 4 then (if bt683.2.2.1 > ac then (some (0, 0, 0, 0, 0, 3)) else (some (bt683.1, bt683.2.1, bt683.2.2.1, bt683.2.2.2.1, bt683.2.2.2.2, 0))) else (some (bt683.1, bt683.2.1, bt683.2.2.1, bt683.2.2.2.1, bt683.2.2.2.2, 0))))) else (none)) else (none)) else (some (0, 0, 0, 0, 0, 6)))
theorem spec_ChooseVersion.mono : ∀ a0 a1 a2 a3 a4 a5 a6 a7 a8 a9 aa k, LeO (spec_ChooseVersion.f k a0 a1 a2 a3 a4 a5 a6 a7 a8 a9 aa) (spec_ChooseVersion.f (k + 1) a0 a1 a2 a3 a4 a5 a6 a7 a8 a9 aa) := by
 intro a0 a1 a2 a3 a4 a5 a6 a7 a8 a9 aa k
 unfold spec_ChooseVersion.f
 repeat' (with_reducible first | exact spec_LatestVersion.mono .. | exact spec_ReadAt.mono .. | exact spec_l12Good.mono .. | exact LeO.refl _ | exact LeO.none _ | refine LeO.ite ?_ ?_ | refine LeO.bind ?_ (fun _ => ?_))
theorem spec_ChooseVersion.calls (k : Nat) (aS : Option Addr) (aQ : Nat) (af : List (List (S52))) (au : Int) (ae : Int) (av : Int) (ag : Int) (aw : Int) (ax : Int) (ay : Int) (aT : Option Addr) (aU : Nat) (am : List (S116)) (aV : Option Addr) (aW : Nat) (an : List (S103)) (a2 : Int) (r1 : Int) (r2 : Int) (r3 : Int) (r4 : Int) (r5 : Int) (r6 : Int) (w : World) (bf : Kd.C (Kd.slice 52 k52) w aS af.length af) (bg : af.length ≤ aQ) (bh : Kd.C k116 w aT am.length am) (bi : am.length ≤ aU) (bj : Kd.C k103 w aV an.length an) (bk : an.length ≤ aW) (h : spec_ChooseVersion.f k af au ae av ag aw ax ay am an a2 = some (r1, r2, r3, r4, r5, r6)) :
  Calls Try.prog 13 #[.agg #[.slice aS af.length aQ], .agg #[.int .i64 au, .int .i64 ae, .int .i64 av, .int .i64 ag, .int .i64 aw, .int .i64 ax, .int .i64 ay, .slice aT am.length aU, .slice aV an.length aW], .int .i64 a2] w fun e w' => e = .returned (.tuple #[.agg #[.int .i64 r1, .int .i64 r2, .int .i64 r3, .int .i64 r4, .int .i64 r5], .int .i64 r6]) ∧ Below w.heap.size w w' := by
 have dX := Try.underlying34
 have dY := Try.underlying48
 have dZ := Try.underlying52
 have aR := AM_ bf
 have bm := AM_ bg
 clear bf bg
 have bv := AM_ bh
 have bw := AM_ bi
 clear bh bi
 have bx := AM_ bj
 have bz := AM_ bk
 clear bj bk
 have HB := AM_ (Below.refl w.heap.size w)
 have H : ((spec_l12Good.f k af au ae av ag aw ax ay am an a2).bind fun aX => (if aX = true then (if 0 ≤ a2 then (if a2 < (af.length : Int) then ((spec_LatestVersion.f k (rd_L3 af a2)).bind fun bt683 => (if ae = 2 then ((spec_ReadAt.f k af a2 ag).bind fun bt689 => (if bt689.2.2.2.2.2 = true then (some (bt689.1, bt689.2.1, bt689.2.2.1, bt689.2.2.2.1, bt689.2.2.2.2.1, 0)) else (some (0, 0, 0, 0, 0, 3)))) else (if ae = 4 then (if bt683.2.2.1 > ag then (some (0, 0, 0, 0, 0, 3)) else (some (bt683.1, bt683.2.1, bt683.2.2.1, bt683.2.2.2.1, bt683.2.2.2.2, 0))) else (some (bt683.1, bt683.2.1, bt683.2.2.1, bt683.2.2.2.1, bt683.2.2.2.2, 0))))) else (none)) else (none)) else (some (0, 0, 0, 0, 0, 6)))) = some (r1, r2, r3, r4, r5, r6) := h
 clear h
 obtain ⟨aX, A4, H⟩ := OB H
 go_enter Try.func13, Try.ntmps13
 go_upto_if 15 with (first | ((with_reducible refine G2 3 rfl ?_); refine BY 3 #[.slice aS af.length aQ] 34 HB ?_; clear HB; intro du d3 aa dv HB) | ((with_reducible refine G2 4 rfl ?_); refine BZ 4 #[.int .i64 au, .int .i64 ae, .int .i64 av, .int .i64 ag, .int .i64 aw, .int .i64 ax, .int .i64 ay, .slice aT am.length aU, .slice aV an.length aW] 48 HB ?_; clear HB; intro dw d4 hg hb ac dx HB; have az := NP aa hg; have aA := NQ aa hg; replace aa := BV aa hb; clear hb hg) | ((with_reducible refine G2 6 rfl ?_); refine BZ 6 #[.int .i64 0, .int .i64 0, .int .i64 0, .int .i64 0, .int .i64 0] 52 HB ?_; clear HB; intro ai d5 hg hb ab dy HB; have aB := NP aa hg; have aC := NQ aa hg; replace aa := BV aa hb; have aD := NP ac hg; have aE := NQ ac hg; replace ac := BV ac hb; clear hb hg; have dz := az.out; have dA := aA.out; have dB := aB.out; have dC := aC.out; obtain ⟨co, cp⟩ := bk1 aa.out; have dD := aD.out; have dE := aE.out; obtain ⟨cq, cr, cs, ct, cu, cv, cw, cx, cy, cz, cA, cB, cC, cD, cE, cF, cG, cH⟩ := bk9 ac.out) | ((with_reducible refine G1 58 rfl ?_); refine GC (some 14) Try.func58 #[.agg #[.slice aS af.length aQ], .agg #[.int .i64 au, .int .i64 ae, .int .i64 av, .int .i64 ag, .int .i64 aw, .int .i64 ax, .int .i64 ay, .slice aT am.length aU, .slice aV an.length aW], .int .i64 a2] ?_; (with_reducible refine MB (spec_l12Good.calls k _ _ af au ae av ag aw ax ay _ _ am _ _ an a2 aX _ (CC aR HB) bm.out (CC bv HB) bw.out (CC bx HB) bz.out A4.out) ?_); intro d6 hb; replace aa := BV aa hb; replace ac := BV ac hb; replace ab := BV ab hb; replace HB := BW HB hb; (try clear hb)))
 by_cases c5 : aX = true
 rotate_left
 ·replace c5 := Bool.eq_false_iff.mpr c5
  subst c5
  replace H := HF H
  simp only [Option.some.injEq, Prod.mk.injEq] at H
  obtain ⟨rfl, rfl, rfl, rfl, rfl, rfl⟩ := H
  obtain ⟨bA, bB, bC, bD, bE, bF, bG, bH, bI, bJ⟩ := bk5 ab.out
  try go_wp2
  refine bodyPost_ret (results_ct rfl _ _ ai 52 #[.int .i64 0, .int .i64 0, .int .i64 0, .int .i64 0, .int .i64 0] (0, 0) _ rfl (by (with_reducible repeat (first | refine blk_drewN ?_ _ | refine blk_drew ?_ | refine blk_alloc ?_ _)); apply BP5; (with_reducible repeat (first | refine blk_drewN ?_ _ | refine blk_drew ?_ | refine blk_alloc ?_ _)); exact ab.out) Try.underlying52 rfl (by kernel_rfl)) rfl ?_
  exact QT (BT HB.out)
 subst c5
 replace H := HT H
 replace H := HI H
 obtain ⟨c6, H⟩ := H
 have d0 := DE c6
 clear c6
 replace H := HI H
 obtain ⟨c7, H⟩ := H
 have d1 := DE c7
 clear c7
 obtain ⟨⟨aY, aZ, ao, ba, bb⟩, A8, H⟩ := OB H
 obtain ⟨cI, cJ⟩ := bk1 aa.out
 have bn : 0 ≤ (a2 : Int) := DT
 have bo : a2 < (af.length : Int) := DT
 obtain ⟨bK, bp, bq, dr, ap, aq, ar⟩ := at_L3 aR.out a2 bn bo
 cases dr
 replace ap := BD HB.out ap
 have bd := AM_ ar
 have be := AM_ aq
 clear ar aq
 replace bn := ET bn
 replace bo := ET bo
 go_upto_if 25 with (first | ((with_reducible refine G1 21 rfl ?_); refine GC (some 22) Try.func21 #[.slice bp (rd_L3 af a2).length bq] ?_; (with_reducible refine MB (spec_LatestVersion.calls k _ _ (rd_L3 af a2) aY aZ ao ba bb _ (CC bd HB) be.out A8.out) ?_); intro d7 hb; replace aa := BV aa hb; replace ac := BV ac hb; replace ab := BV ab hb; replace HB := BW HB hb; (try clear hb)) | ((with_reducible refine G2 8 rfl ?_); refine BZ 8 #[.int .i64 0, .int .i64 0, .int .i64 0, .int .i64 0, .int .i64 0] 52 HB ?_; clear HB; intro dF d8 hg hb ah dG HB; have aj := NP aa hg; have aF := NQ aa hg; replace aa := BV aa hb; have ak := NP ac hg; have aG := NQ ac hg; replace ac := BV ac hb; have al := NP ab hg; have aH := NQ ab hg; replace ab := BV ab hb; clear hb hg; have dH := aF.out; have dI := aj.out; have dJ := aG.out; have dK := ak.out; have dL := aH.out; have dM := al.out; obtain ⟨cK, cL, cM, cN, cO, cP, cQ, cR, cS, cT⟩ := bk5 ah.out; obtain ⟨bL, bM, bN, bO, bP, bQ, bR, bS, bT, bU, bV, bW, bX, bY, bZ, b0, b1, b2⟩ := bk9 ac.out))
 by_cases c9 : ae = 2
 ·rw [if_pos c9] at H
  have dt : (ae == 2) = true := beq_iff_eq.mpr c9
  have c9b1 : (ae != 2) = false := bne_eq_false_iff_eq.mpr c9
  clear c9
  obtain ⟨⟨b3, b4, b6, b7, b8, ca⟩, d2, H⟩ := OB H
  obtain ⟨cU, cV⟩ := bk1 aa.out
  go_upto_if 36 with (first | ((with_reducible refine G1 59 rfl ?_); refine GC (some 32) Try.func59 #[.agg #[.slice (some bK) af.length aQ], .int .i64 a2, .int .i64 ag] ?_; (with_reducible refine (spec_ReadAt.calls k _ _ af a2 ag b3 b4 b6 b7 b8 ca _ ?side1 bm.out d2.out).mono ?_); (case side1 => exact Kd.C_below aR.out (BT HB.out)); rintro e d9 ⟨rfl, hb⟩; refine ⟨_, rfl, ?_⟩; replace aa := AM_ (BF aa.out aj.out hb); replace ac := AM_ (BF ac.out ak.out hb); replace ab := AM_ (BF ab.out al.out hb); replace ah := AM_ (BP #[.int .i64 aY, .int .i64 aZ, .int .i64 ao, .int .i64 ba, .int .i64 bb] ah.out hb); replace HB := BW HB hb; (try clear hb)) | ((with_reducible refine G2 9 rfl ?_); refine BZ 9 #[.int .i64 0, .int .i64 0, .int .i64 0, .int .i64 0, .int .i64 0] 52 HB ?_; clear HB; intro dN ea hg hb cb dO HB; have aI := NP aa hg; have aJ := NQ aa hg; replace aa := BV aa hb; have aK := NP ac hg; have aL := NQ ac hg; replace ac := BV ac hb; have aM := NP ab hg; have aN := NQ ab hg; replace ab := BV ab hb; have aO := NP ah hg; have aP := NQ ah hg; replace ah := BV ah hb; clear hb hg; have dP := aJ.out; have dQ := aI.out; have dR := aL.out; have dS := aK.out; have dT := aN.out; have dU := aM.out; have dV := aP.out; have dW := aO.out; obtain ⟨cW, cX, cY, cZ, c2, da, db, dc, dd, de⟩ := bk5 cb.out; obtain ⟨df, dg, dh, di, dj, dk, dl, dm, dn, dp⟩ := bk5 ab.out))
  by_cases dq : ca = true
  ·subst dq
   replace H := HT H
   simp only [Option.some.injEq, Prod.mk.injEq] at H
   obtain ⟨rfl, rfl, rfl, rfl, rfl, rfl⟩ := H
   try go_wp2
   refine bodyPost_ret (results_ct rfl _ _ ai 52 #[.int .i64 b3, .int .i64 b4, .int .i64 b6, .int .i64 b7, .int .i64 b8] (0, 0) _ rfl (by (with_reducible repeat (first | refine blk_drewN ?_ _ | refine blk_drew ?_ | refine blk_alloc ?_ _)); apply BP5; exact BG1 ab) Try.underlying52 rfl (by kernel_rfl)) rfl ?_
   exact QT (BT HB.out)
  replace dq := Bool.eq_false_iff.mpr dq
  subst dq
  replace H := HF H
  simp only [Option.some.injEq, Prod.mk.injEq] at H
  obtain ⟨rfl, rfl, rfl, rfl, rfl, rfl⟩ := H
  try go_wp2
  refine bodyPost_ret (results_ct rfl _ _ ai 52 #[.int .i64 0, .int .i64 0, .int .i64 0, .int .i64 0, .int .i64 0] (0, 0) _ rfl (by (with_reducible repeat (first | refine blk_drewN ?_ _ | refine blk_drew ?_ | refine blk_alloc ?_ _)); apply BP5; exact BG1 ab) Try.underlying52 rfl (by kernel_rfl)) rfl ?_
  exact QT (BT HB.out)
 rw [if_neg c9] at H
 have dt : (ae == 2) = false := beq_eq_false_iff_ne.mpr c9
 have c9b1 : (ae != 2) = true := bne_iff_ne.mpr c9
 obtain ⟨cc, cd, ce, cf, cg, ch, ci, cj, ck, cl⟩ := bk5 ab.out
 by_cases br : ae = 4
 rotate_left
 ·rw [if_neg br] at H
  have cm : (ae == 4) = false := beq_eq_false_iff_ne.mpr br
  have c64b1 : (ae != 4) = true := bne_iff_ne.mpr br
  simp only [Option.some.injEq, Prod.mk.injEq] at H
  obtain ⟨rfl, rfl, rfl, rfl, rfl, rfl⟩ := H
  try go_wp2
  refine bodyPost_ret (results_ct rfl _ _ ai 52 #[.int .i64 aY, .int .i64 aZ, .int .i64 ao, .int .i64 ba, .int .i64 bb] (0, 0) _ rfl (by (with_reducible repeat (first | refine blk_drewN ?_ _ | refine blk_drew ?_ | refine blk_alloc ?_ _)); apply BP5; exact BG1 ab) Try.underlying52 rfl (by kernel_rfl)) rfl ?_
  exact QT (BT HB.out)
 rw [if_pos br] at H
 have cm : (ae == 4) = true := beq_iff_eq.mpr br
 have c64b1 : (ae != 4) = false := bne_eq_false_iff_eq.mpr br
 clear br
 by_cases bu : ao > ag
 ·rw [if_pos bu] at H
  have cn : decide (ag < ao) = true := DE bu
  clear bu
  simp only [Option.some.injEq, Prod.mk.injEq] at H
  obtain ⟨rfl, rfl, rfl, rfl, rfl, rfl⟩ := H
  try go_wp2
  refine bodyPost_ret (results_ct rfl _ _ ai 52 #[.int .i64 0, .int .i64 0, .int .i64 0, .int .i64 0, .int .i64 0] (0, 0) _ rfl (by (with_reducible repeat (first | refine blk_drewN ?_ _ | refine blk_drew ?_ | refine blk_alloc ?_ _)); apply BP5; exact BG1 ab) Try.underlying52 rfl (by kernel_rfl)) rfl ?_
  exact QT (BT HB.out)
 rw [if_neg bu] at H
 have cn : decide (ag < ao) = false := decide_eq_false bu
 clear bu
 simp only [Option.some.injEq, Prod.mk.injEq] at H
 obtain ⟨rfl, rfl, rfl, rfl, rfl, rfl⟩ := H
 try go_wp2
 refine bodyPost_ret (results_ct rfl _ _ ai 52 #[.int .i64 aY, .int .i64 aZ, .int .i64 ao, .int .i64 ba, .int .i64 bb] (0, 0) _ rfl (by (with_reducible repeat (first | refine blk_drewN ?_ _ | refine blk_drew ?_ | refine blk_alloc ?_ _)); apply BP5; exact BG1 ab) Try.underlying52 rfl (by kernel_rfl)) rfl ?_
 exact QT (BT HB.out)

/-! ### impl_Store_latest: function 97 -/
def impl_Store_latest.f (aa : List (List (S52))) (a1 : Int) : Option (Int × Int × Int × Int × Int) := if 0 ≤ a1 then (if a1 < (aa.length : Int) then (if 0 ≤ (wrap64 (((rd_L3 aa a1).length : Int) - 1)) then (if (wrap64 (((rd_L3 aa a1).length : Int) - 1)) < ((rd_L3 aa a1).length : Int) then (some ((rd_T52 (rd_L3 aa a1) (wrap64 (((rd_L3 aa a1).length : Int) - 1))).f0, (rd_T52 (rd_L3 aa a1) (wrap64 (((rd_L3 aa a1).length : Int) - 1))).f1, (rd_T52 (rd_L3 aa a1) (wrap64 (((rd_L3 aa a1).length : Int) - 1))).f2, (rd_T52 (rd_L3 aa a1) (wrap64 (((rd_L3 aa a1).length : Int) - 1))).f3, (rd_T52 (rd_L3 aa a1) (wrap64 (((rd_L3 aa a1).length : Int) - 1))).f4)) else (none)) else (none)) else (none)) else (none)
/-- Where the latest version of a key lies: known from the rows, at any world. -/
theorem impl_Store_latest_at {w : World} {ab : Option Addr} {aa : List (List (S52))} {a1 r1 r2 r3 r4 r5 : Int} (ac : Kd.C (Kd.slice 52 k52) w ab aa.length aa) (h : impl_Store_latest.f aa a1 = some (r1, r2, r3, r4, r5)) :
  0 ≤ a1 ∧ a1 < (aa.length : Int) ∧ 0 ≤ wrap64 (((rd_L3 aa a1).length : Int) - 1) ∧ wrap64 (((rd_L3 aa a1).length : Int) - 1) < ((rd_L3 aa a1).length : Int) ∧ ∃ ad adI c, ab = some ad ∧ w.cell? (ad.add (a1 : Int).toNat) = some (.slice (some adI) (rd_L3 aa a1).length c) ∧ (rd_L3 aa a1).length ≤ c ∧ w.cell? (adI.add ((wrap64 (((rd_L3 aa a1).length : Int) - 1)).toNat * 5)) = some (.int .i64 r1) ∧ w.cell? ⟨(adI.add ((wrap64 (((rd_L3 aa a1).length : Int) - 1)).toNat * 5)).block, (adI.add ((wrap64 (((rd_L3 aa a1).length : Int) - 1)).toNat * 5)).off + 1, none⟩ = some (.int .i64 r2) ∧ w.cell? ⟨(adI.add ((wrap64 (((rd_L3 aa a1).length : Int) - 1)).toNat * 5)).block, (adI.add ((wrap64 (((rd_L3 aa a1).length : Int) - 1)).toNat * 5)).off + 2, none⟩ = some (.int .i64 r3) ∧ w.cell? ⟨(adI.add ((wrap64 (((rd_L3 aa a1).length : Int) - 1)).toNat * 5)).block, (adI.add ((wrap64 (((rd_L3 aa a1).length : Int) - 1)).toNat * 5)).off + 3, none⟩ = some (.int .i64 r4) ∧ w.cell? ⟨(adI.add ((wrap64 (((rd_L3 aa a1).length : Int) - 1)).toNat * 5)).block, (adI.add ((wrap64 (((rd_L3 aa a1).length : Int) - 1)).toNat * 5)).off + 4, none⟩ = some (.int .i64 r5) := by
 unfold impl_Store_latest.f at h
 by_cases c3 : 0 ≤ a1
 rotate_left
 ·rw [if_neg c3] at h; exact absurd h (by simp)
 rw [if_pos c3] at h
 by_cases c4 : a1 < (aa.length : Int)
 rotate_left
 ·rw [if_neg c4] at h; exact absurd h (by simp)
 rw [if_pos c4] at h
 by_cases c6 : 0 ≤ wrap64 (((rd_L3 aa a1).length : Int) - 1)
 rotate_left
 ·rw [if_neg c6] at h; exact absurd h (by simp)
 rw [if_pos c6] at h
 by_cases c7 : wrap64 (((rd_L3 aa a1).length : Int) - 1) < ((rd_L3 aa a1).length : Int)
 rotate_left
 ·rw [if_neg c7] at h; exact absurd h (by simp)
 rw [if_pos c7] at h
 simp only [Option.some.injEq, Prod.mk.injEq] at h
 obtain ⟨rfl, rfl, rfl, rfl, rfl⟩ := h
 obtain ⟨ad, A1, c1, e1, hx, hl, hi⟩ := at_L3 ac a1 c3 c4
 obtain ⟨adI, e2, h0, h1, h2, h3, h4⟩ := at_T52 hi _ c6 c7
 subst e2
 exact ⟨c3, c4, c6, c7, ad, adI, c1, e1, hx, hl, h0, h1, h2, h3, h4⟩
theorem impl_Store_latest.calls (ad adI : Addr) (c ac : Nat) (aa : List (List (S52))) (a1 : Int) (w : World) (c3 : 0 ≤ a1) (c4 : a1 < (aa.length : Int)) (c6 : 0 ≤ wrap64 (((rd_L3 aa a1).length : Int) - 1)) (c7 : wrap64 (((rd_L3 aa a1).length : Int) - 1) < ((rd_L3 aa a1).length : Int)) (hx : w.cell? (ad.add (a1 : Int).toNat) = some (.slice (some adI) (rd_L3 aa a1).length c)) :
  Calls Try.prog 97 #[.agg #[.slice (some ad) aa.length ac], .int .i64 a1] w fun e w' => e = .returned (.pointer (some (adI.add ((wrap64 (((rd_L3 aa a1).length : Int) - 1)).toNat * 5)))) ∧ Below w.heap.size w w' := by
 have ag := Try.underlying34
 have ah := Try.underlying52
 have HX := AM_ hx
 clear hx
 have HB := AM_ (Below.refl w.heap.size w)
 have ai := DE c3
 have aj := DE c4
 obtain ⟨ae, ab⟩ : ∃ j_ : Int, (wrap64 (((rd_L3 aa a1).length : Int) - 1)) = j_ := ⟨_, rfl⟩
 rw [ab] at c6 c7
 have hji5w : (IntKind.i64.wrap (((rd_L3 aa a1).length : Int) - 1)) = ae := (i64_w _).trans ab
 have ak : decide (0 ≤ (ae)) = true := DE c6
 have al : decide ((ae) < ((rd_L3 aa a1).length : Int)) = true := DE c7
 rw [ab]
 have p1 := ET c3
 have p2 := ET c4
 have p3 := ET c6
 have p4 := ET c7
 clear c3 c4 c6 c7
 go_enter Try.func97, Try.ntmps97
 go_wp2_with (first | ((with_reducible refine G2 2 rfl ?_); refine BX 2 #[.slice (some ad) aa.length ac] 34 ?_; intro am hg w8 hbox hb; have af : w8.cell? ⟨am, 0, none⟩ = some (.slice (some ad) aa.length ac) := (blk_cell hbox 0).trans rfl; have an : w8.cell? (ad.add (a1 : Int).toNat) = some (.slice (some adI) (rd_L3 aa a1).length c) := (hb.cell (World.block_lt_of_cell? w _ HX.out)).trans HX.out; replace HB := AM_ (below_step HB.out hb); clear hb hbox hg))
 go_ret
 exact ⟨by first | rfl | (simp [errW_none, errW_some] <;> rfl) | (simp only [← ab]; first | rfl | (simp [errW_none, errW_some] <;> rfl)) | (simp [*, errW_none, errW_some] <;> rfl), BT HB.out⟩

end Go.Proofs.Ytdgknikgfjhohaa.PFnSchemes
