-- Printed by wip/myprint.py.
import Derived.Test.YtdgknikgfjhohaaPFnSchemesx4
import Derived.Test.YtdgknikgfjhohaaPFnSchemesx5
namespace Go.Proofs.Ytdgknikgfjhohaa.PFnSchemes
open Go.RowKit Go.Proofs.YtdgknikgfjhohaaW.PrintWords Go.Proofs.YtdgknikgfjhohaaW.PrintLast Go.Proofs.YtdgknikgfjhohaaW.PrintMore
set_option maxHeartbeats 8000000
set_option maxRecDepth 100000
set_option linter.unusedVariables false
set_option linter.unusedSimpArgs false
attribute [local go_sem high] eqA116

/-! ### spec_l5PutRead: function 123 -/
def spec_l5PutRead.l0 : Nat → List (S116) → Int → Int → Int → Option ((List (S116)))
 | 0, _, _, _, _ => none
 | k + 1, x0, x5, aa, ab => if x5 < (x0.length : Int) then (if 0 ≤ x5 then ((spec_l5Before.f ((rd_T116 x0 x5).f0) ((rd_T116 x0 x5).f1) aa ab).bind fun ap => (if ap = true then (spec_l5PutRead.l0 k x0 (wrap64 (x5 + 1)) aa ab) else (if (((rd_T116 x0 x5).f0) == aa && (((rd_T116 x0 x5).f1) == ab)) = true then ((some (([] : List (S116)) : List (S116))).bind fun ac => (if ac.length + x0.length < 8796093022208 then (some (ac ++ x0)) else (none))) else ((some (([] : List (S116)) : List (S116))).bind fun ad => (if x5 ≤ (x0.length : Int) then ((some (x0.take (x5 : Int).toNat : List (S116))).bind fun ae => (if ad.length + ae.length < 8796093022208 then ((some (ad ++ ae : List (S116))).bind fun af => ((some (([(⟨aa, ab⟩ : S116)] : List (S116)) : List (S116))).bind fun ag => (if af.length + ag.length < 8796093022208 then ((some (af ++ ag : List (S116))).bind fun ah => ((some (x0.drop (x5 : Int).toNat : List (S116))).bind fun ai => (if ah.length + ai.length < 8796093022208 then (some (ah ++ ai)) else (none)))) else (none)))) else (none))) else (none)))))) else (none)) else ((some (([] : List (S116)) : List (S116))).bind fun aj => (if 0 ≤ x5 then (if x5 ≤ (x0.length : Int) then ((some (x0.take (x5 : Int).toNat : List (S116))).bind fun ak => (if aj.length + ak.length < 8796093022208 then ((some (aj ++ ak : List (S116))).bind fun al => ((some (([(⟨aa, ab⟩ : S116)] : List (S116)) : List (S116))).bind fun am => (if al.length + am.length < 8796093022208 then ((some (al ++ am : List (S116))).bind fun an => ((some (x0.drop (x5 : Int).toNat : List (S116))).bind fun ao => (if an.length + ao.length < 8796093022208 then (some (an ++ ao)) else (none)))) else (none)))) else (none))) else (none)) else (none)))
def spec_l5PutRead.f (k : Nat) (l0 : List (S116)) (aa : Int) (ab : Int) : Option ((List (S116))) := spec_l5PutRead.l0 k l0 0 aa ab
theorem spec_l5PutRead.mono_l : ∀ k, (∀ y0 y1 y2 y3, LeO (spec_l5PutRead.l0 k y0 y1 y2 y3) (spec_l5PutRead.l0 (k + 1) y0 y1 y2 y3))
 | 0 => fun _ _ _ _ r h => by simp [spec_l5PutRead.l0] at h
 | k + 1 => by
  have aa := spec_l5PutRead.mono_l k
  all_goals intros; unfold spec_l5PutRead.l0
  all_goals repeat' (with_reducible first | exact aa .. | exact LeO.refl _ | exact LeO.none _ | refine LeO.ite ?_ ?_ | refine LeO.bind ?_ (fun _ => ?_))
theorem spec_l5PutRead.mono : ∀ a0 a1 a2 k, LeO (spec_l5PutRead.f k a0 a1 a2) (spec_l5PutRead.f (k + 1) a0 a1 a2) := by
 intro a0 a1 a2 k
 have aa := spec_l5PutRead.mono_l k
 unfold spec_l5PutRead.f
 repeat' (with_reducible first | exact aa .. | exact LeO.refl _ | exact LeO.none _ | refine LeO.ite ?_ ?_ | refine LeO.bind ?_ (fun _ => ?_))
def spec_l5PutRead.T2 : Bool × List (List Nat × List Nat) := (true, [([], []), ([], []), ([1], [1]), ([0, 2], [0, 2]), ([3], [3]), ([4], [4]), ([4], [4]), ([5, 6, 4], [4, 5, 6]), ([7, 4], [4, 7]), ([4], [4]), ([8, 9, 4, 4], [4, 8, 9]), ([4, 10], [4, 10])])
def spec_l5PutRead.B2 : List Nat := [0, 0, 2, 7, 15, 31, 31, 127, 255, 31, 1023, 2047]
theorem spec_l5PutRead.tab2 : rtab .any (opsOf Try.f123 2) = spec_l5PutRead.T2 := by kernel_rfl
theorem spec_l5PutRead.bits2 : waitsOk spec_l5PutRead.T2.2 spec_l5PutRead.B2 = true := by kernel_rfl
def spec_l5PutRead.T4 : Bool × List (List Nat × List Nat) := (true, [([], []), ([], []), ([1], [1]), ([0, 2], [0, 2]), ([3], [3]), ([4], [4]), ([4], [4]), ([5, 6, 4], [4, 5, 6]), ([7, 4], [4, 7]), ([4], [4]), ([8, 9, 4], [4, 8, 9]), ([4, 10], [4, 10])])
def spec_l5PutRead.B4 : List Nat := [0, 0, 2, 7, 15, 31, 31, 127, 255, 31, 1023, 2047]
theorem spec_l5PutRead.tab4 : rtab .any (opsOf Try.f123 4) = spec_l5PutRead.T4 := by kernel_rfl
theorem spec_l5PutRead.bits4 : waitsOk spec_l5PutRead.T4.2 spec_l5PutRead.B4 = true := by kernel_rfl
def spec_l5PutRead.T6 : Bool × List (List Nat × List Nat) := (true, [([], []), ([], []), ([], []), ([1, 2], [1, 2]), ([0, 3], [0, 3]), ([], []), ([5], [5]), ([4, 6, 4], [4, 6]), ([], []), ([], []), ([8, 9], [8, 9]), ([7, 10, 7], [7, 10]), ([11, 11, 0, 1, 2, 3, 4, 5, 6, 7, 8, 9, 10, 11], [11])])
def spec_l5PutRead.B6 : List Nat := [0, 0, 0, 6, 15, 0, 32, 127, 0, 0, 768, 2047, 4095]
theorem spec_l5PutRead.tab6 : rtab .any (opsOf Try.f123 6) = spec_l5PutRead.T6 := by kernel_rfl
theorem spec_l5PutRead.bits6 : waitsOk spec_l5PutRead.T6.2 spec_l5PutRead.B6 = true := by kernel_rfl
theorem spec_l5PutRead.calls (k : Nat) (A0 : Option Addr) (c0 : Nat) (l0 : List (S116)) (ae : Int) (af : Int) (r : List (S116)) (w : World) (cK : Kd.C k116 w A0 l0.length l0) (cL : l0.length ≤ c0) (h : spec_l5PutRead.f k l0 ae af = some r) :
  Calls Try.prog 123 #[.slice A0 l0.length c0, .agg #[.int .i64 ae, .int .i64 af]] w fun e w' => ∃ cM : Value, e = .returned (cM) ∧ Kd.R k116 116 w' w.heap.size (fun _ => True) cM r ∧ Below w.heap.size w w' := by
 have cN := Try.underlying116
 have bw := AM_ cK
 have cv := AM_ cL
 clear cK cL
 have HB := AM_ (Below.refl w.heap.size w)
 unfold spec_l5PutRead.f at h
 have H := h
 clear h
 have H' := AM_ H
 clear H
 go_enter Try.func123, Try.ntmps123
 go_wp2_with (first | ((with_reducible refine G2 3 rfl ?_); refine BY 3 #[.int .i64 ae, .int .i64 af] 116 HB ?_; clear HB; intro ad w3 aa cO HB))
 go_loopg [5] k (fun kq v5 w' => ∃ (ab : Int), v5 = .int .i64 ab ∧ Aside0 (spec_l5PutRead.l0 kq l0 ab ae af = some r) ∧ Aside0 (kq ≤ k) ∧ Aside0 (w'.heap[ad]? = some (.cells #[.int .i64 ae, .int .i64 af] 116 (0, 0))) ∧ Aside0 (Below w.heap.size w w'))
 case atStart => exact ⟨(0), (by first | rfl | (simp; done) | (simp [*]; done)), H', ⟨Nat.le_refl _⟩, ⟨BH aa.out⟩, ⟨BT HB.out⟩⟩
 case round =>
  clear H'
  obtain ⟨ab, rfl, HA, cP, aa, HB⟩ := hrel
  cases gk with
  | zero => exact absurd HA.out (by simp [spec_l5PutRead.l0])
  | succ k1 =>
   have H := HA.out
   clear HA
   simp only [spec_l5PutRead.l0] at H
   by_cases c4 : ab < (l0.length : Int)
   rotate_left
   ·rw [if_neg c4] at H
    have cw := decide_eq_false c4
    clear c4
    obtain ⟨bY, bA, H⟩ := OY H
    have a4 := AM_ bA
    clear bA
    replace H := HI H
    obtain ⟨cx, H⟩ := H
    have cQ := ET cx
    have c40b1 : decide (0 ≤ ab) = true := DE cx
    clear cx
    replace H := HI H
    obtain ⟨cy, H⟩ := H
    have cR := ET cy
    have c41b1 : decide (ab ≤ (l0.length : Int)) = true := DE cy
    clear cy
    obtain ⟨ba, bB, H⟩ := OY H
    have bC := AM_ bB
    clear bB
    replace H := HI H
    obtain ⟨cS, H⟩ := H
    have LMc42 := AM_ cS
    clear cS
    obtain ⟨bZ, bD, H⟩ := OY H
    have bb := AM_ bD
    clear bD
    obtain ⟨bd, bE, H⟩ := OY H
    have aK := AM_ bE
    clear bE
    replace H := HI H
    obtain ⟨cT, H⟩ := H
    have LMc43 := AM_ cT
    clear cT
    obtain ⟨cd, bF, H⟩ := OY H
    have ce := AM_ bF
    clear bF
    have cU := eq_true (DT : 0 ≤ ab)
    have cV := eq_true (DT : ab ≤ (l0.length : Int))
    obtain ⟨aW, bG, H⟩ := OY H
    have bH := AM_ bG
    clear bG
    replace H := HI H
    obtain ⟨cW, H⟩ := H
    have LMc46 := AM_ cW
    clear cW
    obtain ⟨dh, be⟩ : ∃ y_ : List (S116), y_ = (cd ++ aW) := ⟨_, rfl⟩
    rw [← be] at H
    have cf := AM_ be
    clear be
    obtain rfl := SI H
    try go_wp2
    replace aa := BD1 aa
    replace HB := BD2 HB
    refine start_ (n := 12) (S := fun w' => True) (ds := []) (lo 0 12) (by kernel_rfl) rfl rfl trivial (fun ac => ?_); refine with_tabW spec_l5PutRead.tab2 spec_l5PutRead.bits2 (fun al aX => ?_)
    generalize wr.drew = di at aa HB ac ⊢
    iterate 12 first | refine PS al ?_ | refine PT al ?_
    refine done_ (done_of al.out (by kernel_rfl)) ?_
    try go_wp2
    replace aa := BD1 aa
    replace HB := BD2 HB
    refine start_ (n := 12) (S := fun w' => True) (ds := []) (lo 0 12) (by kernel_rfl) rfl rfl trivial (fun ac => ?_); refine with_tabW spec_l5PutRead.tab4 spec_l5PutRead.bits4 (fun al aX => ?_)
    generalize di.drew = dj at aa HB ac ⊢
    iterate 12 first | refine PS al ?_ | refine PT al ?_
    refine done_ (done_of al.out (by kernel_rfl)) ?_
    try go_wp2
    replace aa := BD1 aa
    replace HB := BD2 HB
    have cz : (ab : Int) ≤ ((l0.length : Int) : Int) := DT
    obtain ⟨i050, bI, _, hsz50, _⟩ := info_parts info116
    have hroom50 : l0.length ≤ c0 := cv.out
    have hC50 : Kd.C k116 _ A0 l0.length l0 := bw.out
    have hcut50 := cut_to (P := Try.prog) 45 116 .i64 Try.underlying45 bI A0 l0.length c0 ab (DT) cz hroom50
    have b0 := Kd.C_take (m := (ab : Int).toNat) hC50 (by omega)
    have b1 : ba.length = (ab : Int).toNat := (by rw [bC.out, List.length_take]; omega)
    rw [← bC.out] at b0
    rw [← b1] at hcut50
    have a5 := AM_ b0
    have cX := AM_ (show ba.length ≤ c0 from by omega)
    clear b0 hC50 hroom50 bI hsz50
    have KY50 := AM_ b1
    clear b1
    replace cz := ET cz
    have cA : (ab : Int) ≤ ((l0.length : Int) : Int) := DT
    obtain ⟨i051, bJ, _, hsz51, _⟩ := info_parts info116
    have hroom51 : l0.length ≤ c0 := cv.out
    have hC51 : Kd.C k116 _ A0 l0.length l0 := bw.out
    have cB : (0 : Int) ≤ (ab : Int) := DT
    have hcut51 := cut_from (P := Try.prog) 45 116 .i64 Try.underlying45 bJ 2 hsz51 A0 l0.length c0 ab cB cA
    have bf := Kd.C_drop (m := (ab : Int).toNat) (c := c0) hC51 (by omega) hroom51
    obtain ⟨dk, hA51⟩ : ∃ A1, A1 = (if c0 = (ab : Int).toNat then A0 else (A0 : Option Addr).map (·.add ((ab : Int).toNat * 2))) := ⟨_, rfl⟩
    obtain ⟨dl, b2⟩ : ∃ c1, c1 = c0 - (ab : Int).toNat := ⟨_, rfl⟩
    have bx : aW.length = l0.length - (ab : Int).toNat := (by rw [bH.out, List.length_drop] <;> omega)
    rw [show (l0).drop (ab : Int).toNat = aW from bH.out.symm] at bf
    replace bf : Kd.C k116 _ dk aW.length aW := (by rw [hA51]; exact bf)
    rw [← bx, ← hA51, ← b2] at hcut51
    have bK := AM_ bf
    have cY := AM_ (show aW.length ≤ dl from by rw [bx, b2]; exact Nat.sub_le_sub_right hroom51 _)
    clear bf hC51 hroom51 bJ hsz51 b2
    have KY51 := AM_ bx
    have KA51 := AM_ hA51
    clear bx hA51
    replace cA := ET cA
    refine start_ (n := 13) (S := fun w' => w'.cell? ⟨ad, 0, none⟩ = some (.int .i64 ae) ∧ w'.cell? ⟨ad, 1, none⟩ = some (.int .i64 af)) (ds := []) (lo 0 13) (by kernel_rfl) rfl rfl ⟨bc aa.out 0, bc aa.out 1⟩ (fun ac => ?_); refine with_tabW spec_l5PutRead.tab6 spec_l5PutRead.bits6 (fun al aX => ?_)
    generalize dj.drew = dD at aa HB a5 bK ac ⊢
    refine PV 1 (some 36) (bs 2 13) al ?_
    refine PV 2 (some 37) (bs 6 13) al ?_
    refine PV 3 (some 38) (bs 14 13) al ?_
    refine PV 8 (some 43) (bs 270 13) al ?_
    refine PV 9 (some 44) (bs 782 13) al ?_
    refine PV 10 (some 45) (bs 1806 13) al ?_
    refine TX 5 (some 40) (bs 1838 13) al aX ac ?_
    refine join_ (σ := Value × Value × Value) 3 (bs 1919 13) (fun s_ => [(35, s_.1), (39, s_.2.1), (41, s_.2.2)]) (fun s_ w' => (w'.cell? ⟨ad, 0, none⟩ = some (.int .i64 ae) ∧ w'.cell? ⟨ad, 1, none⟩ = some (.int .i64 af)) ∧ (Kd.R k116 116 w' w.heap.size (fun k_ => some k_ ≠ (s_.2.2 : Value).ownBlock ∧ k_ ≠ ad) s_.2.1 bZ) ∧ (Kd.R k116 116 w' w.heap.size (fun k_ => some k_ ≠ (s_.2.1 : Value).ownBlock ∧ k_ ≠ ad) s_.2.2 bd) ∧ (w'.heap[ad]? = some (.cells #[.int .i64 ae, .int .i64 af] 116 (0, 0))) ∧ (Below w.heap.size w w')) ?_ ?_
    rotate_left
    ·intro hCont
     refine two_ (i := 0) (j := 6) (Ni := some 35) (Nj := some 41) (bs 1839 13) (bs 1902 13) rfl rfl rfl rfl (two_of al.out (by kernel_rfl)) (by decide) (by decide) (fun K hK => ?_) (fun K hK => ?_)
     ·skip
      refine Kd.R_lit_step k116 _ 116 ?hg (N := 35) ?hd (xs := ([] : List (S116))) (inner := []) (ok := fun _ => True) (okp := fun _ => True) ?hr ?hp (fun _ hk => hk) trivial (Below.refl _ _) (Nat.le_refl _) (by simp) ?_; (case hd => rfl); (case hg => rfl); (case hr => first | (go_simp; done) | (go_simp; rfl)); (case hp => exact (Reps.none _ _))
      intro aU dm aD hb hg_ hnew_
      clear hg_ hnew_
      (first | rw [← a4.out] at aD | (simp only [Int.reduceToNat] at aD; rw [← a4.out] at aD))
      have aq := AM_ (Kd.R_lower (Kd.R_newB aD (BG1 aa)) (below_size (BT HB.out)))
      replace aa := BV aa hb
      replace HB := BW HB hb
      clear hb aD
      refine hK.out _ _ ⟨bc aa.out 0, bc aa.out 1⟩ (fun ac => ?_)
      clear hK K
      refine NM 35 ?_
      refine two_ (i := 4) (j := 6) (Ni := some 39) (Nj := some 41) (bs 1855 13) (bs 1903 13) rfl rfl rfl rfl (two_of al.out (by kernel_rfl)) (by decide) (by decide) (fun K hK => ?_) (fun K hK => ?_)
      ·skip
       refine Kd.R_append_rows_step k116 (w0 := w) w.heap.size (by rfl) (.tmp 35) (.tmp 38) 45 116 (.agg #[(.int .i64 0), (.int .i64 0)]) 16 rfl Try.underlying45 info116 rfl (by decide) (by omega) aU bY ba _ _ _ (fun k_ => k_ ≠ ad) (fun _ => False) rfl rfl ?aO ?aR (fun _ _ h => h) (fun _ h => h.elim) ?aF ?aB ?aS ?aL ?_
       (case aR => exact CB a5.out HB.out)
       (case aB => exact (BT HB.out))
       (case aF => exact (fun k_ hk => Kd.freshB (BG1 aa) k_ hk))
       (case aO => exact (by (with_reducible repeat (first | apply Kd.R_alloc | apply Kd.R_drewN | apply Kd.R_drew)); exact Kd.R_mono aq.out (fun _ hk => hk.2)))
       (case aS => exact (below_size (BT HB.out)))
       (case aL => have := LMc42.out; omega)
       intro aN cZ ho hb hg hat
       rw [← bb.out] at ho
       have au := AM_ (blk_grown (BG1 aa) hg (Kd.R_away aq.out (fun _ hk => hk.2)))
       have av := AM_ (hb)
       have aw := AM_ (ho)
       clear aa
       clear HB
       clear aq
       have aa := au
       have HB := av
       have ax := aw
       clear au av aw
       clear ho hb hg hat
       refine hK.out _ _ ⟨bc aa.out 0, bc aa.out 1⟩ (fun ac => ?_)
       clear hK K
       refine NM 39 ?_
       refine one_ (i := 6) (N := some 41) (bs 1919 13) rfl rfl (one_of al.out (by kernel_rfl)) (by decide) (fun K hK => ?_)
       refine Kd.R_lit_step k116 _ 116 ?hg (N := 41) ?hd (xs := ([(⟨ae, af⟩ : S116)] : List (S116))) (inner := [.int .i64 ae, .int .i64 af]) (ok := fun _ => True) (okp := fun _ => True) ?hr ?hp (fun _ hk => hk) trivial (Below.refl _ _) (Nat.le_refl _) (by simp) ?_; (case hd => rfl); (case hg => rfl); (case hr => first | (go_simp; done) | (go_simp; rfl)); (case hp => exact (Reps.c2 (show Kd.M k116 _ _ _ (⟨ae, af⟩ : S116) [.int .i64 ae, .int .i64 af] from (k116_mkM _ _ _ (⟨ae, af⟩ : S116) )) (Reps.none _ _)))
       intro aI dE a8 hb hg_ hnew_
       clear hg_ hnew_
       (first | rw [← aK.out] at a8 | (simp only [Int.reduceToNat] at a8; rw [← aK.out] at a8))
       have ag := AM_ (Kd.R_lower (Kd.R_newB (Kd.R_new' a8 (Kd.R_lt (RT ax.out))) (BG1 aa)) (below_size (BT HB.out)))
       replace ax := AM_ (Kd.R_elder' (RT ax.out) (Kd.R_base a8) hb)
       replace aa := BV aa hb
       replace HB := BW HB hb
       clear hb a8
       refine hK.out _ _ ⟨bc aa.out 0, bc aa.out 1⟩ (fun ac => ?_)
       clear hK K
       refine NM 41 ?_
       exact NR (hCont (aU, aN, aI) _ ⟨ac, (by (with_reducible repeat (first | apply Kd.R_alloc | apply Kd.R_drewN | apply Kd.R_drew)); exact Kd.R_mono ax.out (fun _ hk => ⟨hk.2, hk.1⟩)), (by (with_reducible repeat (first | apply Kd.R_alloc | apply Kd.R_drewN | apply Kd.R_drew)); exact Kd.R_mono ag.out (fun _ hk => ⟨hk.1.2, hk.2⟩)), (BG1 aa), (BT HB.out)⟩)
      ·skip
       refine Kd.R_lit_step k116 _ 116 ?hg (N := 41) ?hd (xs := ([(⟨ae, af⟩ : S116)] : List (S116))) (inner := [.int .i64 ae, .int .i64 af]) (ok := fun _ => True) (okp := fun _ => True) ?hr ?hp (fun _ hk => hk) trivial (Below.refl _ _) (Nat.le_refl _) (by simp) ?_; (case hd => rfl); (case hg => rfl); (case hr => first | (go_simp; done) | (go_simp; rfl)); (case hp => exact (Reps.c2 (show Kd.M k116 _ _ _ (⟨ae, af⟩ : S116) [.int .i64 ae, .int .i64 af] from (k116_mkM _ _ _ (⟨ae, af⟩ : S116) )) (Reps.none _ _)))
       intro aI cZ aA hb hg_ hnew_
       clear hg_ hnew_
       (first | rw [← aK.out] at aA | (simp only [Int.reduceToNat] at aA; rw [← aK.out] at aA))
       have ag := AM_ (Kd.R_lower (Kd.R_newB (Kd.R_new' aA (Kd.R_lt (RT aq.out))) (BG1 aa)) (below_size (BT HB.out)))
       replace aq := AM_ (Kd.R_elder' (RT aq.out) (Kd.R_base aA) hb)
       replace aa := BV aa hb
       replace HB := BW HB hb
       clear hb aA
       refine hK.out _ _ ⟨bc aa.out 0, bc aa.out 1⟩ (fun ac => ?_)
       clear hK K
       refine NM 41 ?_
       refine one_ (i := 4) (N := some 39) (bs 1919 13) rfl rfl (one_of al.out (by kernel_rfl)) (by decide) (fun K hK => ?_)
       refine Kd.R_append_rows_step k116 (w0 := w) w.heap.size (by rfl) (.tmp 35) (.tmp 38) 45 116 (.agg #[(.int .i64 0), (.int .i64 0)]) 16 rfl Try.underlying45 info116 rfl (by decide) (by omega) aU bY ba _ _ _ (fun k_ => some k_ ≠ (aI : Value).ownBlock ∧ k_ ≠ ad) (fun _ => False) rfl rfl ?aO ?aR (fun _ _ h => h) (fun _ h => h.elim) ?aF ?aB ?aS ?aL ?_
       (case aR => exact CB a5.out HB.out)
       (case aB => exact (BT HB.out))
       (case aF => exact (fun k_ hk => ⟨Kd.fresh' (Kd.R_lt (RT ag.out)) k_ hk, Kd.freshB (BG1 aa) k_ hk⟩))
       (case aO => exact (by (with_reducible repeat (first | apply Kd.R_alloc | apply Kd.R_drewN | apply Kd.R_drew)); exact Kd.R_mono aq.out (fun _ hk => ⟨hk.2, hk.1.2⟩)))
       (case aS => exact (below_size (BT HB.out)))
       (case aL => have := LMc42.out; omega)
       intro aN dn ho hb hg hat
       rw [← bb.out] at ho
       have au := AM_ (blk_grown (BG1 aa) hg (Kd.R_away aq.out (fun _ hk => hk.1.2)))
       have av := AM_ (Kd.R_after (ok := (fun k_ => k_ ≠ ad)) (by (with_reducible repeat (first | apply Kd.R_alloc | apply Kd.R_drewN | apply Kd.R_drew)); exact Kd.R_mono ag.out (fun _ hk => ⟨hk.2, hk.1.2⟩)) hg hat)
       have aw := AM_ (hb)
       have az := AM_ (ho)
       clear aa
       clear ag
       clear HB
       clear aq
       have aa := au
       have ag := av
       have HB := aw
       have ax := az
       clear au av aw az
       clear ho hb hg hat
       refine hK.out _ _ ⟨bc aa.out 0, bc aa.out 1⟩ (fun ac => ?_)
       clear hK K
       refine NM 39 ?_
       exact NR (hCont (aU, aN, aI) _ ⟨ac, (RT ax.out), (by (with_reducible repeat (first | apply Kd.R_alloc | apply Kd.R_drewN | apply Kd.R_drew)); exact Kd.R_mono ag.out (fun _ hk => ⟨hk.2, hk.1⟩)), (BG1 aa), (BT HB.out)⟩)
     ·skip
      refine Kd.R_lit_step k116 _ 116 ?hg (N := 41) ?hd (xs := ([(⟨ae, af⟩ : S116)] : List (S116))) (inner := [.int .i64 ae, .int .i64 af]) (ok := fun _ => True) (okp := fun _ => True) ?hr ?hp (fun _ hk => hk) trivial (Below.refl _ _) (Nat.le_refl _) (by simp) ?_; (case hd => rfl); (case hg => rfl); (case hr => first | (go_simp; done) | (go_simp; rfl)); (case hp => exact (Reps.c2 (show Kd.M k116 _ _ _ (⟨ae, af⟩ : S116) [.int .i64 ae, .int .i64 af] from (k116_mkM _ _ _ (⟨ae, af⟩ : S116) )) (Reps.none _ _)))
      intro aI dm aD hb hg_ hnew_
      clear hg_ hnew_
      (first | rw [← aK.out] at aD | (simp only [Int.reduceToNat] at aD; rw [← aK.out] at aD))
      have ag := AM_ (Kd.R_lower (Kd.R_newB aD (BG1 aa)) (below_size (BT HB.out)))
      replace aa := BV aa hb
      replace HB := BW HB hb
      clear hb aD
      refine hK.out _ _ ⟨bc aa.out 0, bc aa.out 1⟩ (fun ac => ?_)
      clear hK K
      refine NM 41 ?_
      refine one_ (i := 0) (N := some 35) (bs 1903 13) rfl rfl (one_of al.out (by kernel_rfl)) (by decide) (fun K hK => ?_)
      refine Kd.R_lit_step k116 _ 116 ?hg (N := 35) ?hd (xs := ([] : List (S116))) (inner := []) (ok := fun _ => True) (okp := fun _ => True) ?hr ?hp (fun _ hk => hk) trivial (Below.refl _ _) (Nat.le_refl _) (by simp) ?_; (case hd => rfl); (case hg => rfl); (case hr => first | (go_simp; done) | (go_simp; rfl)); (case hp => exact (Reps.none _ _))
      intro aU cZ aA hb hg_ hnew_
      clear hg_ hnew_
      (first | rw [← a4.out] at aA | (simp only [Int.reduceToNat] at aA; rw [← a4.out] at aA))
      have aq := AM_ (Kd.R_lower (Kd.R_newB (Kd.R_new' aA (Kd.R_lt (RT ag.out))) (BG1 aa)) (below_size (BT HB.out)))
      replace ag := AM_ (Kd.R_elder' (RT ag.out) (Kd.R_base aA) hb)
      replace aa := BV aa hb
      replace HB := BW HB hb
      clear hb aA
      refine hK.out _ _ ⟨bc aa.out 0, bc aa.out 1⟩ (fun ac => ?_)
      clear hK K
      refine NM 35 ?_
      refine one_ (i := 4) (N := some 39) (bs 1919 13) rfl rfl (one_of al.out (by kernel_rfl)) (by decide) (fun K hK => ?_)
      refine Kd.R_append_rows_step k116 (w0 := w) w.heap.size (by rfl) (.tmp 35) (.tmp 38) 45 116 (.agg #[(.int .i64 0), (.int .i64 0)]) 16 rfl Try.underlying45 info116 rfl (by decide) (by omega) aU bY ba _ _ _ (fun k_ => some k_ ≠ (aI : Value).ownBlock ∧ k_ ≠ ad) (fun _ => False) rfl rfl ?aO ?aR (fun _ _ h => h) (fun _ h => h.elim) ?aF ?aB ?aS ?aL ?_
      (case aR => exact CB a5.out HB.out)
      (case aB => exact (BT HB.out))
      (case aF => exact (fun k_ hk => ⟨Kd.fresh' (Kd.R_lt (RT ag.out)) k_ hk, Kd.freshB (BG1 aa) k_ hk⟩))
      (case aO => exact (by (with_reducible repeat (first | apply Kd.R_alloc | apply Kd.R_drewN | apply Kd.R_drew)); exact Kd.R_mono aq.out (fun _ hk => ⟨hk.1.2, hk.2⟩)))
      (case aS => exact (below_size (BT HB.out)))
      (case aL => have := LMc42.out; omega)
      intro aN dn ho hb hg hat
      rw [← bb.out] at ho
      have au := AM_ (blk_grown (BG1 aa) hg (Kd.R_away aq.out (fun _ hk => hk.2)))
      have av := AM_ (Kd.R_after (ok := (fun k_ => k_ ≠ ad)) (by (with_reducible repeat (first | apply Kd.R_alloc | apply Kd.R_drewN | apply Kd.R_drew)); exact Kd.R_mono ag.out (fun _ hk => ⟨hk.1.2, hk.2⟩)) hg hat)
      have aw := AM_ (hb)
      have az := AM_ (ho)
      clear aa
      clear ag
      clear HB
      clear aq
      have aa := au
      have ag := av
      have HB := aw
      have ax := az
      clear au av aw az
      clear ho hb hg hat
      refine hK.out _ _ ⟨bc aa.out 0, bc aa.out 1⟩ (fun ac => ?_)
      clear hK K
      refine NM 39 ?_
      exact NR (hCont (aU, aN, aI) _ ⟨ac, (RT ax.out), (by (with_reducible repeat (first | apply Kd.R_alloc | apply Kd.R_drewN | apply Kd.R_drew)); exact Kd.R_mono ag.out (fun _ hk => ⟨hk.2, hk.1⟩)), (BG1 aa), (BT HB.out)⟩)
    rintro ⟨aU, aN, aI⟩ cb ⟨hS_, h0_, h1_, h2_, h3_⟩
    have au : Aside0 (Kd.R k116 116 cb w.heap.size (fun k_ => some k_ ≠ (aI : Value).ownBlock ∧ k_ ≠ ad) aN bZ) := ⟨h0_⟩
    have av : Aside0 (Kd.R k116 116 cb w.heap.size (fun k_ => some k_ ≠ (aN : Value).ownBlock ∧ k_ ≠ ad) aI bd) := ⟨h1_⟩
    have aw : Aside0 (cb.heap[ad]? = some (.cells #[.int .i64 ae, .int .i64 af] 116 (0, 0))) := ⟨h2_⟩
    have az : Aside0 (Below w.heap.size w cb) := ⟨h3_⟩
    clear aa
    clear HB
    clear h0_ h1_ h2_ h3_
    have ax := au
    have ag := av
    have aa := aw
    have HB := az
    clear au av aw az
    have ac : cb.cell? ⟨ad, 0, none⟩ = some (.int .i64 ae) ∧ cb.cell? ⟨ad, 1, none⟩ = some (.int .i64 af) := hS_
    obtain ⟨cg, ch, ci⟩ := Kd.R_slice ag.out
    (first | subst ci | (injection ci with f1_ f2_ f3_; have f4_ := f1_.symm; have f5_ := f3_.symm; clear f1_ f2_ f3_; subst f4_; subst f5_))
    refine norm_ (a' := ?_) ?_ ?_
    rotate_left
    ·simp only [putAll, Act.put, List.setIfInBounds_toArray, List.set_cons_zero, List.set_cons_succ]
     rfl
    refine one_ (i := 7) (N := some 42) (lo 11 13) rfl rfl (one_of al.out (by kernel_rfl)) (by decide) (fun K hK => ?_)
    refine Kd.R_append_rows_step k116 (w0 := w) w.heap.size (by rfl) (.tmp 39) (.tmp 41) 45 116 (.agg #[(.int .i64 0), (.int .i64 0)]) 16 rfl Try.underlying45 info116 rfl (by decide) (by omega) aN bZ bd _ _ _ (fun k_ => some k_ ≠ (.slice cg bd.length ch : Value).ownBlock ∧ k_ ≠ ad) (fun _ => False) rfl rfl ?aO ?aR (fun _ _ h => h) (fun _ h => h.elim) ?aF ?aB ?aS ?aL ?_
    (case aR => exact CRR ag)
    (case aB => exact (BT HB.out))
    (case aF => exact (fun k_ hk => ⟨Kd.fresh' (Kd.R_lt (RT ag.out)) k_ hk, Kd.freshB (BG1 aa) k_ hk⟩))
    (case aO => exact (RT ax.out))
    (case aS => exact (below_size (BT HB.out)))
    (case aL => have := LMc43.out; omega)
    intro cC dF ho hb hg hat
    rw [← ce.out] at ho
    have au := AM_ (blk_grown (BG1 aa) hg (Kd.R_away ax.out (fun _ hk => hk.2)))
    have av := AM_ (Kd.R_after (ok := (fun k_ => k_ ≠ ad)) (by (with_reducible repeat (first | apply Kd.R_alloc | apply Kd.R_drewN | apply Kd.R_drew)); exact Kd.R_mono ag.out (fun _ hk => ⟨hk.2, hk.1⟩)) hg hat)
    have aw := AM_ (hb)
    have az := AM_ (ho)
    clear aa
    clear ag
    clear HB
    clear ax
    have aa := au
    have ag := av
    have HB := aw
    have bg := az
    clear au av aw az
    clear ho hb hg hat
    refine hK.out _ _ ⟨bc aa.out 0, bc aa.out 1⟩ (fun ac => ?_)
    clear hK K
    refine NM 42 ?_
    refine OS al (fun K hK => ?_)
    refine Kd.R_append_rows_step k116 (w0 := w) w.heap.size (by rfl) (.tmp 42) (.tmp 45) 45 116 (.agg #[(.int .i64 0), (.int .i64 0)]) 16 rfl Try.underlying45 info116 rfl (by decide) (by omega) cC cd aW _ _ _ (fun k_ => some k_ ≠ (.slice cg bd.length ch : Value).ownBlock ∧ k_ ≠ ad) (fun _ => False) rfl rfl ?aO ?aR (fun _ _ h => h) (fun _ h => h.elim) ?aF ?aB ?aS ?aL ?_
    (case aR => exact CB bK.out HB.out)
    (case aB => exact (BT HB.out))
    (case aF => exact (fun k_ hk => ⟨Kd.fresh' (Kd.R_lt (RT ag.out)) k_ hk, Kd.freshB (BG1 aa) k_ hk⟩))
    (case aO => exact (RT bg.out))
    (case aS => exact (below_size (BT HB.out)))
    (case aL => have := LMc46.out; omega)
    intro dp dG ho hb hg hat
    rw [← cf.out] at ho
    have au := AM_ (blk_grown (BG1 aa) hg (Kd.R_away bg.out (fun _ hk => hk.2)))
    have av := AM_ (Kd.R_after (ok := (fun k_ => k_ ≠ ad)) (RT ag.out) hg hat)
    have aw := AM_ (hb)
    have az := AM_ (ho)
    clear aa
    clear ag
    clear HB
    clear bg
    have aa := au
    have ag := av
    have HB := aw
    have cj := az
    clear au av aw az
    clear ho hb hg hat
    refine hK.out _ _ ⟨bc aa.out 0, bc aa.out 1⟩ (fun ac => ?_)
    clear hK K
    refine NM 46 ?_
    refine PS al ?_
    refine done_ (done_of al.out (by kernel_rfl)) ?_
    try go_wp2
    go_ret
    exact ⟨_, ER, by (with_reducible repeat (first | apply Kd.R_alloc | apply Kd.R_drewN | apply Kd.R_drew)); exact Kd.R_mono cj.out (fun _ hk => trivial), BT HB.out⟩
   rw [if_pos c4] at H
   have cw := DE c4
   clear c4
   replace H := HI H
   obtain ⟨c5, H⟩ := H
   have dq := DE c5
   clear c5
   obtain ⟨cD, A6, H⟩ := OB H
   by_cases c7 : cD = true
   ·subst c7
    replace H := HT H
    have H' := AM_ H
    clear H
    try go_wp2
    replace aa := BD1 aa
    replace HB := BD2 HB
    have aE : 0 ≤ (ab : Int) := DT
    have aG : ab < (l0.length : Int) := DT
    obtain ⟨ai, bh, aj, ak⟩ := at_T116 bw.out ab aE aG
    have ao := ak
    have ap := aj
    cases bh
    replace aj := BC HB.out aj
    replace ak := BC HB.out ak
    replace aE := ET aE
    replace aG := ET aG
    refine start_ (n := 12) (S := fun w' => w'.cell? ⟨ad, 0, none⟩ = some (.int .i64 ae) ∧ w'.cell? ⟨ad, 1, none⟩ = some (.int .i64 af) ∧ w'.cell? (ai.add ((ab).toNat * 2)) = some (.int .i64 ((rd_T116 l0 ab).f0)) ∧ w'.cell? ⟨(ai.add ((ab).toNat * 2)).block, (ai.add ((ab).toNat * 2)).off + 1, none⟩ = some (.int .i64 ((rd_T116 l0 ab).f1))) (ds := []) (lo 0 12) (by kernel_rfl) rfl rfl ⟨bc aa.out 0, bc aa.out 1, (BD HB.out ap), (BD HB.out ao)⟩ (fun ac => ?_); refine with_tabW spec_l5PutRead.tab2 spec_l5PutRead.bits2 (fun al aX => ?_)
    generalize wr.drew = w8 at aa HB aj ak ac ⊢
    iterate 10 first | refine PS al ?_ | refine TS al aX ac ?_
    refine OS al (fun K hK => ?_)
    refine GO Try.func67 #[.agg #[.int .i64 ((rd_T116 l0 ab).f0), .int .i64 ((rd_T116 l0 ab).f1)], .agg #[.int .i64 ae, .int .i64 af]] ?_
    with_reducible refine MB (spec_l5Before.calls ((rd_T116 l0 ab).f0) ((rd_T116 l0 ab).f1) ae af true _ A6.out) ?_
    intro w9 hb
    replace aa := BV aa hb
    replace HB := BW HB hb
    (try clear hb)
    refine hK.out _ _ ⟨bc aa.out 0, bc aa.out 1, (BD HB.out ap), (BD HB.out ao)⟩ (fun ac => ?_)
    clear hK K
    refine NM 16 ?_
    refine PS al ?_
    refine done_ (done_of al.out (by kernel_rfl)) ?_
    try go_wp2
    go_roundg k1
    case measure => have := cP.out; omega
    case rel => exact ⟨(wrap64 (ab + 1)), (by first | rfl | (simp; done) | (simp [*]; done)), H', ⟨by have := cP.out; omega⟩, ⟨BH aa.out⟩, ⟨BT HB.out⟩⟩
   replace c7 := Bool.eq_false_iff.mpr c7
   subst c7
   replace H := HF H
   by_cases bi : (((rd_T116 l0 ab).f0) == ae && (((rd_T116 l0 ab).f1) == af)) = true
   ·rw [if_pos bi] at H
    have ck : (((rd_T116 l0 ab).f0) == ae && (((rd_T116 l0 ab).f1) == af)) = true := bi
    (try (have c10b1 : decide (((rd_T116 l0 ab).f0) = ae && (((rd_T116 l0 ab).f1) == af)) = true := by simpa using bi))
    (try (have c10b2 : (((rd_T116 l0 ab).f0) == ae && (((rd_T116 l0 ab).f1) == af)) = true := by simpa using bi))
    clear bi
    obtain ⟨cl, bL, H⟩ := OY H
    have bM := AM_ bL
    clear bL
    replace H := HI H
    obtain ⟨c3, H⟩ := H
    have LMc11 := AM_ c3
    clear c3
    obtain ⟨dr, bj⟩ : ∃ y_ : List (S116), y_ = (cl ++ l0) := ⟨_, rfl⟩
    rw [← bj] at H
    have cm := AM_ bj
    clear bj
    obtain rfl := SI H
    try go_wp2
    replace aa := BD1 aa
    replace HB := BD2 HB
    have aE : 0 ≤ (ab : Int) := DT
    have aG : ab < (l0.length : Int) := DT
    obtain ⟨ai, bh, aj, ak⟩ := at_T116 bw.out ab aE aG
    have ao := ak
    have ap := aj
    cases bh
    replace aj := BC HB.out aj
    replace ak := BC HB.out ak
    replace aE := ET aE
    replace aG := ET aG
    refine start_ (n := 12) (S := fun w' => w'.cell? ⟨ad, 0, none⟩ = some (.int .i64 ae) ∧ w'.cell? ⟨ad, 1, none⟩ = some (.int .i64 af) ∧ w'.cell? (ai.add ((ab).toNat * 2)) = some (.int .i64 ((rd_T116 l0 ab).f0)) ∧ w'.cell? ⟨(ai.add ((ab).toNat * 2)).block, (ai.add ((ab).toNat * 2)).off + 1, none⟩ = some (.int .i64 ((rd_T116 l0 ab).f1))) (ds := []) (lo 0 12) (by kernel_rfl) rfl rfl ⟨bc aa.out 0, bc aa.out 1, (BD HB.out ap), (BD HB.out ao)⟩ (fun ac => ?_); refine with_tabW spec_l5PutRead.tab2 spec_l5PutRead.bits2 (fun al aX => ?_)
    generalize wr.drew = dH at aa HB aj ak ac ⊢
    iterate 10 first | refine PS al ?_ | refine TS al aX ac ?_
    refine OS al (fun K hK => ?_)
    refine GO Try.func67 #[.agg #[.int .i64 ((rd_T116 l0 ab).f0), .int .i64 ((rd_T116 l0 ab).f1)], .agg #[.int .i64 ae, .int .i64 af]] ?_
    with_reducible refine MB (spec_l5Before.calls ((rd_T116 l0 ab).f0) ((rd_T116 l0 ab).f1) ae af false _ A6.out) ?_
    intro dt hb
    replace aa := BV aa hb
    replace HB := BW HB hb
    (try clear hb)
    refine hK.out _ _ ⟨bc aa.out 0, bc aa.out 1, (BD HB.out ap), (BD HB.out ao)⟩ (fun ac => ?_)
    clear hK K
    refine NM 16 ?_
    refine PS al ?_
    refine done_ (done_of al.out (by kernel_rfl)) ?_
    try go_wp2
    replace aa := BD1 aa
    replace HB := BD2 HB
    have aY : 0 ≤ (ab : Int) := DT
    have aZ : ab < (l0.length : Int) := DT
    obtain ⟨bk, b3, am, an⟩ := at_T116 bw.out ab aY aZ
    have aP := an
    have aQ := am
    obtain rfl : ai = bk := (by injection b3)
    replace am := BC HB.out am
    replace an := BC HB.out an
    replace aY := ET aY
    replace aZ := ET aZ
    refine start_ (n := 12) (S := fun w' => w'.cell? ⟨ad, 0, none⟩ = some (.int .i64 ae) ∧ w'.cell? ⟨ad, 1, none⟩ = some (.int .i64 af) ∧ w'.cell? (ai.add ((ab).toNat * 2)) = some (.int .i64 ((rd_T116 l0 ab).f0)) ∧ w'.cell? ⟨(ai.add ((ab).toNat * 2)).block, (ai.add ((ab).toNat * 2)).off + 1, none⟩ = some (.int .i64 ((rd_T116 l0 ab).f1))) (ds := []) (lo 0 12) (by kernel_rfl) rfl rfl ⟨bc aa.out 0, bc aa.out 1, (BD HB.out aQ), (BD HB.out aP)⟩ (fun ac => ?_); refine with_tabW spec_l5PutRead.tab4 spec_l5PutRead.bits4 (fun al aX => ?_)
    generalize dt.drew = dI at aa HB am an ac ⊢
    iterate 12 first | refine PS al ?_ | refine TS al aX ac ?_
    refine done_ (done_of al.out (by kernel_rfl)) ?_
    try go_wp2_with (first | ((with_reducible refine G2 32 rfl ?_); refine Kd.R_lit k116 _ 116 ?hg (N := 32) ?hd (xs := ([] : List (S116))) (inner := []) (ok := fun _ => True) (okp := fun _ => True) ?hr ?hp (fun _ hk => hk) trivial (Below.refl _ _) (Nat.le_refl _) (by simp) ?_; (case hd => rfl); (case hg => rfl); (case hr => first | (go_simp; done) | (go_simp; rfl)); (case hp => exact (Reps.none _ _)); intro cE dJ bm hb hg_ hnew_; clear hg_ hnew_; (first | rw [← bM.out] at bm | (simp only [Int.reduceToNat] at bm; rw [← bM.out] at bm)); have bn := AM_ (Kd.R_lower (Kd.R_newB bm (BG1 aa)) (below_size (BT HB.out))); replace aa := BV aa hb; replace HB := BW HB hb; clear hb bm) | ((with_reducible refine gate_builtin (b := .append) (xs := #[.tmp 32, .tmp 33]) rfl ?_); at_builtin; refine Kd.R_append_rows k116 (w0 := w) w.heap.size rfl (.tmp 32) (.tmp 33) 45 116 (.agg #[(.int .i64 0), (.int .i64 0)]) 16 rfl Try.underlying45 info116 rfl (by decide) (by omega) cE cl l0 _ _ _ (fun k_ => k_ ≠ ad) (fun _ => False) rfl rfl ?aO ?aR (fun _ _ h => h) (fun _ h => h.elim) ?aF ?aB ?aS ?aL ?_; (case aR => exact CB bw.out HB.out); (case aB => exact (BT HB.out)); (case aF => exact (fun k_ hk => Kd.freshB (BG1 aa) k_ hk)); (case aO => exact (by (with_reducible repeat (first | apply Kd.R_alloc | apply Kd.R_drewN | apply Kd.R_drew)); exact Kd.R_mono bn.out (fun _ hk => hk.2))); (case aS => exact (below_size (BT HB.out))); (case aL => have := LMc11.out; omega); intro du dK ho hb hg hat; rw [← cm.out] at ho; have au := AM_ (blk_grown (BG1 aa) hg (Kd.R_away bn.out (fun _ hk => hk.2))); have av := AM_ (hb); have aw := AM_ (ho); clear aa; clear HB; clear bn; have aa := au; have HB := av; have cn := aw; clear au av aw; clear ho hb hg hat))
    go_ret
    exact ⟨_, ER, by (with_reducible repeat (first | apply Kd.R_alloc | apply Kd.R_drewN | apply Kd.R_drew)); exact Kd.R_mono cn.out (fun _ hk => trivial), BT HB.out⟩
   rw [if_neg bi] at H
   have ck : (((rd_T116 l0 ab).f0) == ae && (((rd_T116 l0 ab).f1) == af)) = false := by simpa using bi
   (try (have c10b1 : decide (((rd_T116 l0 ab).f0) = ae && (((rd_T116 l0 ab).f1) == af)) = false := by simpa using bi))
   (try (have c10b2 : (((rd_T116 l0 ab).f0) == ae && (((rd_T116 l0 ab).f1) == af)) = false := by simpa using bi))
   (try (have c10b3 : ¬ (((rd_T116 l0 ab).f0) = ae && (((rd_T116 l0 ab).f1) == af)) := by simpa using bi))
   clear bi
   obtain ⟨b4, bN, H⟩ := OY H
   have a6 := AM_ bN
   clear bN
   have c6 := eq_true (DT : 0 ≤ ab)
   replace H := HI H
   obtain ⟨cF, H⟩ := H
   have c8 := ET cF
   have c19b1 : decide (ab ≤ (l0.length : Int)) = true := DE cF
   clear cF
   obtain ⟨bo, bO, H⟩ := OY H
   have bP := AM_ bO
   clear bO
   replace H := HI H
   obtain ⟨c9, H⟩ := H
   have LMc20 := AM_ c9
   clear c9
   obtain ⟨b6, bQ, H⟩ := OY H
   have bp := AM_ bQ
   clear bQ
   obtain ⟨bq, bR, H⟩ := OY H
   have aM := AM_ bR
   clear bR
   replace H := HI H
   obtain ⟨da, H⟩ := H
   have LMc21 := AM_ da
   clear da
   obtain ⟨co, bS, H⟩ := OY H
   have cp := AM_ bS
   clear bS
   have db := eq_true (DT : 0 ≤ ab)
   have dc := eq_true (DT : ab ≤ (l0.length : Int))
   obtain ⟨a3, bT, H⟩ := OY H
   have bU := AM_ bT
   clear bT
   replace H := HI H
   obtain ⟨dd, H⟩ := H
   have LMc24 := AM_ dd
   clear dd
   obtain ⟨dv, br⟩ : ∃ y_ : List (S116), y_ = (co ++ a3) := ⟨_, rfl⟩
   rw [← br] at H
   have cq := AM_ br
   clear br
   obtain rfl := SI H
   try go_wp2
   replace aa := BD1 aa
   replace HB := BD2 HB
   have aE : 0 ≤ (ab : Int) := DT
   have aG : ab < (l0.length : Int) := DT
   obtain ⟨ai, bh, aj, ak⟩ := at_T116 bw.out ab aE aG
   have ao := ak
   have ap := aj
   cases bh
   replace aj := BC HB.out aj
   replace ak := BC HB.out ak
   replace aE := ET aE
   replace aG := ET aG
   refine start_ (n := 12) (S := fun w' => w'.cell? ⟨ad, 0, none⟩ = some (.int .i64 ae) ∧ w'.cell? ⟨ad, 1, none⟩ = some (.int .i64 af) ∧ w'.cell? (ai.add ((ab).toNat * 2)) = some (.int .i64 ((rd_T116 l0 ab).f0)) ∧ w'.cell? ⟨(ai.add ((ab).toNat * 2)).block, (ai.add ((ab).toNat * 2)).off + 1, none⟩ = some (.int .i64 ((rd_T116 l0 ab).f1))) (ds := []) (lo 0 12) (by kernel_rfl) rfl rfl ⟨bc aa.out 0, bc aa.out 1, (BD HB.out ap), (BD HB.out ao)⟩ (fun ac => ?_); refine with_tabW spec_l5PutRead.tab2 spec_l5PutRead.bits2 (fun al aX => ?_)
   generalize wr.drew = dL at aa HB aj ak ac ⊢
   iterate 10 first | refine PS al ?_ | refine TS al aX ac ?_
   refine OS al (fun K hK => ?_)
   refine GO Try.func67 #[.agg #[.int .i64 ((rd_T116 l0 ab).f0), .int .i64 ((rd_T116 l0 ab).f1)], .agg #[.int .i64 ae, .int .i64 af]] ?_
   with_reducible refine MB (spec_l5Before.calls ((rd_T116 l0 ab).f0) ((rd_T116 l0 ab).f1) ae af false _ A6.out) ?_
   intro dw hb
   replace aa := BV aa hb
   replace HB := BW HB hb
   (try clear hb)
   refine hK.out _ _ ⟨bc aa.out 0, bc aa.out 1, (BD HB.out ap), (BD HB.out ao)⟩ (fun ac => ?_)
   clear hK K
   refine NM 16 ?_
   refine PS al ?_
   refine done_ (done_of al.out (by kernel_rfl)) ?_
   try go_wp2
   replace aa := BD1 aa
   replace HB := BD2 HB
   have aY : 0 ≤ (ab : Int) := DT
   have aZ : ab < (l0.length : Int) := DT
   obtain ⟨bk, b3, am, an⟩ := at_T116 bw.out ab aY aZ
   have aP := an
   have aQ := am
   obtain rfl : ai = bk := (by injection b3)
   replace am := BC HB.out am
   replace an := BC HB.out an
   replace aY := ET aY
   replace aZ := ET aZ
   refine start_ (n := 12) (S := fun w' => w'.cell? ⟨ad, 0, none⟩ = some (.int .i64 ae) ∧ w'.cell? ⟨ad, 1, none⟩ = some (.int .i64 af) ∧ w'.cell? (ai.add ((ab).toNat * 2)) = some (.int .i64 ((rd_T116 l0 ab).f0)) ∧ w'.cell? ⟨(ai.add ((ab).toNat * 2)).block, (ai.add ((ab).toNat * 2)).off + 1, none⟩ = some (.int .i64 ((rd_T116 l0 ab).f1))) (ds := []) (lo 0 12) (by kernel_rfl) rfl rfl ⟨bc aa.out 0, bc aa.out 1, (BD HB.out aQ), (BD HB.out aP)⟩ (fun ac => ?_); refine with_tabW spec_l5PutRead.tab4 spec_l5PutRead.bits4 (fun al aX => ?_)
   generalize dw.drew = dx at aa HB am an ac ⊢
   iterate 12 first | refine PS al ?_ | refine TS al aX ac ?_
   refine done_ (done_of al.out (by kernel_rfl)) ?_
   try go_wp2
   replace aa := BD1 aa
   replace HB := BD2 HB
   have cG : (ab : Int) ≤ ((l0.length : Int) : Int) := DT
   obtain ⟨i029, bV, _, hsz29, _⟩ := info_parts info116
   have hroom29 : l0.length ≤ c0 := cv.out
   have hC29 : Kd.C k116 _ (some ai) l0.length l0 := bw.out
   have hcut29 := cut_to (P := Try.prog) 45 116 .i64 Try.underlying45 bV (some ai) l0.length c0 ab (DT) cG hroom29
   have b7 := Kd.C_take (m := (ab : Int).toNat) hC29 (by omega)
   have b8 : bo.length = (ab : Int).toNat := (by rw [bP.out, List.length_take]; omega)
   rw [← bP.out] at b7
   rw [← b8] at hcut29
   have a7 := AM_ b7
   have de := AM_ (show bo.length ≤ c0 from by omega)
   clear b7 hC29 hroom29 bV hsz29
   have KY29 := AM_ b8
   clear b8
   replace cG := ET cG
   have cH : (ab : Int) ≤ ((l0.length : Int) : Int) := DT
   obtain ⟨i030, bW, _, hsz30, _⟩ := info_parts info116
   have hroom30 : l0.length ≤ c0 := cv.out
   have hC30 : Kd.C k116 _ (some ai) l0.length l0 := bw.out
   have cI : (0 : Int) ≤ (ab : Int) := DT
   have hcut30 := cut_from (P := Try.prog) 45 116 .i64 Try.underlying45 bW 2 hsz30 (some ai) l0.length c0 ab cI cH
   have bu := Kd.C_drop (m := (ab : Int).toNat) (c := c0) hC30 (by omega) hroom30
   obtain ⟨dy, hA30⟩ : ∃ A1, A1 = (if c0 = (ab : Int).toNat then (some ai) else ((some ai) : Option Addr).map (·.add ((ab : Int).toNat * 2))) := ⟨_, rfl⟩
   obtain ⟨dz, ca⟩ : ∃ c1, c1 = c0 - (ab : Int).toNat := ⟨_, rfl⟩
   have bz : a3.length = l0.length - (ab : Int).toNat := (by rw [bU.out, List.length_drop] <;> omega)
   rw [show (l0).drop (ab : Int).toNat = a3 from bU.out.symm] at bu
   replace bu : Kd.C k116 _ dy a3.length a3 := (by rw [hA30]; exact bu)
   rw [← bz, ← hA30, ← ca] at hcut30
   have bX := AM_ bu
   have df := AM_ (show a3.length ≤ dz from by rw [bz, ca]; exact Nat.sub_le_sub_right hroom30 _)
   clear bu hC30 hroom30 bW hsz30 ca
   have KY30 := AM_ bz
   have KA30 := AM_ hA30
   clear bz hA30
   replace cH := ET cH
   refine start_ (n := 13) (S := fun w' => w'.cell? ⟨ad, 0, none⟩ = some (.int .i64 ae) ∧ w'.cell? ⟨ad, 1, none⟩ = some (.int .i64 af)) (ds := []) (lo 0 13) (by kernel_rfl) rfl rfl ⟨bc aa.out 0, bc aa.out 1⟩ (fun ac => ?_); refine with_tabW spec_l5PutRead.tab6 spec_l5PutRead.bits6 (fun al aX => ?_)
   generalize dx.drew = dM at aa HB a7 bX ac ⊢
   refine PV 1 (some 36) (bs 2 13) al ?_
   refine PV 2 (some 37) (bs 6 13) al ?_
   refine PV 3 (some 38) (bs 14 13) al ?_
   refine PV 8 (some 43) (bs 270 13) al ?_
   refine PV 9 (some 44) (bs 782 13) al ?_
   refine PV 10 (some 45) (bs 1806 13) al ?_
   refine TX 5 (some 40) (bs 1838 13) al aX ac ?_
   refine join_ (σ := Value × Value × Value) 3 (bs 1919 13) (fun s_ => [(35, s_.1), (39, s_.2.1), (41, s_.2.2)]) (fun s_ w' => (w'.cell? ⟨ad, 0, none⟩ = some (.int .i64 ae) ∧ w'.cell? ⟨ad, 1, none⟩ = some (.int .i64 af)) ∧ (Kd.R k116 116 w' w.heap.size (fun k_ => some k_ ≠ (s_.2.2 : Value).ownBlock ∧ k_ ≠ ad) s_.2.1 b6) ∧ (Kd.R k116 116 w' w.heap.size (fun k_ => some k_ ≠ (s_.2.1 : Value).ownBlock ∧ k_ ≠ ad) s_.2.2 bq) ∧ (w'.heap[ad]? = some (.cells #[.int .i64 ae, .int .i64 af] 116 (0, 0))) ∧ (Below w.heap.size w w')) ?_ ?_
   rotate_left
   ·intro hCont
    refine two_ (i := 0) (j := 6) (Ni := some 35) (Nj := some 41) (bs 1839 13) (bs 1902 13) rfl rfl rfl rfl (two_of al.out (by kernel_rfl)) (by decide) (by decide) (fun K hK => ?_) (fun K hK => ?_)
    ·skip
     refine Kd.R_lit_step k116 _ 116 ?hg (N := 35) ?hd (xs := ([] : List (S116))) (inner := []) (ok := fun _ => True) (okp := fun _ => True) ?hr ?hp (fun _ hk => hk) trivial (Below.refl _ _) (Nat.le_refl _) (by simp) ?_; (case hd => rfl); (case hg => rfl); (case hr => first | (go_simp; done) | (go_simp; rfl)); (case hp => exact (Reps.none _ _))
     intro aV dA aH hb hg_ hnew_
     clear hg_ hnew_
     (first | rw [← a6.out] at aH | (simp only [Int.reduceToNat] at aH; rw [← a6.out] at aH))
     have ar := AM_ (Kd.R_lower (Kd.R_newB aH (BG1 aa)) (below_size (BT HB.out)))
     replace aa := BV aa hb
     replace HB := BW HB hb
     clear hb aH
     refine hK.out _ _ ⟨bc aa.out 0, bc aa.out 1⟩ (fun ac => ?_)
     clear hK K
     refine NM 35 ?_
     refine two_ (i := 4) (j := 6) (Ni := some 39) (Nj := some 41) (bs 1855 13) (bs 1903 13) rfl rfl rfl rfl (two_of al.out (by kernel_rfl)) (by decide) (by decide) (fun K hK => ?_) (fun K hK => ?_)
     ·skip
      refine Kd.R_append_rows_step k116 (w0 := w) w.heap.size (by rfl) (.tmp 35) (.tmp 38) 45 116 (.agg #[(.int .i64 0), (.int .i64 0)]) 16 rfl Try.underlying45 info116 rfl (by decide) (by omega) aV b4 bo _ _ _ (fun k_ => k_ ≠ ad) (fun _ => False) rfl rfl ?aO ?aR (fun _ _ h => h) (fun _ h => h.elim) ?aF ?aB ?aS ?aL ?_
      (case aR => exact CB a7.out HB.out)
      (case aB => exact (BT HB.out))
      (case aF => exact (fun k_ hk => Kd.freshB (BG1 aa) k_ hk))
      (case aO => exact (by (with_reducible repeat (first | apply Kd.R_alloc | apply Kd.R_drewN | apply Kd.R_drew)); exact Kd.R_mono ar.out (fun _ hk => hk.2)))
      (case aS => exact (below_size (BT HB.out)))
      (case aL => have := LMc20.out; omega)
      intro aT dg ho hb hg hat
      rw [← bp.out] at ho
      have au := AM_ (blk_grown (BG1 aa) hg (Kd.R_away ar.out (fun _ hk => hk.2)))
      have av := AM_ (hb)
      have aw := AM_ (ho)
      clear aa
      clear HB
      clear ar
      have aa := au
      have HB := av
      have ay := aw
      clear au av aw
      clear ho hb hg hat
      refine hK.out _ _ ⟨bc aa.out 0, bc aa.out 1⟩ (fun ac => ?_)
      clear hK K
      refine NM 39 ?_
      refine one_ (i := 6) (N := some 41) (bs 1919 13) rfl rfl (one_of al.out (by kernel_rfl)) (by decide) (fun K hK => ?_)
      refine Kd.R_lit_step k116 _ 116 ?hg (N := 41) ?hd (xs := ([(⟨ae, af⟩ : S116)] : List (S116))) (inner := [.int .i64 ae, .int .i64 af]) (ok := fun _ => True) (okp := fun _ => True) ?hr ?hp (fun _ hk => hk) trivial (Below.refl _ _) (Nat.le_refl _) (by simp) ?_; (case hd => rfl); (case hg => rfl); (case hr => first | (go_simp; done) | (go_simp; rfl)); (case hp => exact (Reps.c2 (show Kd.M k116 _ _ _ (⟨ae, af⟩ : S116) [.int .i64 ae, .int .i64 af] from (k116_mkM _ _ _ (⟨ae, af⟩ : S116) )) (Reps.none _ _)))
      intro aJ dN a9 hb hg_ hnew_
      clear hg_ hnew_
      (first | rw [← aM.out] at a9 | (simp only [Int.reduceToNat] at a9; rw [← aM.out] at a9))
      have ah := AM_ (Kd.R_lower (Kd.R_newB (Kd.R_new' a9 (Kd.R_lt (RT ay.out))) (BG1 aa)) (below_size (BT HB.out)))
      replace ay := AM_ (Kd.R_elder' (RT ay.out) (Kd.R_base a9) hb)
      replace aa := BV aa hb
      replace HB := BW HB hb
      clear hb a9
      refine hK.out _ _ ⟨bc aa.out 0, bc aa.out 1⟩ (fun ac => ?_)
      clear hK K
      refine NM 41 ?_
      exact NR (hCont (aV, aT, aJ) _ ⟨ac, (by (with_reducible repeat (first | apply Kd.R_alloc | apply Kd.R_drewN | apply Kd.R_drew)); exact Kd.R_mono ay.out (fun _ hk => ⟨hk.2, hk.1⟩)), (by (with_reducible repeat (first | apply Kd.R_alloc | apply Kd.R_drewN | apply Kd.R_drew)); exact Kd.R_mono ah.out (fun _ hk => ⟨hk.1.2, hk.2⟩)), (BG1 aa), (BT HB.out)⟩)
     ·skip
      refine Kd.R_lit_step k116 _ 116 ?hg (N := 41) ?hd (xs := ([(⟨ae, af⟩ : S116)] : List (S116))) (inner := [.int .i64 ae, .int .i64 af]) (ok := fun _ => True) (okp := fun _ => True) ?hr ?hp (fun _ hk => hk) trivial (Below.refl _ _) (Nat.le_refl _) (by simp) ?_; (case hd => rfl); (case hg => rfl); (case hr => first | (go_simp; done) | (go_simp; rfl)); (case hp => exact (Reps.c2 (show Kd.M k116 _ _ _ (⟨ae, af⟩ : S116) [.int .i64 ae, .int .i64 af] from (k116_mkM _ _ _ (⟨ae, af⟩ : S116) )) (Reps.none _ _)))
      intro aJ dg aC hb hg_ hnew_
      clear hg_ hnew_
      (first | rw [← aM.out] at aC | (simp only [Int.reduceToNat] at aC; rw [← aM.out] at aC))
      have ah := AM_ (Kd.R_lower (Kd.R_newB (Kd.R_new' aC (Kd.R_lt (RT ar.out))) (BG1 aa)) (below_size (BT HB.out)))
      replace ar := AM_ (Kd.R_elder' (RT ar.out) (Kd.R_base aC) hb)
      replace aa := BV aa hb
      replace HB := BW HB hb
      clear hb aC
      refine hK.out _ _ ⟨bc aa.out 0, bc aa.out 1⟩ (fun ac => ?_)
      clear hK K
      refine NM 41 ?_
      refine one_ (i := 4) (N := some 39) (bs 1919 13) rfl rfl (one_of al.out (by kernel_rfl)) (by decide) (fun K hK => ?_)
      refine Kd.R_append_rows_step k116 (w0 := w) w.heap.size (by rfl) (.tmp 35) (.tmp 38) 45 116 (.agg #[(.int .i64 0), (.int .i64 0)]) 16 rfl Try.underlying45 info116 rfl (by decide) (by omega) aV b4 bo _ _ _ (fun k_ => some k_ ≠ (aJ : Value).ownBlock ∧ k_ ≠ ad) (fun _ => False) rfl rfl ?aO ?aR (fun _ _ h => h) (fun _ h => h.elim) ?aF ?aB ?aS ?aL ?_
      (case aR => exact CB a7.out HB.out)
      (case aB => exact (BT HB.out))
      (case aF => exact (fun k_ hk => ⟨Kd.fresh' (Kd.R_lt (RT ah.out)) k_ hk, Kd.freshB (BG1 aa) k_ hk⟩))
      (case aO => exact (by (with_reducible repeat (first | apply Kd.R_alloc | apply Kd.R_drewN | apply Kd.R_drew)); exact Kd.R_mono ar.out (fun _ hk => ⟨hk.2, hk.1.2⟩)))
      (case aS => exact (below_size (BT HB.out)))
      (case aL => have := LMc20.out; omega)
      intro aT dB ho hb hg hat
      rw [← bp.out] at ho
      have au := AM_ (blk_grown (BG1 aa) hg (Kd.R_away ar.out (fun _ hk => hk.1.2)))
      have av := AM_ (Kd.R_after (ok := (fun k_ => k_ ≠ ad)) (by (with_reducible repeat (first | apply Kd.R_alloc | apply Kd.R_drewN | apply Kd.R_drew)); exact Kd.R_mono ah.out (fun _ hk => ⟨hk.2, hk.1.2⟩)) hg hat)
      have aw := AM_ (hb)
      have az := AM_ (ho)
      clear aa
      clear ah
      clear HB
      clear ar
      have aa := au
      have ah := av
      have HB := aw
      have ay := az
      clear au av aw az
      clear ho hb hg hat
      refine hK.out _ _ ⟨bc aa.out 0, bc aa.out 1⟩ (fun ac => ?_)
      clear hK K
      refine NM 39 ?_
      exact NR (hCont (aV, aT, aJ) _ ⟨ac, (RT ay.out), (by (with_reducible repeat (first | apply Kd.R_alloc | apply Kd.R_drewN | apply Kd.R_drew)); exact Kd.R_mono ah.out (fun _ hk => ⟨hk.2, hk.1⟩)), (BG1 aa), (BT HB.out)⟩)
    ·skip
     refine Kd.R_lit_step k116 _ 116 ?hg (N := 41) ?hd (xs := ([(⟨ae, af⟩ : S116)] : List (S116))) (inner := [.int .i64 ae, .int .i64 af]) (ok := fun _ => True) (okp := fun _ => True) ?hr ?hp (fun _ hk => hk) trivial (Below.refl _ _) (Nat.le_refl _) (by simp) ?_; (case hd => rfl); (case hg => rfl); (case hr => first | (go_simp; done) | (go_simp; rfl)); (case hp => exact (Reps.c2 (show Kd.M k116 _ _ _ (⟨ae, af⟩ : S116) [.int .i64 ae, .int .i64 af] from (k116_mkM _ _ _ (⟨ae, af⟩ : S116) )) (Reps.none _ _)))
     intro aJ dA aH hb hg_ hnew_
     clear hg_ hnew_
     (first | rw [← aM.out] at aH | (simp only [Int.reduceToNat] at aH; rw [← aM.out] at aH))
     have ah := AM_ (Kd.R_lower (Kd.R_newB aH (BG1 aa)) (below_size (BT HB.out)))
     replace aa := BV aa hb
     replace HB := BW HB hb
     clear hb aH
     refine hK.out _ _ ⟨bc aa.out 0, bc aa.out 1⟩ (fun ac => ?_)
     clear hK K
     refine NM 41 ?_
     refine one_ (i := 0) (N := some 35) (bs 1903 13) rfl rfl (one_of al.out (by kernel_rfl)) (by decide) (fun K hK => ?_)
     refine Kd.R_lit_step k116 _ 116 ?hg (N := 35) ?hd (xs := ([] : List (S116))) (inner := []) (ok := fun _ => True) (okp := fun _ => True) ?hr ?hp (fun _ hk => hk) trivial (Below.refl _ _) (Nat.le_refl _) (by simp) ?_; (case hd => rfl); (case hg => rfl); (case hr => first | (go_simp; done) | (go_simp; rfl)); (case hp => exact (Reps.none _ _))
     intro aV dg aC hb hg_ hnew_
     clear hg_ hnew_
     (first | rw [← a6.out] at aC | (simp only [Int.reduceToNat] at aC; rw [← a6.out] at aC))
     have ar := AM_ (Kd.R_lower (Kd.R_newB (Kd.R_new' aC (Kd.R_lt (RT ah.out))) (BG1 aa)) (below_size (BT HB.out)))
     replace ah := AM_ (Kd.R_elder' (RT ah.out) (Kd.R_base aC) hb)
     replace aa := BV aa hb
     replace HB := BW HB hb
     clear hb aC
     refine hK.out _ _ ⟨bc aa.out 0, bc aa.out 1⟩ (fun ac => ?_)
     clear hK K
     refine NM 35 ?_
     refine one_ (i := 4) (N := some 39) (bs 1919 13) rfl rfl (one_of al.out (by kernel_rfl)) (by decide) (fun K hK => ?_)
     refine Kd.R_append_rows_step k116 (w0 := w) w.heap.size (by rfl) (.tmp 35) (.tmp 38) 45 116 (.agg #[(.int .i64 0), (.int .i64 0)]) 16 rfl Try.underlying45 info116 rfl (by decide) (by omega) aV b4 bo _ _ _ (fun k_ => some k_ ≠ (aJ : Value).ownBlock ∧ k_ ≠ ad) (fun _ => False) rfl rfl ?aO ?aR (fun _ _ h => h) (fun _ h => h.elim) ?aF ?aB ?aS ?aL ?_
     (case aR => exact CB a7.out HB.out)
     (case aB => exact (BT HB.out))
     (case aF => exact (fun k_ hk => ⟨Kd.fresh' (Kd.R_lt (RT ah.out)) k_ hk, Kd.freshB (BG1 aa) k_ hk⟩))
     (case aO => exact (by (with_reducible repeat (first | apply Kd.R_alloc | apply Kd.R_drewN | apply Kd.R_drew)); exact Kd.R_mono ar.out (fun _ hk => ⟨hk.1.2, hk.2⟩)))
     (case aS => exact (below_size (BT HB.out)))
     (case aL => have := LMc20.out; omega)
     intro aT dB ho hb hg hat
     rw [← bp.out] at ho
     have au := AM_ (blk_grown (BG1 aa) hg (Kd.R_away ar.out (fun _ hk => hk.2)))
     have av := AM_ (Kd.R_after (ok := (fun k_ => k_ ≠ ad)) (by (with_reducible repeat (first | apply Kd.R_alloc | apply Kd.R_drewN | apply Kd.R_drew)); exact Kd.R_mono ah.out (fun _ hk => ⟨hk.1.2, hk.2⟩)) hg hat)
     have aw := AM_ (hb)
     have az := AM_ (ho)
     clear aa
     clear ah
     clear HB
     clear ar
     have aa := au
     have ah := av
     have HB := aw
     have ay := az
     clear au av aw az
     clear ho hb hg hat
     refine hK.out _ _ ⟨bc aa.out 0, bc aa.out 1⟩ (fun ac => ?_)
     clear hK K
     refine NM 39 ?_
     exact NR (hCont (aV, aT, aJ) _ ⟨ac, (RT ay.out), (by (with_reducible repeat (first | apply Kd.R_alloc | apply Kd.R_drewN | apply Kd.R_drew)); exact Kd.R_mono ah.out (fun _ hk => ⟨hk.2, hk.1⟩)), (BG1 aa), (BT HB.out)⟩)
   rintro ⟨aV, aT, aJ⟩ cc ⟨hS_, h0_, h1_, h2_, h3_⟩
   have au : Aside0 (Kd.R k116 116 cc w.heap.size (fun k_ => some k_ ≠ (aJ : Value).ownBlock ∧ k_ ≠ ad) aT b6) := ⟨h0_⟩
   have av : Aside0 (Kd.R k116 116 cc w.heap.size (fun k_ => some k_ ≠ (aT : Value).ownBlock ∧ k_ ≠ ad) aJ bq) := ⟨h1_⟩
   have aw : Aside0 (cc.heap[ad]? = some (.cells #[.int .i64 ae, .int .i64 af] 116 (0, 0))) := ⟨h2_⟩
   have az : Aside0 (Below w.heap.size w cc) := ⟨h3_⟩
   clear aa
   clear HB
   clear h0_ h1_ h2_ h3_
   have ay := au
   have ah := av
   have aa := aw
   have HB := az
   clear au av aw az
   have ac : cc.cell? ⟨ad, 0, none⟩ = some (.int .i64 ae) ∧ cc.cell? ⟨ad, 1, none⟩ = some (.int .i64 af) := hS_
   obtain ⟨cr, cs, ct⟩ := Kd.R_slice ah.out
   (first | subst ct | (injection ct with f1_ f2_ f3_; have f4_ := f1_.symm; have f5_ := f3_.symm; clear f1_ f2_ f3_; subst f4_; subst f5_))
   refine norm_ (a' := ?_) ?_ ?_
   rotate_left
   ·simp only [putAll, Act.put, List.setIfInBounds_toArray, List.set_cons_zero, List.set_cons_succ]
    rfl
   refine one_ (i := 7) (N := some 42) (lo 11 13) rfl rfl (one_of al.out (by kernel_rfl)) (by decide) (fun K hK => ?_)
   refine Kd.R_append_rows_step k116 (w0 := w) w.heap.size (by rfl) (.tmp 39) (.tmp 41) 45 116 (.agg #[(.int .i64 0), (.int .i64 0)]) 16 rfl Try.underlying45 info116 rfl (by decide) (by omega) aT b6 bq _ _ _ (fun k_ => some k_ ≠ (.slice cr bq.length cs : Value).ownBlock ∧ k_ ≠ ad) (fun _ => False) rfl rfl ?aO ?aR (fun _ _ h => h) (fun _ h => h.elim) ?aF ?aB ?aS ?aL ?_
   (case aR => exact CRR ah)
   (case aB => exact (BT HB.out))
   (case aF => exact (fun k_ hk => ⟨Kd.fresh' (Kd.R_lt (RT ah.out)) k_ hk, Kd.freshB (BG1 aa) k_ hk⟩))
   (case aO => exact (RT ay.out))
   (case aS => exact (below_size (BT HB.out)))
   (case aL => have := LMc21.out; omega)
   intro cJ dO ho hb hg hat
   rw [← cp.out] at ho
   have au := AM_ (blk_grown (BG1 aa) hg (Kd.R_away ay.out (fun _ hk => hk.2)))
   have av := AM_ (Kd.R_after (ok := (fun k_ => k_ ≠ ad)) (by (with_reducible repeat (first | apply Kd.R_alloc | apply Kd.R_drewN | apply Kd.R_drew)); exact Kd.R_mono ah.out (fun _ hk => ⟨hk.2, hk.1⟩)) hg hat)
   have aw := AM_ (hb)
   have az := AM_ (ho)
   clear aa
   clear ah
   clear HB
   clear ay
   have aa := au
   have ah := av
   have HB := aw
   have bv := az
   clear au av aw az
   clear ho hb hg hat
   refine hK.out _ _ ⟨bc aa.out 0, bc aa.out 1⟩ (fun ac => ?_)
   clear hK K
   refine NM 42 ?_
   refine OS al (fun K hK => ?_)
   refine Kd.R_append_rows_step k116 (w0 := w) w.heap.size (by rfl) (.tmp 42) (.tmp 45) 45 116 (.agg #[(.int .i64 0), (.int .i64 0)]) 16 rfl Try.underlying45 info116 rfl (by decide) (by omega) cJ co a3 _ _ _ (fun k_ => some k_ ≠ (.slice cr bq.length cs : Value).ownBlock ∧ k_ ≠ ad) (fun _ => False) rfl rfl ?aO ?aR (fun _ _ h => h) (fun _ h => h.elim) ?aF ?aB ?aS ?aL ?_
   (case aR => exact CB bX.out HB.out)
   (case aB => exact (BT HB.out))
   (case aF => exact (fun k_ hk => ⟨Kd.fresh' (Kd.R_lt (RT ah.out)) k_ hk, Kd.freshB (BG1 aa) k_ hk⟩))
   (case aO => exact (RT bv.out))
   (case aS => exact (below_size (BT HB.out)))
   (case aL => have := LMc24.out; omega)
   intro dC dP ho hb hg hat
   rw [← cq.out] at ho
   have au := AM_ (blk_grown (BG1 aa) hg (Kd.R_away bv.out (fun _ hk => hk.2)))
   have av := AM_ (Kd.R_after (ok := (fun k_ => k_ ≠ ad)) (RT ah.out) hg hat)
   have aw := AM_ (hb)
   have az := AM_ (ho)
   clear aa
   clear ah
   clear HB
   clear bv
   have aa := au
   have ah := av
   have HB := aw
   have cu := az
   clear au av aw az
   clear ho hb hg hat
   refine hK.out _ _ ⟨bc aa.out 0, bc aa.out 1⟩ (fun ac => ?_)
   clear hK K
   refine NM 46 ?_
   refine PS al ?_
   refine done_ (done_of al.out (by kernel_rfl)) ?_
   try go_wp2
   go_ret
   exact ⟨_, ER, by (with_reducible repeat (first | apply Kd.R_alloc | apply Kd.R_drewN | apply Kd.R_drew)); exact Kd.R_mono cu.out (fun _ hk => trivial), BT HB.out⟩

end Go.Proofs.Ytdgknikgfjhohaa.PFnSchemes
