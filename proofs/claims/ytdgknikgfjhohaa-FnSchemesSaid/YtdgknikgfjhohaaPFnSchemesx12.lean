-- Printed by wip/myprint.py.
import Derived.Test.YtdgknikgfjhohaaPFnSchemesx9
import Derived.Test.YtdgknikgfjhohaaPFnSchemesx10
namespace Go.Proofs.Ytdgknikgfjhohaa.PFnSchemes
open Go.RowKit Go.Proofs.YtdgknikgfjhohaaW.PrintWords Go.Proofs.YtdgknikgfjhohaaW.PrintLast Go.Proofs.YtdgknikgfjhohaaW.PrintMore
set_option maxHeartbeats 8000000
set_option maxRecDepth 100000
set_option linter.unusedVariables false
set_option linter.unusedSimpArgs false

/-! ### spec_l6Pair: function 53 -/
def spec_l6Pair.f (k : Nat) (s0_0 : List Int) (s0_1 : Int) (s0_2 : Int) : Option (Int × (List (List (S52))) × Int × Int × Int × Int × Int × Int × Int × (List (S116)) × (List (S103)) × Int × Int) := (spec_l4Any.f k s0_0 s0_1 s0_2).bind fun bt473 => ((spec_l5On.f k s0_0 bt473.2.1 bt473.2.2 bt473.1).bind fun bt479 => ((spec_l1Once.f s0_0 bt479.2.2.2.2.2.2.2.2.2.1 bt479.2.2.2.2.2.2.2.2.2.2 8).bind fun bt495 => (if bt495.1 = true then ((spec_l5Any.f k s0_0 bt495.2.1 bt495.2.2).bind fun bt498 => (some (0, bt473.1, bt498.1, bt498.2.1, bt498.2.2.1, bt498.2.2.2.1, bt498.2.2.2.2.1, bt498.2.2.2.2.2.1, bt498.2.2.2.2.2.2.1, bt498.2.2.2.2.2.2.2.1, bt498.2.2.2.2.2.2.2.2.1, bt498.2.2.2.2.2.2.2.2.2.1, bt498.2.2.2.2.2.2.2.2.2.2))) else (some (0, bt473.1, bt479.1, bt479.2.1, bt479.2.2.1, bt479.2.2.2.1, bt479.2.2.2.2.1, bt479.2.2.2.2.2.1, bt479.2.2.2.2.2.2.1, bt479.2.2.2.2.2.2.2.1, bt479.2.2.2.2.2.2.2.2.1, bt495.2.1, bt495.2.2)))))
theorem spec_l6Pair.mono : ∀ a0 a1 a2 k, LeO (spec_l6Pair.f k a0 a1 a2) (spec_l6Pair.f (k + 1) a0 a1 a2) := by
 intro a0 a1 a2 k
 unfold spec_l6Pair.f
 repeat' (with_reducible first | exact spec_l4Any.mono .. | exact spec_l5Any.mono .. | exact spec_l5On.mono .. | exact LeO.refl _ | exact LeO.none _ | refine LeO.ite ?_ ?_ | refine LeO.bind ?_ (fun _ => ?_))
theorem spec_l6Pair.calls (k : Nat) (A0 : Option Addr) (c0 : Nat) (l0 : List Int) (s0_0 : List Int) (s0_1 : Int) (s0_2 : Int) (r1 : Int) (r2 : List (List (S52))) (r3 : Int) (r4 : Int) (r5 : Int) (r6 : Int) (r7 : Int) (r8 : Int) (r9 : Int) (r10 : List (S116)) (r11 : List (S103)) (r12 : Int) (r13 : Int) (w0 w : World) (hB : Below w0.heap.size w0 w) (cB : Kd.C (Kd.int .u8) w0 A0 l0.length l0) (cC : l0.length ≤ c0) (h1 : spec_l1New.f k l0 = some (s0_0, s0_1, s0_2)) (h : spec_l6Pair.f k s0_0 s0_1 s0_2 = some (r1, r2, r3, r4, r5, r6, r7, r8, r9, r10, r11, r12, r13)) :
  Calls Try.prog 53 #[.slice A0 l0.length c0] w fun e w' => ∃ g_ : Nat, ∃ cD cv bv : Value, e = .returned (.tuple #[.pointer (some ⟨g_, 0, none⟩), .agg #[cD], .agg #[.int .i64 r3, .int .i64 r4, .int .i64 r5, .int .i64 r6, .int .i64 r7, .int .i64 r8, .int .i64 r9, cv, bv]]) ∧ Kd.V (Kd.slice 52 k52) 62 w' w.heap.size (fun k_ => ((w.heap.size ≤ k_) ∧ some k_ ≠ (cv : Value).ownBlock ∧ some k_ ≠ (bv : Value).ownBlock) ∧ k_ ≠ g_) cD r2 ∧ Kd.R k116 116 w' w.heap.size (fun k_ => (w.heap.size ≤ k_)) cv r10 ∧ Kd.R k103 103 w' w.heap.size (fun k_ => (w.heap.size ≤ k_)) bv r11 ∧ IsS164 w0 w' g_ s0_0 r12 r13 ∧ Below w0.heap.size w0 w' ∧ Below w.heap.size w w' := by
 have cW := Try.underlying34
 have cX := Try.underlying48
 have cY := AM_ cB
 have cZ := AM_ cC
 have A1 := AM_ h1
 clear cB cC h1
 have HBW := AM_ (Below.refl w.heap.size w)
 have HL := AM_ hB.size
 have HW0 := AM_ hB.size
 have HB0 := AM_ hB
 have HB := AM_ hB
 clear hB
 have H : ((spec_l4Any.f k s0_0 s0_1 s0_2).bind fun bt473 => ((spec_l5On.f k s0_0 bt473.2.1 bt473.2.2 bt473.1).bind fun bt479 => ((spec_l1Once.f s0_0 bt479.2.2.2.2.2.2.2.2.2.1 bt479.2.2.2.2.2.2.2.2.2.2 8).bind fun bt495 => (if bt495.1 = true then ((spec_l5Any.f k s0_0 bt495.2.1 bt495.2.2).bind fun bt498 => (some (0, bt473.1, bt498.1, bt498.2.1, bt498.2.2.1, bt498.2.2.2.1, bt498.2.2.2.2.1, bt498.2.2.2.2.2.1, bt498.2.2.2.2.2.2.1, bt498.2.2.2.2.2.2.2.1, bt498.2.2.2.2.2.2.2.2.1, bt498.2.2.2.2.2.2.2.2.2.1, bt498.2.2.2.2.2.2.2.2.2.2))) else (some (0, bt473.1, bt479.1, bt479.2.1, bt479.2.2.1, bt479.2.2.2.1, bt479.2.2.2.2.1, bt479.2.2.2.2.2.1, bt479.2.2.2.2.2.2.1, bt479.2.2.2.2.2.2.2.1, bt479.2.2.2.2.2.2.2.2.1, bt495.2.1, bt495.2.2)))))) = some (r1, r2, r3, r4, r5, r6, r7, r8, r9, r10, r11, r12, r13) := h
 clear h
 obtain ⟨⟨aE, bw, bx⟩, A2, H⟩ := OB H
 obtain ⟨⟨be, bf, bg, bh, bi, bj, bk, aF, aG, bm, bn⟩, A3, H⟩ := OB H
 obtain ⟨⟨bz, bo, bp⟩, A4, H⟩ := OB H
 go_enter Try.func53, Try.ntmps53
 go_upto_if 16 with (first | ((with_reducible refine G2 3 rfl ?_); refine BX 3 #[.slice none 0 0] 34 ?_; intro al hg w7 hbox hb; replace HB := BW HB hb; have aj := AM_ ((hbox)); have cE := AM_ ((by rw [hg]; exact (below_size (BZ0 HBW)) : w.heap.size ≤ al)); have GE471 := AM_ ((Nat.le_trans HW0.out (by rw [hg]; exact (below_size (BZ0 HBW)) : w.heap.size ≤ al) : w0.heap.size ≤ al)); replace HBW := AM_ (below_step (BZ0 HBW) hb); clear hb hbox hg) | ((with_reducible refine G2 4 rfl ?_); refine BX 4 #[.int .i64 0, .int .i64 0, .int .i64 0, .int .i64 0, .int .i64 0, .int .i64 0, .int .i64 0, .slice none 0 0, .slice none 0 0] 48 ?_; intro an hg w8 hbox hb; replace HB := BW HB hb; have ac := AM_ ((hbox)); have cF := AM_ ((by rw [hg]; exact (below_size (BZ0 HBW)) : w.heap.size ≤ an)); have GE472 := AM_ ((Nat.le_trans HW0.out (by rw [hg]; exact (below_size (BZ0 HBW)) : w.heap.size ≤ an) : w0.heap.size ≤ an)); replace HBW := AM_ (below_step (BZ0 HBW) hb); have aa := NP aj hg; have ag := NQ aj hg; replace aj := BV aj hb; clear hb hbox hg) | ((with_reducible refine G1 87 rfl ?_); refine GC (some 9) Try.func87 #[.slice A0 l0.length c0] ?_; (with_reducible refine (spec_l1New.calls k _ _ l0 s0_0 s0_1 s0_2 w0 _ ?side1 cY.out cZ.out A1.out).mono ?_); (case side1 => exact BZ0 HB); rintro e dc ⟨g, rfl, hi, hb, hb2, hgw⟩; refine ⟨_, rfl, ?_⟩; have bA := AM_ (blk_below (BG1 aj) hb2); have bB := AM_ (blk_below (BG1 ac) hb2); have bC := AM_ (hb); have bD := AM_ (hi); have bE := AM_ (IsS164.ne_blk hi (blk_below (BG1 aj) hb2) (by decide)); have bF := AM_ (Ne.symm (IsS164.ne_blk hi (blk_below (BG1 aj) hb2) (by decide))); have bG := AM_ (IsS164.ne_blk hi (blk_below (BG1 ac) hb2) (by decide)); have bH := AM_ (Ne.symm (IsS164.ne_blk hi (blk_below (BG1 ac) hb2) (by decide))); have bI := AM_ (KeepBut.of_below (below_step (BZ0 HBW) hb2) g none); have bJ := AM_ ((Nat.le_trans (below_size (BZ0 HBW)) hgw : w.heap.size ≤ g)); clear aj; clear ac; clear HB; clear HBW; have aj := bA; have ac := bB; have HB := bC; have au := bD; have bO := bE; have aB := bF; have bP := bG; have aC := bH; have HK := bI; have HG := bJ; clear bA bB bC bD bE bF bG bH bI bJ; (try clear hb); (try clear hgw); (try clear hb)) | ((with_reducible refine G1 88 rfl ?_); refine GC (some 11) Try.func88 #[.pointer (some ⟨g, 0, none⟩)] ?_; (with_reducible refine (spec_l4Any.calls k g s0_0 s0_1 s0_2 aE bw bx w0 _ ?side1 ?side2 A2.out).mono ?_); (case side1 => exact IZ au); (case side2 => exact BZ1 HB au); rintro e w9 ⟨c1, rfl, aY, hi, hb, hk⟩; refine ⟨_, rfl, ?_⟩; have ao := AM_ (Kd.V_lower (Kd.V_mono (ok' := fun k_ => (w.heap.size ≤ k_) ∧ k_ ≠ al ∧ k_ ≠ an ∧ k_ ≠ g) aY (fun k_ hk_ => ⟨(Nat.le_trans (KS HK) hk_), (Kd.freshB (BG1 aj) k_ hk_), (Kd.freshB (BG1 ac) k_ hk_), (IsS164.fresh (IZ au) k_ hk_)⟩)) (KS HK)); replace aj := KB aj hk aB; replace ac := KB ac hk aC; replace HK := KY HK hk; replace HB := AM_ (hb); replace au := AM_ (hi); (try clear hb); (try clear aY)) | ((with_reducible refine G2 6 rfl ?_); refine BX 6 #[.slice none 0 0] 34 ?_; intro aw hg dd hbox hb; replace ao := AM_ (Kd.V_below (Kd.V_elderB (by (with_reducible repeat (first | apply Kd.V_alloc | apply Kd.V_drewN | apply Kd.V_drew)); exact ao.out) aw (Nat.le_of_eq hg.symm)) hb); replace HB := BW1 HB au hb; have ap := AM_ (hbox); have cG := GK HK hg; have GE478 := GE1 HW0 HK hg; replace HK := KX HK hb; have ay := NP aj hg; have av := NQ aj hg; replace aj := BV aj hb; have ai := NP ac hg; have ae := NQ ac hg; replace ac := BV ac hb; have bq := NI au hg; have aD := NJ au hg; replace au := IB au hb; clear hb hbox hg; obtain ⟨aL, aM, cw⟩ := Kd.V_slice ao.out; subst cw; have cH := av.out; have cI := ay.out; have cJ := ae.out; have cK := ai.out; have cL := aD.out; have cM := bq.out; obtain ⟨bQ, bR⟩ := bk1 ap.out) | ((with_reducible refine G1 89 rfl ?_); refine GC (some 14) Try.func89 #[.pointer (some ⟨g, 0, none⟩), .agg #[.slice aL aE.length aM]] ?_; (with_reducible refine (spec_l5On.calls k g s0_0 bw bx _ _ aE be bf bg bh bi bj bk aF aG bm bn w0 _ ?side1 ?side2 ?side3 (Kd.V_reads' ao.out).2.1 A3.out).mono ?_); (case side1 => exact IZ au); (case side2 => exact BZ1 HB au); (case side3 => exact Kd.C_foot_ownV (e := 0) (base := 0) (Kd.V_mono (ok := fun k_ => ((((w.heap.size ≤ k_)) ∧ (k_ ≠ al ∧ (k_ ≠ an ∧ k_ ≠ g))) ∧ k_ ≠ aw)) (by (with_reducible repeat (first | apply Kd.V_alloc | apply Kd.V_drewN | apply Kd.V_drew)); exact (Kd.V_mono (VF1 (Kd.V_mono ao.out (fun k_ hk => (⟨hk, hk.2⟩ : _ ∧ k_ ≠ aw))) (fun _ hk => hk.2)) (fun _ h_ => h_.1))) (fun k_ hk_ => (⟨hk_, hk_.1.2.2.2⟩ : _ ∧ k_ ≠ g))) (fun _ h_ => h_.2)); rintro e de ⟨c2, c3, rfl, aY, bu, hi, hb, hk⟩; refine ⟨_, rfl, ?_⟩; replace aj := KB aj hk aB; replace ac := KB ac hk aC; replace ao := AM_ (Kd.V_mono (Kd.V_told (Kd.V_told (Kd.V_oldK (Kd.V_mono (ok := fun k_ => ((((w.heap.size ≤ k_)) ∧ (k_ ≠ al ∧ (k_ ≠ an ∧ k_ ≠ g))) ∧ k_ ≠ aw)) (by (with_reducible repeat (first | apply Kd.V_alloc | apply Kd.V_drewN | apply Kd.V_drew)); exact (Kd.V_mono (VF1 (Kd.V_mono ao.out (fun k_ hk => (⟨hk, hk.2⟩ : _ ∧ k_ ≠ aw))) (fun _ hk => hk.2)) (fun _ h_ => h_.1))) (fun k_ hk_ => (⟨hk_, hk_.1.2.2.2⟩ : _ ∧ k_ ≠ g))) hk) (Kd.R_base aY)) (Kd.R_base bu)) (fun _ h_ => h_.1)); replace ap := AM_ (KeepBut.blk hk (g' := aw) (o := .cells #[.slice aL aE.length aM] 34 (0, 0)) (by (with_reducible repeat (first | refine blk_drewN ?_ _ | refine blk_drew ?_ | refine blk_alloc ?_ _)); refine blk_put (cs := #[.slice none 0 0]) ?_ 0 _ rfl; (with_reducible repeat (first | refine blk_drewN ?_ _ | refine blk_drew ?_ | refine blk_alloc ?_ _)); exact ap.out) aD.out (by simp)); have aq := AM_ (Kd.R_lower (Kd.R_newM (M := fun k_ => (w.heap.size ≤ k_)) aY (KS HK) (fun k_ h_ => h_)) (KS HK)); have ar := AM_ (Kd.R_lower (Kd.R_newM (M := fun k_ => (w.heap.size ≤ k_)) bu (KS HK) (fun k_ h_ => h_)) (KS HK)); replace HK := KY HK hk; replace HB := AM_ (hb); replace au := AM_ (hi); (try clear hb); (try clear aY); (try clear bu)) | ((with_reducible refine G2 7 rfl ?_); refine BX 7 #[.int .i64 0, .int .i64 0, .int .i64 0, .int .i64 0, .int .i64 0, .int .i64 0, .int .i64 0, .slice none 0 0, .slice none 0 0] 48 ?_; intro am hg df hbox hb; replace ao := AM_ (Kd.V_below (Kd.V_elderB (by (with_reducible repeat (first | apply Kd.V_alloc | apply Kd.V_drewN | apply Kd.V_drew)); exact ao.out) am (Nat.le_of_eq hg.symm)) hb); replace aq := RB aq hb; replace ar := RB ar hb; replace HB := BW1 HB au hb; have ak := AM_ (hbox); have cN := GK HK hg; have GE494 := GE1 HW0 HK hg; replace HK := KX HK hb; have ax := NP aj hg; have af := NQ aj hg; replace aj := BV aj hb; have ah := NP ac hg; have ab := NQ ac hg; replace ac := BV ac hb; have aH := NP ap hg; have aV := NQ ap hg; replace ap := BV ap hb; have br := NI au hg; have aI := NJ au hg; replace au := IB au hb; clear hb hbox hg; have cO := af.out; have cP := ax.out; have cQ := ab.out; have cR := ah.out; have cS := aV.out; have cT := aH.out; have cU := aI.out; have cV := br.out; obtain ⟨bS, bT, bU, bV, bW, bX, bY, bZ, b0, b1, b2, b3, b4, b6, b7, b8, ca, cb⟩ := bk9 ak.out; obtain ⟨aN, aO, cx⟩ := Kd.R_slice aq.out; subst cx; obtain ⟨aP, aQ, cy⟩ := Kd.R_slice ar.out; subst cy) | ((with_reducible refine G1 90 rfl ?_); refine GC (some 16) Try.func90 #[.pointer (some ⟨g, 0, none⟩), .int .i64 8] ?_; (with_reducible refine (spec_l1Once.calls g s0_0 bm bn 8 bz bo bp w0 _ ?side1 ?side2 A4.out).mono ?_); (case side1 => exact IZ au); (case side2 => exact BZ1 HB au); rintro e c6 ⟨rfl, hi, hb, hk⟩; refine ⟨_, rfl, ?_⟩; replace aj := KB aj hk aB; replace ac := KB ac hk aC; replace ao := AM_ (Kd.V_mono (Kd.V_keep (Kd.V_mono (ok := fun k_ => (((((((w.heap.size ≤ k_)) ∧ (k_ ≠ al ∧ (k_ ≠ an ∧ k_ ≠ g))) ∧ k_ ≠ aw) ∧ some k_ ≠ (.slice aN aF.length aO : Value).ownBlock) ∧ some k_ ≠ (.slice aP aG.length aQ : Value).ownBlock) ∧ k_ ≠ am)) (by (with_reducible repeat (first | apply Kd.V_alloc | apply Kd.V_drewN | apply Kd.V_drew)); exact (Kd.V_mono (VF9 (Kd.V_mono ao.out (fun k_ hk => (⟨hk, hk.2⟩ : _ ∧ k_ ≠ am))) (fun _ hk => hk.2)) (fun _ h_ => h_.1))) (fun k_ hk_ => (⟨hk_, hk_.1.1.1.1.2.2.2⟩ : _ ∧ k_ ≠ g))) hk (fun _ h => h.2)) (fun _ h => h.1)); replace ap := KB ap hk aD; replace aq := AM_ (Kd.R_mono (Kd.R_keep (IsS164.apart (show IsS164 w0 _ g s0_0 bm bn from IZ au) (RF aq.out ak.out) (by decide)) hk (fun _ h => h.2)) (fun _ h => h.1)); replace ar := AM_ (Kd.R_mono (Kd.R_keep (IsS164.apart (show IsS164 w0 _ g s0_0 bm bn from IZ au) (RF ar.out ak.out) (by decide)) hk (fun _ h => h.2)) (fun _ h => h.1)); replace ak := AM_ (KeepBut.blk hk (g' := am) (o := .cells #[.int .i64 be, .int .i64 bf, .int .i64 bg, .int .i64 bh, .int .i64 bi, .int .i64 bj, .int .i64 bk, .slice aN aF.length aO, .slice aP aG.length aQ] 48 (0, 0)) (by (with_reducible repeat (first | refine blk_drewN ?_ _ | refine blk_drew ?_ | refine blk_alloc ?_ _)); apply BP9; (with_reducible repeat (first | refine blk_drewN ?_ _ | refine blk_drew ?_ | refine blk_alloc ?_ _)); exact ak.out) aI.out (by simp)); replace HK := KY HK hk; replace HB := AM_ (hb); replace au := AM_ (hi); (try clear hb)))
 by_cases c5 : bz = true
 rotate_left
 ·replace c5 := Bool.eq_false_iff.mpr c5
  subst c5
  replace H := HF H
  simp only [Option.some.injEq, Prod.mk.injEq] at H
  obtain ⟨rfl, rfl, rfl, rfl, rfl, rfl, rfl, rfl, rfl, rfl, rfl, rfl, rfl⟩ := H
  try go_wp2
  replace ao := AM_ (Kd.V_drew ao.out)
  replace aq := AM_ (Kd.R_drew aq.out)
  replace ar := AM_ (Kd.R_drew ar.out)
  replace aj := BD1 aj
  replace ac := BD1 ac
  replace ap := BD1 ap
  replace ak := BD1 ak
  replace au := AM_ (IsS164.drew au.out)
  replace HK := AM_ (keep_drew HK.out)
  replace HB := BD2 HB
  refine start_ (n := 6) (S := fun w' => w'.cell? ⟨aw, 0, none⟩ = some (.slice aL aE.length aM) ∧ w'.cell? ⟨am, 0, none⟩ = some (.int .i64 be) ∧ w'.cell? ⟨am, 1, none⟩ = some (.int .i64 bf) ∧ w'.cell? ⟨am, 2, none⟩ = some (.int .i64 bg) ∧ w'.cell? ⟨am, 3, none⟩ = some (.int .i64 bh) ∧ w'.cell? ⟨am, 4, none⟩ = some (.int .i64 bi) ∧ w'.cell? ⟨am, 5, none⟩ = some (.int .i64 bj) ∧ w'.cell? ⟨am, 6, none⟩ = some (.int .i64 bk) ∧ w'.cell? ⟨am, 7, none⟩ = some (.slice aN aF.length aO) ∧ w'.cell? ⟨am, 8, none⟩ = some (.slice aP aG.length aQ)) (ds := []) (lo 0 6) (by kernel_rfl) rfl rfl ⟨bc ap.out 0, bc ak.out 0, bc ak.out 1, bc ak.out 2, bc ak.out 3, bc ak.out 4, bc ak.out 5, bc ak.out 6, bc ak.out 7, bc ak.out 8⟩ (fun ad => ?_)
  generalize c6.drew = bb at ao aq ar aj ac ap ak au HK HB ad ⊢
  refine pure_ (i := 0) (N := some 19) (v := ?_) (a' := ?_) (lo 1 6) rfl rfl (by kernel_rfl) (fun _ _ _ h => h) (Or.inl ⟨by rfl, ?_⟩) ?_ ?_
  rotate_left
  ·intro w'
   go_simp
   with_reducible rfl
  rotate_left
  ·simp only[pA,pS,pZ,pK,pV]
   rfl
  refine pure_ (i := 3) (N := some 2) (v := ?_) (a' := ?_) (bs 9 6) rfl rfl (by kernel_rfl) (fun _ _ _ h => h) (Or.inl ⟨by rfl, ?_⟩) ?_ ?_
  rotate_left
  ·intro w'
   go_simp
   with_reducible rfl
  rotate_left
  ·simp only[pA,pS,pZ,pK,pV]
   rfl
  refine take_ (i := 1) (N := some 20) (v := ?_) (a' := ?_) (bs 11 6) rfl rfl (by kernel_rfl) (fun _ _ _ h => h) (Or.inl ⟨by rfl, ?_⟩) ad ?_ ?_
  rotate_left
  ·rintro w' ⟨s0, s1, s2, s3, s4, s5, s6, s7, s8, s9⟩
   go_simp
   with_reducible rfl
  rotate_left
  ·simp only[pA,pS,pZ,pK,pV]
   rfl
  refine take_ (i := 2) (N := some 21) (v := ?_) (a' := ?_) (lo 4 6) rfl rfl (by kernel_rfl) (fun _ _ _ h => h) (Or.inl ⟨by rfl, ?_⟩) ad ?_ ?_
  rotate_left
  ·rintro w' ⟨s0, s1, s2, s3, s4, s5, s6, s7, s8, s9⟩
   go_simp
   with_reducible rfl
  rotate_left
  ·simp only[pA,pS,pZ,pK,pV]
   rfl
  refine one_ (i := 4) (N := none) (lo 5 6) rfl rfl (by kernel_rfl) (by decide) (fun K hK => ?_)
  have hs62 : bb.cell? ⟨al, 0, none⟩ = some (.slice none 0 0) := (blk_cell aj.out 0).trans rfl
  have hfs62 := blk_frozen aj.out 0
  have hns62_1 := ag.out
  have hns62_2 := av.out
  have hns62_3 := af.out
  have hms62_1 := aa.out
  have hms62_2 := ay.out
  have hms62_3 := ax.out
  refine skip_ (w1 := ?_) (by rfl) rfl ?_ ?_
  rotate_left
  ·go_simp
   rfl
  refine hK.out _ _ ⟨((cell_far (p := ⟨al, _, none⟩) av.out _).trans (ad.1)), ((cell_far (p := ⟨al, _, none⟩) af.out _).trans (ad.2.1)), ((cell_far (p := ⟨al, _, none⟩) af.out _).trans (ad.2.2.1)), ((cell_far (p := ⟨al, _, none⟩) af.out _).trans (ad.2.2.2.1)), ((cell_far (p := ⟨al, _, none⟩) af.out _).trans (ad.2.2.2.2.1)), ((cell_far (p := ⟨al, _, none⟩) af.out _).trans (ad.2.2.2.2.2.1)), ((cell_far (p := ⟨al, _, none⟩) af.out _).trans (ad.2.2.2.2.2.2.1)), ((cell_far (p := ⟨al, _, none⟩) af.out _).trans (ad.2.2.2.2.2.2.2.1)), ((cell_far (p := ⟨al, _, none⟩) af.out _).trans (ad.2.2.2.2.2.2.2.2.1)), ((cell_far (p := ⟨al, _, none⟩) af.out _).trans (ad.2.2.2.2.2.2.2.2.2))⟩ (fun ad => ?_)
  clear hK K
  refine one_ (i := 5) (N := none) (lo 6 6) rfl rfl (by kernel_rfl) (by decide) (fun K hK => ?_)
  have hs63 : bb.cell? ⟨an, 0, none⟩ = some (.int .i64 0) := (blk_cell ac.out 0).trans rfl
  have hfs63 := blk_frozen ac.out 0
  have hns63_0 := aa.out
  have hns63_2 := ae.out
  have hns63_3 := ab.out
  have hms63_0 := ag.out
  have hms63_2 := ai.out
  have hms63_3 := ah.out
  have hs64 : bb.cell? ⟨an, 1, none⟩ = some (.int .i64 0) := (blk_cell ac.out 1).trans rfl
  have hfs64 := blk_frozen ac.out 1
  have hns64_0 := aa.out
  have hns64_2 := ae.out
  have hns64_3 := ab.out
  have hms64_0 := ag.out
  have hms64_2 := ai.out
  have hms64_3 := ah.out
  have hs65 : bb.cell? ⟨an, 2, none⟩ = some (.int .i64 0) := (blk_cell ac.out 2).trans rfl
  have hfs65 := blk_frozen ac.out 2
  have hns65_0 := aa.out
  have hns65_2 := ae.out
  have hns65_3 := ab.out
  have hms65_0 := ag.out
  have hms65_2 := ai.out
  have hms65_3 := ah.out
  have hs66 : bb.cell? ⟨an, 3, none⟩ = some (.int .i64 0) := (blk_cell ac.out 3).trans rfl
  have hfs66 := blk_frozen ac.out 3
  have hns66_0 := aa.out
  have hns66_2 := ae.out
  have hns66_3 := ab.out
  have hms66_0 := ag.out
  have hms66_2 := ai.out
  have hms66_3 := ah.out
  have hs67 : bb.cell? ⟨an, 4, none⟩ = some (.int .i64 0) := (blk_cell ac.out 4).trans rfl
  have hfs67 := blk_frozen ac.out 4
  have hns67_0 := aa.out
  have hns67_2 := ae.out
  have hns67_3 := ab.out
  have hms67_0 := ag.out
  have hms67_2 := ai.out
  have hms67_3 := ah.out
  have hs68 : bb.cell? ⟨an, 5, none⟩ = some (.int .i64 0) := (blk_cell ac.out 5).trans rfl
  have hfs68 := blk_frozen ac.out 5
  have hns68_0 := aa.out
  have hns68_2 := ae.out
  have hns68_3 := ab.out
  have hms68_0 := ag.out
  have hms68_2 := ai.out
  have hms68_3 := ah.out
  have hs69 : bb.cell? ⟨an, 6, none⟩ = some (.int .i64 0) := (blk_cell ac.out 6).trans rfl
  have hfs69 := blk_frozen ac.out 6
  have hns69_0 := aa.out
  have hns69_2 := ae.out
  have hns69_3 := ab.out
  have hms69_0 := ag.out
  have hms69_2 := ai.out
  have hms69_3 := ah.out
  have hs70 : bb.cell? ⟨an, 7, none⟩ = some (.slice none 0 0) := (blk_cell ac.out 7).trans rfl
  have hfs70 := blk_frozen ac.out 7
  have hns70_0 := aa.out
  have hns70_2 := ae.out
  have hns70_3 := ab.out
  have hms70_0 := ag.out
  have hms70_2 := ai.out
  have hms70_3 := ah.out
  have hs71 : bb.cell? ⟨an, 8, none⟩ = some (.slice none 0 0) := (blk_cell ac.out 8).trans rfl
  have hfs71 := blk_frozen ac.out 8
  have hns71_0 := aa.out
  have hns71_2 := ae.out
  have hns71_3 := ab.out
  have hms71_0 := ag.out
  have hms71_2 := ai.out
  have hms71_3 := ah.out
  refine skip_ (w1 := ?_) (by rfl) rfl ?_ ?_
  rotate_left
  ·go_simp
   rfl
  refine hK.out _ _ ⟨(CF9 ae.out (ad.1)), (CF9 ab.out (ad.2.1)), (CF9 ab.out (ad.2.2.1)), (CF9 ab.out (ad.2.2.2.1)), (CF9 ab.out (ad.2.2.2.2.1)), (CF9 ab.out (ad.2.2.2.2.2.1)), (CF9 ab.out (ad.2.2.2.2.2.2.1)), (CF9 ab.out (ad.2.2.2.2.2.2.2.1)), (CF9 ab.out (ad.2.2.2.2.2.2.2.2.1)), (CF9 ab.out (ad.2.2.2.2.2.2.2.2.2))⟩ (fun ad => ?_)
  clear hK K
  refine done_ (by kernel_rfl) ?_
  try go_wp2
  refine bodyPost_ret (results_list (rs := [.tmp 2, .cell 3 34, .cell 4 48]) rfl (by simp) (.tmp (.cell al 34 #[.slice aL aE.length aM] (0, 0) _ rfl (by (with_reducible repeat (first | refine blk_drewN ?_ _ | refine blk_drew ?_ | refine blk_alloc ?_ _)); refine blk_far ?_ aa.out _; (with_reducible repeat (first | refine blk_drewN ?_ _ | refine blk_drew ?_ | refine blk_alloc ?_ _)); refine blk_far ?_ aa.out _; (with_reducible repeat (first | refine blk_drewN ?_ _ | refine blk_drew ?_ | refine blk_alloc ?_ _)); refine blk_far ?_ aa.out _; (with_reducible repeat (first | refine blk_drewN ?_ _ | refine blk_drew ?_ | refine blk_alloc ?_ _)); refine blk_far ?_ aa.out _; (with_reducible repeat (first | refine blk_drewN ?_ _ | refine blk_drew ?_ | refine blk_alloc ?_ _)); refine blk_far ?_ aa.out _; (with_reducible repeat (first | refine blk_drewN ?_ _ | refine blk_drew ?_ | refine blk_alloc ?_ _)); refine blk_far ?_ aa.out _; (with_reducible repeat (first | refine blk_drewN ?_ _ | refine blk_drew ?_ | refine blk_alloc ?_ _)); refine blk_far ?_ aa.out _; (with_reducible repeat (first | refine blk_drewN ?_ _ | refine blk_drew ?_ | refine blk_alloc ?_ _)); refine blk_far ?_ aa.out _; (with_reducible repeat (first | refine blk_drewN ?_ _ | refine blk_drew ?_ | refine blk_alloc ?_ _)); refine blk_far ?_ aa.out _; (with_reducible repeat (first | refine blk_drewN ?_ _ | refine blk_drew ?_ | refine blk_alloc ?_ _)); refine blk_put (cs := #[.slice none 0 0]) ?_ 0 _ rfl; (with_reducible repeat (first | refine blk_drewN ?_ _ | refine blk_drew ?_ | refine blk_alloc ?_ _)); exact aj.out) Try.underlying34 rfl (by kernel_rfl) (.cell an 48 #[.int .i64 be, .int .i64 bf, .int .i64 bg, .int .i64 bh, .int .i64 bi, .int .i64 bj, .int .i64 bk, .slice aN aF.length aO, .slice aP aG.length aQ] (0, 0) _ rfl (by (with_reducible repeat (first | refine blk_drewN ?_ _ | refine blk_drew ?_ | refine blk_alloc ?_ _)); apply BP9; exact BG1 ac) Try.underlying48 rfl (by kernel_rfl) .nil)))) rfl ?_
  exact ⟨g, _, _, _, ER, by (with_reducible repeat (first | apply Kd.V_alloc | apply Kd.V_drewN | apply Kd.V_drew)); exact Kd.V_mono (VF9 (VF1 (Kd.V_mono (Kd.V_mono ao.out (fun k_ hk => (⟨hk, hk.1.1.1.1.2.1⟩ : _ ∧ k_ ≠ al))) (fun k_ hk => (⟨hk, hk.1.1.1.1.1.2.2.1⟩ : _ ∧ k_ ≠ an))) (fun _ hk => hk.1.2)) (fun _ hk => hk.2)) (fun _ hk => ⟨⟨hk.1.1.1.1.1.1.1, ⟨hk.1.1.1.1.2, hk.1.1.1.2⟩⟩, by omega⟩), by (with_reducible repeat (first | apply Kd.R_alloc | apply Kd.R_drewN | apply Kd.R_drew)); exact Kd.R_mono (RF9 (RF1 (Kd.R_types (Kd.R_types aq.out aj.out (by decide)) ac.out (by decide)) (fun _ hk => hk.1.2)) (fun _ hk => hk.2)) (fun _ hk => hk.1.1.1), by (with_reducible repeat (first | apply Kd.R_alloc | apply Kd.R_drewN | apply Kd.R_drew)); exact Kd.R_mono (RF9 (RF1 (Kd.R_types (Kd.R_types ar.out aj.out (by decide)) ac.out (by decide)) (fun _ hk => hk.1.2)) (fun _ hk => hk.2)) (fun _ hk => hk.1.1.1), IZ au, BZ1 HB au, below_of_keep HB0.out (BZ1 HB au) (KZ HK) HG.out⟩
 subst c5
 replace H := HT H
 obtain ⟨⟨aZ, a5, a6, a7, a8, a9, ba, aJ, aK, bK, bL⟩, A6, H⟩ := OB H
 simp only [Option.some.injEq, Prod.mk.injEq] at H
 obtain ⟨rfl, rfl, rfl, rfl, rfl, rfl, rfl, rfl, rfl, rfl, rfl, rfl, rfl⟩ := H
 try go_wp2_with (first | ((with_reducible refine G1 91 rfl ?_); refine GC (some 18) Try.func91 #[.pointer (some ⟨g, 0, none⟩)] ?_; (with_reducible refine (spec_l5Any.calls k g s0_0 bo bp aZ a5 a6 a7 a8 a9 ba aJ aK bK bL w0 _ ?side1 ?side2 A6.out).mono ?_); (case side1 => exact IZ au); (case side2 => exact BZ1 HB au); rintro e c8 ⟨da, db, rfl, aY, bu, hi, hb, hk⟩; refine ⟨_, rfl, ?_⟩; replace aj := KB aj hk aB; replace ac := KB ac hk aC; replace ao := AM_ (Kd.V_mono (Kd.V_told (Kd.V_told (Kd.V_oldK (Kd.V_mono (ok := fun k_ => (((((((w.heap.size ≤ k_)) ∧ (k_ ≠ al ∧ (k_ ≠ an ∧ k_ ≠ g))) ∧ k_ ≠ aw) ∧ some k_ ≠ (.slice aN aF.length aO : Value).ownBlock) ∧ some k_ ≠ (.slice aP aG.length aQ : Value).ownBlock) ∧ k_ ≠ am)) (by (with_reducible repeat (first | apply Kd.V_alloc | apply Kd.V_drewN | apply Kd.V_drew)); exact ao.out) (fun k_ hk_ => (⟨hk_, hk_.1.1.1.1.2.2.2⟩ : _ ∧ k_ ≠ g))) hk) (Kd.R_base aY)) (Kd.R_base bu)) (fun _ h_ => h_.1)); replace ap := KB ap hk aD; replace ak := KB ak hk aI; have az := AM_ (Kd.R_lower (Kd.R_new' (Kd.R_newM (M := fun k_ => (w.heap.size ≤ k_)) aY (KS HK) (fun k_ h_ => h_)) (Kd.R_lt (RT aq.out))) (KS HK)); replace aq := AM_ (Kd.R_mono (Kd.R_told (Kd.R_oldK (IsS164.apart (show IsS164 w0 _ g s0_0 bo bp from IZ au) (RT aq.out) (by decide)) hk) (Kd.R_base aY)) (fun _ h_ => h_.1)); have aA := AM_ (Kd.R_lower (Kd.R_new' (Kd.R_newM (M := fun k_ => (w.heap.size ≤ k_)) bu (KS HK) (fun k_ h_ => h_)) (Kd.R_lt (RT ar.out))) (KS HK)); replace ar := AM_ (Kd.R_mono (Kd.R_told (Kd.R_oldK (IsS164.apart (show IsS164 w0 _ g s0_0 bo bp from IZ au) (RT ar.out) (by decide)) hk) (Kd.R_base bu)) (fun _ h_ => h_.1)); replace HK := KY HK hk; replace HB := AM_ (hb); replace au := AM_ (hi); (try clear hb); (try clear aY); (try clear bu); obtain ⟨cc, cd, ce, cf, cg, ch, ci, cj, ck, cl, cm, cn, co, cp, cq, cr, ct, cu⟩ := bk9 ak.out; obtain ⟨aR, aS, cz⟩ := Kd.R_slice az.out; subst cz; obtain ⟨aT, aU, cA⟩ := Kd.R_slice aA.out; subst cA))
 generalize aW : ((((((((c8.setCell ⟨am, 0, none⟩ (.int .i64 aZ)).setCell ⟨am, 1, none⟩ (.int .i64 a5)).setCell ⟨am, 2, none⟩ (.int .i64 a6)).setCell ⟨am, 3, none⟩ (.int .i64 a7)).setCell ⟨am, 4, none⟩ (.int .i64 a8)).setCell ⟨am, 5, none⟩ (.int .i64 a9)).setCell ⟨am, 6, none⟩ (.int .i64 ba)).setCell ⟨am, 7, none⟩ (.slice aR aJ.length aS)).setCell ⟨am, 8, none⟩ (.slice aT aK.length aU) = aX
 have bA : Aside0 (Kd.V (Kd.slice 52 k52) 62 aX w.heap.size (fun k_ => (w.heap.size ≤ k_) ∧ some k_ ≠ (.slice aN aF.length aO : Value).ownBlock ∧ some k_ ≠ (.slice aP aG.length aQ : Value).ownBlock ∧ some k_ ≠ (.slice aR aJ.length aS : Value).ownBlock ∧ some k_ ≠ (.slice aT aK.length aU : Value).ownBlock ∧ k_ ≠ al ∧ k_ ≠ an ∧ k_ ≠ g ∧ k_ ≠ aw ∧ k_ ≠ am) (.slice aL aE.length aM) aE) := by subst aW; exact ⟨by (with_reducible repeat (first | apply Kd.V_alloc | apply Kd.V_drewN | apply Kd.V_drew)); exact Kd.V_mono (VF9 (Kd.V_mono ao.out (fun k_ hk => (⟨hk, hk.1.1.2⟩ : _ ∧ k_ ≠ am))) (fun _ hk => hk.2)) (fun _ hk => ⟨hk.1.1.1.1.1.1.1.1, ⟨hk.1.1.1.1.1.2, ⟨hk.1.1.1.1.2, ⟨hk.1.1.2, ⟨hk.1.2, ⟨hk.1.1.1.1.1.1.1.2.1, ⟨hk.1.1.1.1.1.1.1.2.2.1, ⟨hk.1.1.1.1.1.1.1.2.2.2, ⟨hk.1.1.1.1.1.1.2, hk.1.1.1.2⟩⟩⟩⟩⟩⟩⟩⟩⟩)⟩
 have bB : Aside0 (Kd.R k116 116 aX w.heap.size (fun k_ => (w.heap.size ≤ k_) ∧ some k_ ≠ (.slice aR aJ.length aS : Value).ownBlock) (.slice aN aF.length aO) aF) := by subst aW; exact ⟨by (with_reducible repeat (first | apply Kd.R_alloc | apply Kd.R_drewN | apply Kd.R_drew)); exact Kd.R_mono (RF9 (Kd.R_types aq.out ak.out (by decide)) (fun _ hk => hk.2)) (fun _ hk => ⟨hk.1.1.1, hk.1.2⟩)⟩
 have bC : Aside0 (Kd.R k103 103 aX w.heap.size (fun k_ => (w.heap.size ≤ k_) ∧ some k_ ≠ (.slice aT aK.length aU : Value).ownBlock) (.slice aP aG.length aQ) aG) := by subst aW; exact ⟨by (with_reducible repeat (first | apply Kd.R_alloc | apply Kd.R_drewN | apply Kd.R_drew)); exact Kd.R_mono (RF9 (Kd.R_types ar.out ak.out (by decide)) (fun _ hk => hk.2)) (fun _ hk => ⟨hk.1.1.1, hk.1.2⟩)⟩
 have bD : Aside0 (Kd.R k116 116 aX w.heap.size (fun k_ => (w.heap.size ≤ k_) ∧ some k_ ≠ (.slice aN aF.length aO : Value).ownBlock) (.slice aR aJ.length aS) aJ) := by subst aW; exact ⟨by (with_reducible repeat (first | apply Kd.R_alloc | apply Kd.R_drewN | apply Kd.R_drew)); exact Kd.R_mono (RF9 (Kd.R_types az.out ak.out (by decide)) (fun _ hk => hk.2)) (fun _ hk => ⟨hk.1.1.1, hk.1.2⟩)⟩
 have bE : Aside0 (Kd.R k103 103 aX w.heap.size (fun k_ => (w.heap.size ≤ k_) ∧ some k_ ≠ (.slice aP aG.length aQ : Value).ownBlock) (.slice aT aK.length aU) aK) := by subst aW; exact ⟨by (with_reducible repeat (first | apply Kd.R_alloc | apply Kd.R_drewN | apply Kd.R_drew)); exact Kd.R_mono (RF9 (Kd.R_types aA.out ak.out (by decide)) (fun _ hk => hk.2)) (fun _ hk => ⟨hk.1.1.1, hk.1.2⟩)⟩
 have bF : Aside0 (aX.heap[al]? = some (.cells #[.slice none 0 0] 34 (0, 0))) := by subst aW; exact ⟨BG aj.out ax.out⟩
 have bG : Aside0 (aX.heap[an]? = some (.cells #[.int .i64 0, .int .i64 0, .int .i64 0, .int .i64 0, .int .i64 0, .int .i64 0, .int .i64 0, .slice none 0 0, .slice none 0 0] 48 (0, 0))) := by subst aW; exact ⟨BG ac.out ah.out⟩
 have bH : Aside0 (aX.heap[aw]? = some (.cells #[.slice aL aE.length aM] 34 (0, 0))) := by subst aW; exact ⟨BG ap.out aH.out⟩
 have bI : Aside0 (aX.heap[am]? = some (.cells #[.int .i64 aZ, .int .i64 a5, .int .i64 a6, .int .i64 a7, .int .i64 a8, .int .i64 a9, .int .i64 ba, .slice aR aJ.length aS, .slice aT aK.length aU] 48 (0, 0))) := by subst aW; exact ⟨BQ ak.out⟩
 have bJ : Aside0 (IsS164 w0 aX g s0_0 bK bL) := by subst aW; exact ⟨IZ au⟩
 have bM : Aside0 (KeepBut w aX g none) := by subst aW; exact ⟨KZ HK⟩
 have bN : Aside0 (Below w0.heap.size w0 aX) := by subst aW; exact ⟨BZ1 HB au⟩
 (try clear ao)
 (try clear aq)
 (try clear ar)
 (try clear az)
 (try clear aA)
 (try clear aj)
 (try clear ac)
 (try clear ap)
 (try clear ak)
 (try clear au)
 (try clear HK)
 (try clear HB)
 clear aW
 have ao := bA
 have aq := bB
 have ar := bC
 have az := bD
 have aA := bE
 have aj := bF
 have ac := bG
 have ap := bH
 have ak := bI
 have au := bJ
 have HK := bM
 have HB := bN
 clear bA bB bC bD bE bF bG bH bI bJ bM bN
 replace ao := AM_ (Kd.V_drew ao.out)
 replace aq := AM_ (Kd.R_drew aq.out)
 replace ar := AM_ (Kd.R_drew ar.out)
 replace az := AM_ (Kd.R_drew az.out)
 replace aA := AM_ (Kd.R_drew aA.out)
 replace aj := BD1 aj
 replace ac := BD1 ac
 replace ap := BD1 ap
 replace ak := BD1 ak
 replace au := AM_ (IsS164.drew au.out)
 replace HK := AM_ (keep_drew HK.out)
 replace HB := BD2 HB
 refine start_ (n := 6) (S := fun w' => w'.cell? ⟨aw, 0, none⟩ = some (.slice aL aE.length aM) ∧ w'.cell? ⟨am, 0, none⟩ = some (.int .i64 aZ) ∧ w'.cell? ⟨am, 1, none⟩ = some (.int .i64 a5) ∧ w'.cell? ⟨am, 2, none⟩ = some (.int .i64 a6) ∧ w'.cell? ⟨am, 3, none⟩ = some (.int .i64 a7) ∧ w'.cell? ⟨am, 4, none⟩ = some (.int .i64 a8) ∧ w'.cell? ⟨am, 5, none⟩ = some (.int .i64 a9) ∧ w'.cell? ⟨am, 6, none⟩ = some (.int .i64 ba) ∧ w'.cell? ⟨am, 7, none⟩ = some (.slice aR aJ.length aS) ∧ w'.cell? ⟨am, 8, none⟩ = some (.slice aT aK.length aU)) (ds := []) (lo 0 6) (by kernel_rfl) rfl rfl ⟨bc ap.out 0, bc ak.out 0, bc ak.out 1, bc ak.out 2, bc ak.out 3, bc ak.out 4, bc ak.out 5, bc ak.out 6, bc ak.out 7, bc ak.out 8⟩ (fun ad => ?_)
 generalize aX.drew = bd at ao aq ar az aA aj ac ap ak au HK HB ad ⊢
 refine pure_ (i := 0) (N := some 19) (v := ?_) (a' := ?_) (lo 1 6) rfl rfl (by kernel_rfl) (fun _ _ _ h => h) (Or.inl ⟨by rfl, ?_⟩) ?_ ?_
 rotate_left
 ·intro w'
  go_simp
  with_reducible rfl
 rotate_left
 ·simp only[pA,pS,pZ,pK,pV]
  rfl
 refine pure_ (i := 3) (N := some 2) (v := ?_) (a' := ?_) (bs 9 6) rfl rfl (by kernel_rfl) (fun _ _ _ h => h) (Or.inl ⟨by rfl, ?_⟩) ?_ ?_
 rotate_left
 ·intro w'
  go_simp
  with_reducible rfl
 rotate_left
 ·simp only[pA,pS,pZ,pK,pV]
  rfl
 refine take_ (i := 1) (N := some 20) (v := ?_) (a' := ?_) (bs 11 6) rfl rfl (by kernel_rfl) (fun _ _ _ h => h) (Or.inl ⟨by rfl, ?_⟩) ad ?_ ?_
 rotate_left
 ·rintro w' ⟨s0, s1, s2, s3, s4, s5, s6, s7, s8, s9⟩
  go_simp
  with_reducible rfl
 rotate_left
 ·simp only[pA,pS,pZ,pK,pV]
  rfl
 refine take_ (i := 2) (N := some 21) (v := ?_) (a' := ?_) (lo 4 6) rfl rfl (by kernel_rfl) (fun _ _ _ h => h) (Or.inl ⟨by rfl, ?_⟩) ad ?_ ?_
 rotate_left
 ·rintro w' ⟨s0, s1, s2, s3, s4, s5, s6, s7, s8, s9⟩
  go_simp
  with_reducible rfl
 rotate_left
 ·simp only[pA,pS,pZ,pK,pV]
  rfl
 refine one_ (i := 4) (N := none) (lo 5 6) rfl rfl (by kernel_rfl) (by decide) (fun K hK => ?_)
 have hs32 : bd.cell? ⟨al, 0, none⟩ = some (.slice none 0 0) := (blk_cell aj.out 0).trans rfl
 have hfs32 := blk_frozen aj.out 0
 have hns32_1 := ag.out
 have hns32_2 := av.out
 have hns32_3 := af.out
 have hms32_1 := aa.out
 have hms32_2 := ay.out
 have hms32_3 := ax.out
 refine skip_ (w1 := ?_) (by rfl) rfl ?_ ?_
 rotate_left
 ·go_simp
  rfl
 refine hK.out _ _ ⟨((cell_far (p := ⟨al, _, none⟩) av.out _).trans (ad.1)), ((cell_far (p := ⟨al, _, none⟩) af.out _).trans (ad.2.1)), ((cell_far (p := ⟨al, _, none⟩) af.out _).trans (ad.2.2.1)), ((cell_far (p := ⟨al, _, none⟩) af.out _).trans (ad.2.2.2.1)), ((cell_far (p := ⟨al, _, none⟩) af.out _).trans (ad.2.2.2.2.1)), ((cell_far (p := ⟨al, _, none⟩) af.out _).trans (ad.2.2.2.2.2.1)), ((cell_far (p := ⟨al, _, none⟩) af.out _).trans (ad.2.2.2.2.2.2.1)), ((cell_far (p := ⟨al, _, none⟩) af.out _).trans (ad.2.2.2.2.2.2.2.1)), ((cell_far (p := ⟨al, _, none⟩) af.out _).trans (ad.2.2.2.2.2.2.2.2.1)), ((cell_far (p := ⟨al, _, none⟩) af.out _).trans (ad.2.2.2.2.2.2.2.2.2))⟩ (fun ad => ?_)
 clear hK K
 refine one_ (i := 5) (N := none) (lo 6 6) rfl rfl (by kernel_rfl) (by decide) (fun K hK => ?_)
 have hs33 : bd.cell? ⟨an, 0, none⟩ = some (.int .i64 0) := (blk_cell ac.out 0).trans rfl
 have hfs33 := blk_frozen ac.out 0
 have hns33_0 := aa.out
 have hns33_2 := ae.out
 have hns33_3 := ab.out
 have hms33_0 := ag.out
 have hms33_2 := ai.out
 have hms33_3 := ah.out
 have hs34 : bd.cell? ⟨an, 1, none⟩ = some (.int .i64 0) := (blk_cell ac.out 1).trans rfl
 have hfs34 := blk_frozen ac.out 1
 have hns34_0 := aa.out
 have hns34_2 := ae.out
 have hns34_3 := ab.out
 have hms34_0 := ag.out
 have hms34_2 := ai.out
 have hms34_3 := ah.out
 have hs35 : bd.cell? ⟨an, 2, none⟩ = some (.int .i64 0) := (blk_cell ac.out 2).trans rfl
 have hfs35 := blk_frozen ac.out 2
 have hns35_0 := aa.out
 have hns35_2 := ae.out
 have hns35_3 := ab.out
 have hms35_0 := ag.out
 have hms35_2 := ai.out
 have hms35_3 := ah.out
 have hs36 : bd.cell? ⟨an, 3, none⟩ = some (.int .i64 0) := (blk_cell ac.out 3).trans rfl
 have hfs36 := blk_frozen ac.out 3
 have hns36_0 := aa.out
 have hns36_2 := ae.out
 have hns36_3 := ab.out
 have hms36_0 := ag.out
 have hms36_2 := ai.out
 have hms36_3 := ah.out
 have hs37 : bd.cell? ⟨an, 4, none⟩ = some (.int .i64 0) := (blk_cell ac.out 4).trans rfl
 have hfs37 := blk_frozen ac.out 4
 have hns37_0 := aa.out
 have hns37_2 := ae.out
 have hns37_3 := ab.out
 have hms37_0 := ag.out
 have hms37_2 := ai.out
 have hms37_3 := ah.out
 have hs38 : bd.cell? ⟨an, 5, none⟩ = some (.int .i64 0) := (blk_cell ac.out 5).trans rfl
 have hfs38 := blk_frozen ac.out 5
 have hns38_0 := aa.out
 have hns38_2 := ae.out
 have hns38_3 := ab.out
 have hms38_0 := ag.out
 have hms38_2 := ai.out
 have hms38_3 := ah.out
 have hs39 : bd.cell? ⟨an, 6, none⟩ = some (.int .i64 0) := (blk_cell ac.out 6).trans rfl
 have hfs39 := blk_frozen ac.out 6
 have hns39_0 := aa.out
 have hns39_2 := ae.out
 have hns39_3 := ab.out
 have hms39_0 := ag.out
 have hms39_2 := ai.out
 have hms39_3 := ah.out
 have hs40 : bd.cell? ⟨an, 7, none⟩ = some (.slice none 0 0) := (blk_cell ac.out 7).trans rfl
 have hfs40 := blk_frozen ac.out 7
 have hns40_0 := aa.out
 have hns40_2 := ae.out
 have hns40_3 := ab.out
 have hms40_0 := ag.out
 have hms40_2 := ai.out
 have hms40_3 := ah.out
 have hs41 : bd.cell? ⟨an, 8, none⟩ = some (.slice none 0 0) := (blk_cell ac.out 8).trans rfl
 have hfs41 := blk_frozen ac.out 8
 have hns41_0 := aa.out
 have hns41_2 := ae.out
 have hns41_3 := ab.out
 have hms41_0 := ag.out
 have hms41_2 := ai.out
 have hms41_3 := ah.out
 refine skip_ (w1 := ?_) (by rfl) rfl ?_ ?_
 rotate_left
 ·go_simp
  rfl
 refine hK.out _ _ ⟨(CF9 ae.out (ad.1)), (CF9 ab.out (ad.2.1)), (CF9 ab.out (ad.2.2.1)), (CF9 ab.out (ad.2.2.2.1)), (CF9 ab.out (ad.2.2.2.2.1)), (CF9 ab.out (ad.2.2.2.2.2.1)), (CF9 ab.out (ad.2.2.2.2.2.2.1)), (CF9 ab.out (ad.2.2.2.2.2.2.2.1)), (CF9 ab.out (ad.2.2.2.2.2.2.2.2.1)), (CF9 ab.out (ad.2.2.2.2.2.2.2.2.2))⟩ (fun ad => ?_)
 clear hK K
 refine done_ (by kernel_rfl) ?_
 try go_wp2
 refine bodyPost_ret (results_list (rs := [.tmp 2, .cell 3 34, .cell 4 48]) rfl (by simp) (.tmp (.cell al 34 #[.slice aL aE.length aM] (0, 0) _ rfl (by (with_reducible repeat (first | refine blk_drewN ?_ _ | refine blk_drew ?_ | refine blk_alloc ?_ _)); refine blk_far ?_ aa.out _; (with_reducible repeat (first | refine blk_drewN ?_ _ | refine blk_drew ?_ | refine blk_alloc ?_ _)); refine blk_far ?_ aa.out _; (with_reducible repeat (first | refine blk_drewN ?_ _ | refine blk_drew ?_ | refine blk_alloc ?_ _)); refine blk_far ?_ aa.out _; (with_reducible repeat (first | refine blk_drewN ?_ _ | refine blk_drew ?_ | refine blk_alloc ?_ _)); refine blk_far ?_ aa.out _; (with_reducible repeat (first | refine blk_drewN ?_ _ | refine blk_drew ?_ | refine blk_alloc ?_ _)); refine blk_far ?_ aa.out _; (with_reducible repeat (first | refine blk_drewN ?_ _ | refine blk_drew ?_ | refine blk_alloc ?_ _)); refine blk_far ?_ aa.out _; (with_reducible repeat (first | refine blk_drewN ?_ _ | refine blk_drew ?_ | refine blk_alloc ?_ _)); refine blk_far ?_ aa.out _; (with_reducible repeat (first | refine blk_drewN ?_ _ | refine blk_drew ?_ | refine blk_alloc ?_ _)); refine blk_far ?_ aa.out _; (with_reducible repeat (first | refine blk_drewN ?_ _ | refine blk_drew ?_ | refine blk_alloc ?_ _)); refine blk_far ?_ aa.out _; (with_reducible repeat (first | refine blk_drewN ?_ _ | refine blk_drew ?_ | refine blk_alloc ?_ _)); refine blk_put (cs := #[.slice none 0 0]) ?_ 0 _ rfl; (with_reducible repeat (first | refine blk_drewN ?_ _ | refine blk_drew ?_ | refine blk_alloc ?_ _)); exact aj.out) Try.underlying34 rfl (by kernel_rfl) (.cell an 48 #[.int .i64 aZ, .int .i64 a5, .int .i64 a6, .int .i64 a7, .int .i64 a8, .int .i64 a9, .int .i64 ba, .slice aR aJ.length aS, .slice aT aK.length aU] (0, 0) _ rfl (by (with_reducible repeat (first | refine blk_drewN ?_ _ | refine blk_drew ?_ | refine blk_alloc ?_ _)); apply BP9; exact BG1 ac) Try.underlying48 rfl (by kernel_rfl) .nil)))) rfl ?_
 exact ⟨g, _, _, _, ER, by (with_reducible repeat (first | apply Kd.V_alloc | apply Kd.V_drewN | apply Kd.V_drew)); exact Kd.V_mono (VF9 (VF1 (Kd.V_mono (Kd.V_mono ao.out (fun k_ hk => (⟨hk, hk.2.2.2.2.2.1⟩ : _ ∧ k_ ≠ al))) (fun k_ hk => (⟨hk, hk.1.2.2.2.2.2.2.1⟩ : _ ∧ k_ ≠ an))) (fun _ hk => hk.1.2)) (fun _ hk => hk.2)) (fun _ hk => ⟨⟨hk.1.1.1, ⟨hk.1.1.2.2.2.1, hk.1.1.2.2.2.2.1⟩⟩, by omega⟩), by (with_reducible repeat (first | apply Kd.R_alloc | apply Kd.R_drewN | apply Kd.R_drew)); exact Kd.R_mono (RF9 (RF1 (Kd.R_types (Kd.R_types az.out aj.out (by decide)) ac.out (by decide)) (fun _ hk => hk.1.2)) (fun _ hk => hk.2)) (fun _ hk => hk.1.1.1), by (with_reducible repeat (first | apply Kd.R_alloc | apply Kd.R_drewN | apply Kd.R_drew)); exact Kd.R_mono (RF9 (RF1 (Kd.R_types (Kd.R_types aA.out aj.out (by decide)) ac.out (by decide)) (fun _ hk => hk.1.2)) (fun _ hk => hk.2)) (fun _ hk => hk.1.1.1), IZ au, BZ1 HB au, below_of_keep HB0.out (BZ1 HB au) (KZ HK) HG.out⟩

/-! ### spec_DrawChooseVersion: function 11 -/
def spec_DrawChooseVersion.f (k : Nat) (l0 : List Int) : Option ((List (List (S52))) × Int × Int × Int × Int × Int × Int × Int × (List (S116)) × (List (S103)) × Int) := (spec_l1New.f k l0).bind fun bt515 => ((spec_l6Pair.f k bt515.1 bt515.2.1 bt515.2.2).bind fun bt519 => ((spec_l1Below.f bt515.1 bt519.2.2.2.2.2.2.2.2.2.2.2.1 bt519.2.2.2.2.2.2.2.2.2.2.2.2 8).bind fun bt540 => (some (bt519.2.1, bt519.2.2.1, bt519.2.2.2.1, bt519.2.2.2.2.1, bt519.2.2.2.2.2.1, bt519.2.2.2.2.2.2.1, bt519.2.2.2.2.2.2.2.1, bt519.2.2.2.2.2.2.2.2.1, bt519.2.2.2.2.2.2.2.2.2.1, bt519.2.2.2.2.2.2.2.2.2.2.1, wrap64 (bt540.1 - 1)))))
theorem spec_DrawChooseVersion.mono : ∀ a0 k, LeO (spec_DrawChooseVersion.f k a0) (spec_DrawChooseVersion.f (k + 1) a0) := by
 intro a0 k
 unfold spec_DrawChooseVersion.f
 repeat' (with_reducible first | exact spec_l1New.mono .. | exact spec_l6Pair.mono .. | exact LeO.refl _ | exact LeO.none _ | refine LeO.ite ?_ ?_ | refine LeO.bind ?_ (fun _ => ?_))
def spec_DrawChooseVersion.T2 : Bool × List (List Nat × List Nat) := (true, [([], []), ([], []), ([], []), ([2], [2]), ([3], [3]), ([0, 3, 0], [0]), ([1, 5, 0, 1, 5], [1]), ([4, 6, 0, 1, 2, 3, 4, 5, 6], [4])])
def spec_DrawChooseVersion.B2 : List Nat := [0, 0, 0, 4, 12, 13, 47, 127]
theorem spec_DrawChooseVersion.tab2 : rtab .any (opsOf Try.f11 2) = spec_DrawChooseVersion.T2 := by kernel_rfl
theorem spec_DrawChooseVersion.bits2 : waitsOk spec_DrawChooseVersion.T2.2 spec_DrawChooseVersion.B2 = true := by kernel_rfl
theorem spec_DrawChooseVersion.calls (k : Nat) (A0 : Option Addr) (c0 : Nat) (l0 : List Int) (r1 : List (List (S52))) (r2 : Int) (r3 : Int) (r4 : Int) (r5 : Int) (r6 : Int) (r7 : Int) (r8 : Int) (r9 : List (S116)) (r10 : List (S103)) (r11 : Int) (w : World) (bN : Kd.C (Kd.int .u8) w A0 l0.length l0) (bO : l0.length ≤ c0) (h : spec_DrawChooseVersion.f k l0 = some (r1, r2, r3, r4, r5, r6, r7, r8, r9, r10, r11)) :
  Calls Try.prog 11 #[.slice A0 l0.length c0] w fun e w' => ∃ bP bA bB : Value, e = .returned (.tuple #[.agg #[bP], .agg #[.int .i64 r2, .int .i64 r3, .int .i64 r4, .int .i64 r5, .int .i64 r6, .int .i64 r7, .int .i64 r8, bA, bB], .int .i64 r11]) ∧ Kd.V (Kd.slice 52 k52) 62 w' w.heap.size (fun k_ => (w.heap.size ≤ k_) ∧ some k_ ≠ (bA : Value).ownBlock ∧ some k_ ≠ (bB : Value).ownBlock) bP r1 ∧ Kd.R k116 116 w' w.heap.size (fun k_ => (w.heap.size ≤ k_)) bA r9 ∧ Kd.R k103 103 w' w.heap.size (fun k_ => (w.heap.size ≤ k_)) bB r10 ∧ Below w.heap.size w w' := by
 have cn := Try.underlying34
 have co := Try.underlying48
 have cp := AM_ bN
 have cq := AM_ bO
 clear bN bO
 have HB := AM_ (Below.refl w.heap.size w)
 have H : ((spec_l1New.f k l0).bind fun bt515 => ((spec_l6Pair.f k bt515.1 bt515.2.1 bt515.2.2).bind fun bt519 => ((spec_l1Below.f bt515.1 bt519.2.2.2.2.2.2.2.2.2.2.2.1 bt519.2.2.2.2.2.2.2.2.2.2.2.2 8).bind fun bt540 => (some (bt519.2.1, bt519.2.2.1, bt519.2.2.2.1, bt519.2.2.2.2.1, bt519.2.2.2.2.2.1, bt519.2.2.2.2.2.2.1, bt519.2.2.2.2.2.2.2.1, bt519.2.2.2.2.2.2.2.2.1, bt519.2.2.2.2.2.2.2.2.2.1, bt519.2.2.2.2.2.2.2.2.2.2.1, wrap64 (bt540.1 - 1)))))) = some (r1, r2, r3, r4, r5, r6, r7, r8, r9, r10, r11) := h
 clear h
 obtain ⟨⟨a6, bC, bD⟩, A2, H⟩ := OB H
 obtain ⟨⟨bE, aE, aO, aP, aQ, aR, aS, aT, aU, aC, aD, a7, a8⟩, A3, H⟩ := OB H
 obtain ⟨⟨bF, bG, bH⟩, A4, H⟩ := OB H
 simp only [Option.some.injEq, Prod.mk.injEq] at H
 obtain ⟨rfl, rfl, rfl, rfl, rfl, rfl, rfl, rfl, rfl, rfl, rfl⟩ := H
 go_enter Try.func11, Try.ntmps11
 try go_wp2_with (first | ((with_reducible refine G2 2 rfl ?_); refine BY 2 #[.slice none 0 0] 34 HB ?_; clear HB; intro ao w5 ad bQ HB) | ((with_reducible refine G2 3 rfl ?_); refine BZ 3 #[.int .i64 0, .int .i64 0, .int .i64 0, .int .i64 0, .int .i64 0, .int .i64 0, .int .i64 0, .slice none 0 0, .slice none 0 0] 48 HB ?_; clear HB; intro aq w6 hg hb ac bR HB; have aa := NP ad hg; have ak := NQ ad hg; replace ad := BV ad hb; clear hb hg) | ((with_reducible refine G1 53 rfl ?_); refine GC (some 10) Try.func53 #[.slice A0 l0.length c0] ?_; (with_reducible refine (spec_l6Pair.calls k _ _ l0 a6 bC bD bE aE aO aP aQ aR aS aT aU aC aD a7 a8 w _ ?side1 cp.out cq.out A2.out A3.out).mono ?_); (case side1 => exact BZ0 HB); rintro e w8 ⟨g518, cr, bI, bJ, rfl, bS, bT, bU, hi, hb, hb2⟩; refine ⟨_, rfl, ?_⟩; have af := AM_ (hi); have a9 := AM_ (IsS164.ne_blk hi (blk_below (BG1 ad) hb2) (by decide)); have aJ := AM_ (Ne.symm (IsS164.ne_blk hi (blk_below (BG1 ad) hb2) (by decide))); have ba := AM_ (IsS164.ne_blk hi (blk_below (BG1 ac) hb2) (by decide)); have aK := AM_ (Ne.symm (IsS164.ne_blk hi (blk_below (BG1 ac) hb2) (by decide))); have ar := AM_ (Kd.V_lower (Kd.V_mono (ok' := fun k_ => (w.heap.size ≤ k_) ∧ some k_ ≠ (bI : Value).ownBlock ∧ some k_ ≠ (bJ : Value).ownBlock ∧ k_ ≠ ao ∧ k_ ≠ aq ∧ k_ ≠ g518) bS (fun k_ hk_ => ⟨(Nat.le_trans (below_size (BT HB.out)) hk_.1.1), hk_.1.2.1, hk_.1.2.2, (Kd.freshB (BG1 ad) k_ hk_.1.1), (Kd.freshB (BG1 ac) k_ hk_.1.1), hk_.2⟩)) (below_size (BT HB.out))); replace ad := AM_ (blk_below (BG1 ad) hb2); replace ac := AM_ (blk_below (BG1 ac) hb2); have au := AM_ (Kd.R_lower (Kd.R_newM (M := fun k_ => (w.heap.size ≤ k_)) (Kd.R_mono (ok' := fun k_ => True) bT (fun _ hk_ => trivial)) (below_size (BT HB.out)) (fun k_ h_ => h_)) (below_size (BT HB.out))); have av := AM_ (Kd.R_lower (Kd.R_newM (M := fun k_ => (w.heap.size ≤ k_)) (Kd.R_mono (ok' := fun k_ => True) bU (fun _ hk_ => trivial)) (below_size (BT HB.out)) (fun k_ h_ => h_)) (below_size (BT HB.out))); replace HB := AM_ (hb); (try clear hb); (try clear bS); (try clear bT); (try clear bU)) | ((with_reducible refine G2 6 rfl ?_); refine BX 6 #[.slice none 0 0] 34 ?_; intro aw hg w9 hbox hb; replace ar := AM_ (Kd.V_below (Kd.V_elderB (by (with_reducible repeat (first | apply Kd.V_alloc | apply Kd.V_drewN | apply Kd.V_drew)); exact ar.out) aw (Nat.le_of_eq hg.symm)) hb); replace au := RB au hb; replace av := RB av hb; have ap := AM_ (hbox); have bV := AM_ ((by rw [hg]; exact (below_size (BZ1 HB af)) : w.heap.size ≤ aw)); have GE538 := AM_ ((by rw [hg]; exact (below_size (BZ1 HB af)) : w.heap.size ≤ aw)); replace HB := BW1 HB af hb; have ay := NP ad hg; have ax := NQ ad hg; replace ad := BV ad hb; have al := NP ac hg; have ag := NQ ac hg; replace ac := BV ac hb; have aL := NI af hg; have az := NJ af hg; replace af := IB af hb; clear hb hbox hg) | ((with_reducible refine G2 7 rfl ?_); refine BX 7 #[.int .i64 0, .int .i64 0, .int .i64 0, .int .i64 0, .int .i64 0, .int .i64 0, .int .i64 0, .slice none 0 0, .slice none 0 0] 48 ?_; intro aj hg ct hbox hb; replace ar := AM_ (Kd.V_below (Kd.V_elderB (by (with_reducible repeat (first | apply Kd.V_alloc | apply Kd.V_drewN | apply Kd.V_drew)); exact ar.out) aj (Nat.le_of_eq hg.symm)) hb); replace au := RB au hb; replace av := RB av hb; have ae := AM_ (hbox); have bW := AM_ ((by rw [hg]; exact (below_size (BZ1 HB af)) : w.heap.size ≤ aj)); have GE539 := AM_ ((by rw [hg]; exact (below_size (BZ1 HB af)) : w.heap.size ≤ aj)); replace HB := BW1 HB af hb; have aA := NP ad hg; have ah := NQ ad hg; replace ad := BV ad hb; have am := NP ac hg; have ab := NQ ac hg; replace ac := BV ac hb; have an := NP ap hg; have aM := NQ ap hg; replace ap := BV ap hb; have aN := NI af hg; have aB := NJ af hg; replace af := IB af hb; clear hb hbox hg; obtain ⟨aV, aW, bK⟩ := Kd.V_slice ar.out; subst bK; have bX := ax.out; have bY := ay.out; have bZ := ag.out; have b0 := al.out; have b1 := an.out; have b2 := aM.out; have b3 := az.out; have b4 := aL.out; obtain ⟨bb, bd⟩ := bk1 ap.out; have b6 := ah.out; have b7 := aA.out; have b8 := ab.out; have ca := am.out; have cb := aB.out; have cc := aN.out; obtain ⟨be, bf, bg, bh, bi, bj, bk, bm, bn, bo, bp, bq, br, bu, bv, bw, bx, bz⟩ := bk9 ae.out; obtain ⟨aF, aG, bL⟩ := Kd.R_slice au.out; subst bL; obtain ⟨aH, aI, bM⟩ := Kd.R_slice av.out; subst bM))
 generalize aX : (((((((((ct.setCell ⟨aw, 0, none⟩ (.slice aV aE.length aW)).setCell ⟨aj, 0, none⟩ (.int .i64 aO)).setCell ⟨aj, 1, none⟩ (.int .i64 aP)).setCell ⟨aj, 2, none⟩ (.int .i64 aQ)).setCell ⟨aj, 3, none⟩ (.int .i64 aR)).setCell ⟨aj, 4, none⟩ (.int .i64 aS)).setCell ⟨aj, 5, none⟩ (.int .i64 aT)).setCell ⟨aj, 6, none⟩ (.int .i64 aU)).setCell ⟨aj, 7, none⟩ (.slice aF aC.length aG)).setCell ⟨aj, 8, none⟩ (.slice aH aD.length aI) = aY
 have cd : Aside0 (Kd.V (Kd.slice 52 k52) 62 aY w.heap.size (fun k_ => (w.heap.size ≤ k_) ∧ some k_ ≠ (.slice aF aC.length aG : Value).ownBlock ∧ some k_ ≠ (.slice aH aD.length aI : Value).ownBlock ∧ k_ ≠ ao ∧ k_ ≠ aq ∧ k_ ≠ g518 ∧ k_ ≠ aw ∧ k_ ≠ aj) (.slice aV aE.length aW) aE) := by subst aX; exact ⟨by (with_reducible repeat (first | apply Kd.V_alloc | apply Kd.V_drewN | apply Kd.V_drew)); exact Kd.V_mono (VF9 (VF1 (Kd.V_mono (Kd.V_mono ar.out (fun k_ hk => (⟨hk, hk.1.2⟩ : _ ∧ k_ ≠ aw))) (fun k_ hk => (⟨hk, hk.1.2⟩ : _ ∧ k_ ≠ aj))) (fun _ hk => hk.1.2)) (fun _ hk => hk.2)) (fun _ hk => ⟨hk.1.1.1.1.1, ⟨hk.1.1.1.1.2.1, ⟨hk.1.1.1.1.2.2.1, ⟨hk.1.1.1.1.2.2.2.1, ⟨hk.1.1.1.1.2.2.2.2.1, ⟨hk.1.1.1.1.2.2.2.2.2, ⟨hk.1.1.1.2, hk.1.1.2⟩⟩⟩⟩⟩⟩⟩)⟩
 have ce : Aside0 (Kd.R k116 116 aY w.heap.size (fun k_ => (w.heap.size ≤ k_)) (.slice aF aC.length aG) aC) := by subst aX; exact ⟨by (with_reducible repeat (first | apply Kd.R_alloc | apply Kd.R_drewN | apply Kd.R_drew)); exact Kd.R_mono (RF9 (RF1 (Kd.R_types (Kd.R_types au.out ap.out (by decide)) ae.out (by decide)) (fun _ hk => hk.1.2)) (fun _ hk => hk.2)) (fun _ hk => hk.1.1.1)⟩
 have cf : Aside0 (Kd.R k103 103 aY w.heap.size (fun k_ => (w.heap.size ≤ k_)) (.slice aH aD.length aI) aD) := by subst aX; exact ⟨by (with_reducible repeat (first | apply Kd.R_alloc | apply Kd.R_drewN | apply Kd.R_drew)); exact Kd.R_mono (RF9 (RF1 (Kd.R_types (Kd.R_types av.out ap.out (by decide)) ae.out (by decide)) (fun _ hk => hk.1.2)) (fun _ hk => hk.2)) (fun _ hk => hk.1.1.1)⟩
 have cg : Aside0 (aY.heap[ao]? = some (.cells #[.slice none 0 0] 34 (0, 0))) := by subst aX; exact ⟨BG1 ad⟩
 have ch : Aside0 (aY.heap[aq]? = some (.cells #[.int .i64 0, .int .i64 0, .int .i64 0, .int .i64 0, .int .i64 0, .int .i64 0, .int .i64 0, .slice none 0 0, .slice none 0 0] 48 (0, 0))) := by subst aX; exact ⟨BG1 ac⟩
 have ci : Aside0 (aY.heap[aw]? = some (.cells #[.slice aV aE.length aW] 34 (0, 0))) := by subst aX; exact ⟨by (with_reducible repeat (first | refine blk_drewN ?_ _ | refine blk_drew ?_ | refine blk_alloc ?_ _)); refine blk_far ?_ an.out _; (with_reducible repeat (first | refine blk_drewN ?_ _ | refine blk_drew ?_ | refine blk_alloc ?_ _)); refine blk_far ?_ an.out _; (with_reducible repeat (first | refine blk_drewN ?_ _ | refine blk_drew ?_ | refine blk_alloc ?_ _)); refine blk_far ?_ an.out _; (with_reducible repeat (first | refine blk_drewN ?_ _ | refine blk_drew ?_ | refine blk_alloc ?_ _)); refine blk_far ?_ an.out _; (with_reducible repeat (first | refine blk_drewN ?_ _ | refine blk_drew ?_ | refine blk_alloc ?_ _)); refine blk_far ?_ an.out _; (with_reducible repeat (first | refine blk_drewN ?_ _ | refine blk_drew ?_ | refine blk_alloc ?_ _)); refine blk_far ?_ an.out _; (with_reducible repeat (first | refine blk_drewN ?_ _ | refine blk_drew ?_ | refine blk_alloc ?_ _)); refine blk_far ?_ an.out _; (with_reducible repeat (first | refine blk_drewN ?_ _ | refine blk_drew ?_ | refine blk_alloc ?_ _)); refine blk_far ?_ an.out _; (with_reducible repeat (first | refine blk_drewN ?_ _ | refine blk_drew ?_ | refine blk_alloc ?_ _)); refine blk_far ?_ an.out _; (with_reducible repeat (first | refine blk_drewN ?_ _ | refine blk_drew ?_ | refine blk_alloc ?_ _)); refine blk_put (cs := #[.slice none 0 0]) ?_ 0 _ rfl; (with_reducible repeat (first | refine blk_drewN ?_ _ | refine blk_drew ?_ | refine blk_alloc ?_ _)); exact ap.out⟩
 have cj : Aside0 (aY.heap[aj]? = some (.cells #[.int .i64 aO, .int .i64 aP, .int .i64 aQ, .int .i64 aR, .int .i64 aS, .int .i64 aT, .int .i64 aU, .slice aF aC.length aG, .slice aH aD.length aI] 48 (0, 0))) := by subst aX; exact ⟨by (with_reducible repeat (first | refine blk_drewN ?_ _ | refine blk_drew ?_ | refine blk_alloc ?_ _)); apply BP9; exact BG1 ae⟩
 have ck : Aside0 (IsS164 w aY g518 a6 a7 a8) := by subst aX; exact ⟨IZ af⟩
 have cl : Aside0 (Below w.heap.size w aY) := by subst aX; exact ⟨BZ1 HB af⟩
 (try clear ar)
 (try clear au)
 (try clear av)
 (try clear ad)
 (try clear ac)
 (try clear ap)
 (try clear ae)
 (try clear af)
 (try clear HB)
 clear aX
 have ar := cd
 have au := ce
 have av := cf
 have ad := cg
 have ac := ch
 have ap := ci
 have ae := cj
 have af := ck
 have HB := cl
 clear cd ce cf cg ch ci cj ck cl
 replace ar := AM_ (Kd.V_drew ar.out)
 replace au := AM_ (Kd.R_drew au.out)
 replace av := AM_ (Kd.R_drew av.out)
 replace ad := BD1 ad
 replace ac := BD1 ac
 replace ap := BD1 ap
 replace ae := BD1 ae
 replace af := AM_ (IsS164.drew af.out)
 replace HB := BD2 HB
 refine start_ (n := 8) (S := fun w' => w'.cell? ⟨aw, 0, none⟩ = some (.slice aV aE.length aW) ∧ w'.cell? ⟨aj, 0, none⟩ = some (.int .i64 aO) ∧ w'.cell? ⟨aj, 1, none⟩ = some (.int .i64 aP) ∧ w'.cell? ⟨aj, 2, none⟩ = some (.int .i64 aQ) ∧ w'.cell? ⟨aj, 3, none⟩ = some (.int .i64 aR) ∧ w'.cell? ⟨aj, 4, none⟩ = some (.int .i64 aS) ∧ w'.cell? ⟨aj, 5, none⟩ = some (.int .i64 aT) ∧ w'.cell? ⟨aj, 6, none⟩ = some (.int .i64 aU) ∧ w'.cell? ⟨aj, 7, none⟩ = some (.slice aF aC.length aG) ∧ w'.cell? ⟨aj, 8, none⟩ = some (.slice aH aD.length aI)) (ds := []) (lo 0 8) (by kernel_rfl) rfl rfl ⟨bc ap.out 0, bc ae.out 0, bc ae.out 1, bc ae.out 2, bc ae.out 3, bc ae.out 4, bc ae.out 5, bc ae.out 6, bc ae.out 7, bc ae.out 8⟩ (fun ai => ?_); refine with_tabW spec_DrawChooseVersion.tab2 spec_DrawChooseVersion.bits2 (fun a5 cm => ?_)
 generalize aY.drew = cu at ar au av ad ac ap ae af HB ai ⊢
 refine PV 2 (some 16) (bs 4 8) a5 ?_
 refine TX 0 (some 14) (bs 5 8) a5 cm ai ?_
 refine TX 1 (some 15) (lo 3 8) a5 cm ai ?_
 refine OS a5 (fun K hK => ?_)
 refine GO Try.func54 #[.pointer (some ⟨g518, 0, none⟩), .int .i64 8] ?_
 with_reducible refine (spec_l1Below.calls g518 a6 a7 a8 8 bF bG bH w _ ?side1 ?side2 A4.out).mono ?_
 (case side1 => exact IZ af)
 (case side2 => exact BZ1 HB af)
 rintro e aZ ⟨rfl, hi, hb, hk⟩
 refine ⟨_, rfl, ?_⟩
 replace ad := KB ad hk aJ
 replace ac := KB ac hk aK
 replace ar := AM_ (Kd.V_mono (Kd.V_keep (Kd.V_mono (ok := fun k_ => (((w.heap.size ≤ k_)) ∧ (some k_ ≠ (.slice aF aC.length aG : Value).ownBlock ∧ (some k_ ≠ (.slice aH aD.length aI : Value).ownBlock ∧ (k_ ≠ ao ∧ (k_ ≠ aq ∧ (k_ ≠ g518 ∧ (k_ ≠ aw ∧ k_ ≠ aj)))))))) (by (with_reducible repeat (first | apply Kd.V_alloc | apply Kd.V_drewN | apply Kd.V_drew)); exact ar.out) (fun k_ hk_ => (⟨hk_, hk_.2.2.2.2.2.1⟩ : _ ∧ k_ ≠ g518))) hk (fun _ h => h.2)) (fun _ h => h.1))
 replace au := RK1 au af hk
 replace av := RK1 av af hk
 replace ap := KB ap hk az
 replace ae := KB ae hk aB
 replace HB := AM_ (hb)
 replace af := AM_ (hi)
 (try clear hb)
 (try clear hk)
 (try clear hi)
 refine hK.out _ _ ⟨bc ap.out 0, bc ae.out 0, bc ae.out 1, bc ae.out 2, bc ae.out 3, bc ae.out 4, bc ae.out 5, bc ae.out 6, bc ae.out 7, bc ae.out 8⟩ (fun ai => ?_)
 clear hK K
 refine NM 17 ?_
 refine PS a5 ?_
 refine one_ (i := 5) (N := none) (lo 6 8) rfl rfl (one_of a5.out (by kernel_rfl)) (by decide) (fun K hK => ?_)
 have hs26 : aZ.cell? ⟨ao, 0, none⟩ = some (.slice none 0 0) := (blk_cell ad.out 0).trans rfl
 have hfs26 := blk_frozen ad.out 0
 have hns26_1 := ak.out
 have hns26_2 := ax.out
 have hns26_3 := ah.out
 have hms26_1 := aa.out
 have hms26_2 := ay.out
 have hms26_3 := aA.out
 refine skip_ (w1 := ?_) (by rfl) rfl ?_ ?_
 rotate_left
 ·go_simp
  rfl
 refine hK.out _ _ ⟨((cell_far (p := ⟨ao, _, none⟩) ax.out _).trans (ai.1)), ((cell_far (p := ⟨ao, _, none⟩) ah.out _).trans (ai.2.1)), ((cell_far (p := ⟨ao, _, none⟩) ah.out _).trans (ai.2.2.1)), ((cell_far (p := ⟨ao, _, none⟩) ah.out _).trans (ai.2.2.2.1)), ((cell_far (p := ⟨ao, _, none⟩) ah.out _).trans (ai.2.2.2.2.1)), ((cell_far (p := ⟨ao, _, none⟩) ah.out _).trans (ai.2.2.2.2.2.1)), ((cell_far (p := ⟨ao, _, none⟩) ah.out _).trans (ai.2.2.2.2.2.2.1)), ((cell_far (p := ⟨ao, _, none⟩) ah.out _).trans (ai.2.2.2.2.2.2.2.1)), ((cell_far (p := ⟨ao, _, none⟩) ah.out _).trans (ai.2.2.2.2.2.2.2.2.1)), ((cell_far (p := ⟨ao, _, none⟩) ah.out _).trans (ai.2.2.2.2.2.2.2.2.2))⟩ (fun ai => ?_)
 clear hK K
 refine one_ (i := 6) (N := none) (lo 7 8) rfl rfl (one_of a5.out (by kernel_rfl)) (by decide) (fun K hK => ?_)
 have hs27 : aZ.cell? ⟨aq, 0, none⟩ = some (.int .i64 0) := (blk_cell ac.out 0).trans rfl
 have hfs27 := blk_frozen ac.out 0
 have hns27_0 := aa.out
 have hns27_2 := ag.out
 have hns27_3 := ab.out
 have hms27_0 := ak.out
 have hms27_2 := al.out
 have hms27_3 := am.out
 have hs28 : aZ.cell? ⟨aq, 1, none⟩ = some (.int .i64 0) := (blk_cell ac.out 1).trans rfl
 have hfs28 := blk_frozen ac.out 1
 have hns28_0 := aa.out
 have hns28_2 := ag.out
 have hns28_3 := ab.out
 have hms28_0 := ak.out
 have hms28_2 := al.out
 have hms28_3 := am.out
 have hs29 : aZ.cell? ⟨aq, 2, none⟩ = some (.int .i64 0) := (blk_cell ac.out 2).trans rfl
 have hfs29 := blk_frozen ac.out 2
 have hns29_0 := aa.out
 have hns29_2 := ag.out
 have hns29_3 := ab.out
 have hms29_0 := ak.out
 have hms29_2 := al.out
 have hms29_3 := am.out
 have hs30 : aZ.cell? ⟨aq, 3, none⟩ = some (.int .i64 0) := (blk_cell ac.out 3).trans rfl
 have hfs30 := blk_frozen ac.out 3
 have hns30_0 := aa.out
 have hns30_2 := ag.out
 have hns30_3 := ab.out
 have hms30_0 := ak.out
 have hms30_2 := al.out
 have hms30_3 := am.out
 have hs31 : aZ.cell? ⟨aq, 4, none⟩ = some (.int .i64 0) := (blk_cell ac.out 4).trans rfl
 have hfs31 := blk_frozen ac.out 4
 have hns31_0 := aa.out
 have hns31_2 := ag.out
 have hns31_3 := ab.out
 have hms31_0 := ak.out
 have hms31_2 := al.out
 have hms31_3 := am.out
 have hs32 : aZ.cell? ⟨aq, 5, none⟩ = some (.int .i64 0) := (blk_cell ac.out 5).trans rfl
 have hfs32 := blk_frozen ac.out 5
 have hns32_0 := aa.out
 have hns32_2 := ag.out
 have hns32_3 := ab.out
 have hms32_0 := ak.out
 have hms32_2 := al.out
 have hms32_3 := am.out
 have hs33 : aZ.cell? ⟨aq, 6, none⟩ = some (.int .i64 0) := (blk_cell ac.out 6).trans rfl
 have hfs33 := blk_frozen ac.out 6
 have hns33_0 := aa.out
 have hns33_2 := ag.out
 have hns33_3 := ab.out
 have hms33_0 := ak.out
 have hms33_2 := al.out
 have hms33_3 := am.out
 have hs34 : aZ.cell? ⟨aq, 7, none⟩ = some (.slice none 0 0) := (blk_cell ac.out 7).trans rfl
 have hfs34 := blk_frozen ac.out 7
 have hns34_0 := aa.out
 have hns34_2 := ag.out
 have hns34_3 := ab.out
 have hms34_0 := ak.out
 have hms34_2 := al.out
 have hms34_3 := am.out
 have hs35 : aZ.cell? ⟨aq, 8, none⟩ = some (.slice none 0 0) := (blk_cell ac.out 8).trans rfl
 have hfs35 := blk_frozen ac.out 8
 have hns35_0 := aa.out
 have hns35_2 := ag.out
 have hns35_3 := ab.out
 have hms35_0 := ak.out
 have hms35_2 := al.out
 have hms35_3 := am.out
 refine skip_ (w1 := ?_) (by rfl) rfl ?_ ?_
 rotate_left
 ·go_simp
  rfl
 refine hK.out _ _ ⟨(CF9 ag.out (ai.1)), (CF9 ab.out (ai.2.1)), (CF9 ab.out (ai.2.2.1)), (CF9 ab.out (ai.2.2.2.1)), (CF9 ab.out (ai.2.2.2.2.1)), (CF9 ab.out (ai.2.2.2.2.2.1)), (CF9 ab.out (ai.2.2.2.2.2.2.1)), (CF9 ab.out (ai.2.2.2.2.2.2.2.1)), (CF9 ab.out (ai.2.2.2.2.2.2.2.2.1)), (CF9 ab.out (ai.2.2.2.2.2.2.2.2.2))⟩ (fun ai => ?_)
 clear hK K
 refine PS a5 ?_
 refine done_ (done_of a5.out (by kernel_rfl)) ?_
 try go_wp2
 refine bodyPost_ret (results_list (rs := [.cell 2 34, .cell 3 48, .tmp 4]) rfl (by simp) (.cell ao 34 #[.slice aV aE.length aW] (0, 0) _ rfl (by (with_reducible repeat (first | refine blk_drewN ?_ _ | refine blk_drew ?_ | refine blk_alloc ?_ _)); refine blk_far ?_ aa.out _; (with_reducible repeat (first | refine blk_drewN ?_ _ | refine blk_drew ?_ | refine blk_alloc ?_ _)); refine blk_far ?_ aa.out _; (with_reducible repeat (first | refine blk_drewN ?_ _ | refine blk_drew ?_ | refine blk_alloc ?_ _)); refine blk_far ?_ aa.out _; (with_reducible repeat (first | refine blk_drewN ?_ _ | refine blk_drew ?_ | refine blk_alloc ?_ _)); refine blk_far ?_ aa.out _; (with_reducible repeat (first | refine blk_drewN ?_ _ | refine blk_drew ?_ | refine blk_alloc ?_ _)); refine blk_far ?_ aa.out _; (with_reducible repeat (first | refine blk_drewN ?_ _ | refine blk_drew ?_ | refine blk_alloc ?_ _)); refine blk_far ?_ aa.out _; (with_reducible repeat (first | refine blk_drewN ?_ _ | refine blk_drew ?_ | refine blk_alloc ?_ _)); refine blk_far ?_ aa.out _; (with_reducible repeat (first | refine blk_drewN ?_ _ | refine blk_drew ?_ | refine blk_alloc ?_ _)); refine blk_far ?_ aa.out _; (with_reducible repeat (first | refine blk_drewN ?_ _ | refine blk_drew ?_ | refine blk_alloc ?_ _)); refine blk_far ?_ aa.out _; (with_reducible repeat (first | refine blk_drewN ?_ _ | refine blk_drew ?_ | refine blk_alloc ?_ _)); refine blk_put (cs := #[.slice none 0 0]) ?_ 0 _ rfl; (with_reducible repeat (first | refine blk_drewN ?_ _ | refine blk_drew ?_ | refine blk_alloc ?_ _)); exact ad.out) Try.underlying34 rfl (by kernel_rfl) (.cell aq 48 #[.int .i64 aO, .int .i64 aP, .int .i64 aQ, .int .i64 aR, .int .i64 aS, .int .i64 aT, .int .i64 aU, .slice aF aC.length aG, .slice aH aD.length aI] (0, 0) _ rfl (by (with_reducible repeat (first | refine blk_drewN ?_ _ | refine blk_drew ?_ | refine blk_alloc ?_ _)); apply BP9; exact BG1 ac) Try.underlying48 rfl (by kernel_rfl) (.tmp .nil)))) rfl ?_
 exact ⟨_, _, _, ER, by (with_reducible repeat (first | apply Kd.V_alloc | apply Kd.V_drewN | apply Kd.V_drew)); exact Kd.V_mono (VF9 (VF1 (Kd.V_mono (Kd.V_mono ar.out (fun k_ hk => (⟨hk, hk.2.2.2.1⟩ : _ ∧ k_ ≠ ao))) (fun k_ hk => (⟨hk, hk.1.2.2.2.2.1⟩ : _ ∧ k_ ≠ aq))) (fun _ hk => hk.1.2)) (fun _ hk => hk.2)) (fun _ hk => ⟨hk.1.1.1, ⟨hk.1.1.2.1, hk.1.1.2.2.1⟩⟩), by (with_reducible repeat (first | apply Kd.R_alloc | apply Kd.R_drewN | apply Kd.R_drew)); exact Kd.R_mono (RF9 (RF1 (Kd.R_types (Kd.R_types au.out ad.out (by decide)) ac.out (by decide)) (fun _ hk => hk.1.2)) (fun _ hk => hk.2)) (fun _ hk => hk.1.1), by (with_reducible repeat (first | apply Kd.R_alloc | apply Kd.R_drewN | apply Kd.R_drew)); exact Kd.R_mono (RF9 (RF1 (Kd.R_types (Kd.R_types av.out ad.out (by decide)) ac.out (by decide)) (fun _ hk => hk.1.2)) (fun _ hk => hk.2)) (fun _ hk => hk.1.1), BZ1 HB af⟩

/-! ### impl_in: function 41 -/
def impl_in.f (a0 : Int) (a1 : Int) (a2 : Int) : Option (Bool) := if a1 ≤ a0 then (some (decide (a0 ≤ a2))) else (some false)
theorem impl_in.calls (a0 : Int) (a1 : Int) (a2 : Int) (r : Bool) (w : World) (h : impl_in.f a0 a1 a2 = some r) :
  Calls Try.prog 41 #[.int .i64 a0, .int .i64 a1, .int .i64 a2] w fun e w' => e = .returned (.bool r) ∧ Drawn0 w w' := by
 unfold impl_in.f at h
 have H := h
 clear h
 by_cases c4 : a1 ≤ a0
 ·rw [if_pos c4] at H
  have aa := DE c4
  clear c4
  obtain rfl := SI H
  go_enter Try.func41, Try.ntmps41
  go_wp2
  go_ret
  exact ⟨by first | rfl | (simp; done) | (simp [*]; done), by repeat (first | exact Drawn0.refl _ | apply Drawn0.step)⟩
 rw [if_neg c4] at H
 have aa := decide_eq_false c4
 clear c4
 obtain rfl := SI H
 go_enter Try.func41, Try.ntmps41
 go_wp2
 go_ret
 exact ⟨by first | rfl | (simp; done) | (simp [*]; done), by repeat (first | exact Drawn0.refl _ | apply Drawn0.step)⟩

/-! ### impl_isID: function 77 -/
def impl_isID.f (a0 : Int) : Option (Bool) := (impl_in.f a0 1 9).bind fun aa => (some aa)
theorem impl_isID.calls (a0 : Int) (r : Bool) (w : World) (h : impl_isID.f a0 = some r) :
  Calls Try.prog 77 #[.int .i64 a0] w fun e w' => e = .returned (.bool r) ∧ Drawn0 w w' := by
 unfold impl_isID.f at h
 have H := h
 clear h
 obtain ⟨aa, A2, H⟩ := OB H
 obtain rfl := SI H
 go_enter Try.func77, Try.ntmps77
 go_wp2_with (first | ((with_reducible refine G1 41 rfl ?_); refine GC (some 4) Try.func41 #[.int .i64 a0, .int .i64 1, .int .i64 9] ?_; (with_reducible refine MQ (impl_in.calls a0 1 9 aa _ A2.out) ?_); intro nd))
 go_ret
 exact ⟨by first | rfl | (simp; done) | (simp [*]; done), by repeat (first | exact Drawn0.refl _ | apply Drawn0.step)⟩

/-! ### impl_isValue: function 130 -/
def impl_isValue.f (a0 : Int) : Option (Bool) := (impl_in.f a0 (-1) 99).bind fun aa => (some aa)
theorem impl_isValue.calls (a0 : Int) (r : Bool) (w : World) (h : impl_isValue.f a0 = some r) :
  Calls Try.prog 130 #[.int .i64 a0] w fun e w' => e = .returned (.bool r) ∧ Drawn0 w w' := by
 unfold impl_isValue.f at h
 have H := h
 clear h
 obtain ⟨aa, A2, H⟩ := OB H
 obtain rfl := SI H
 go_enter Try.func130, Try.ntmps130
 go_wp2_with (first | ((with_reducible refine G1 41 rfl ?_); refine GC (some 4) Try.func41 #[.int .i64 a0, .int .i64 (-1), .int .i64 99] ?_; (with_reducible refine MQ (impl_in.calls a0 (-1) 99 aa _ A2.out) ?_); intro nd))
 go_ret
 exact ⟨by first | rfl | (simp; done) | (simp [*]; done), by repeat (first | exact Drawn0.refl _ | apply Drawn0.step)⟩

/-! ### impl_IsValidVersion: function 108 -/
def impl_IsValidVersion.j0 : Nat → Bool → Int → Int → Int → Int → Int → Option (Bool)
 | 0, _, _, _, _, _, _ => none
 | k + 1, ag, aa, ab, ac, ad, ae => if ag = true then (some false) else (if ac = 0 then (if aa = 0 then (some (ab == (-1))) else (some false)) else ((impl_isID.f aa).bind fun af => (some af)))
def impl_IsValidVersion.f (k : Nat) (ae : Int) (ab : Int) (aa : Int) (ac : Int) (ad : Int) : Option (Bool) := (impl_isValue.f ab).bind fun af => (if af = true then ((impl_in.f aa 0 999).bind fun ag => (if ag = true then ((impl_in.f ac aa 999).bind fun ah => (if ah = true then ((impl_in.f ad 1 1000).bind fun ai => (impl_IsValidVersion.j0 k (!ai) ae ab aa ac ad)) else (impl_IsValidVersion.j0 k true ae ab aa ac ad))) else (impl_IsValidVersion.j0 k true ae ab aa ac ad))) else (impl_IsValidVersion.j0 k true ae ab aa ac ad))
theorem impl_IsValidVersion.mono_l : ∀ k, (∀ y0 y1 y2 y3 y4 y5, LeO (impl_IsValidVersion.j0 k y0 y1 y2 y3 y4 y5) (impl_IsValidVersion.j0 (k + 1) y0 y1 y2 y3 y4 y5))
 | 0 => fun _ _ _ _ _ _ r h => by simp [impl_IsValidVersion.j0] at h
 | k + 1 => by
  have aa := impl_IsValidVersion.mono_l k
  all_goals intros; unfold impl_IsValidVersion.j0
  all_goals repeat' (with_reducible first | exact aa .. | exact LeO.refl _ | exact LeO.none _ | refine LeO.ite ?_ ?_ | refine LeO.bind ?_ (fun _ => ?_))
theorem impl_IsValidVersion.mono : ∀ a0 a1 a2 a3 a4 k, LeO (impl_IsValidVersion.f k a0 a1 a2 a3 a4) (impl_IsValidVersion.f (k + 1) a0 a1 a2 a3 a4) := by
 intro a0 a1 a2 a3 a4 k
 have aa := impl_IsValidVersion.mono_l k
 unfold impl_IsValidVersion.f
 repeat' (with_reducible first | exact aa .. | exact LeO.refl _ | exact LeO.none _ | refine LeO.ite ?_ ?_ | refine LeO.bind ?_ (fun _ => ?_))
theorem impl_IsValidVersion.calls (k : Nat) (ad : Int) (ac : Int) (ab : Int) (ae : Int) (ag : Int) (r : Bool) (w : World) (h : impl_IsValidVersion.f k ad ac ab ae ag = some r) :
  Calls Try.prog 108 #[.agg #[.int .i64 ad, .int .i64 ac, .int .i64 ab, .int .i64 ae, .int .i64 ag]] w fun e w' => e = .returned (.bool r) ∧ Below w.heap.size w w' := by
 have bO := Try.underlying52
 have HB := AM_ (Below.refl w.heap.size w)
 unfold impl_IsValidVersion.f at h
 have H := h
 clear h
 have bI := AM_ H
 clear H
 go_enter Try.func108, Try.ntmps108
 go_upto_region 1 with (first | ((with_reducible refine G2 1 rfl ?_); refine BY 1 #[.int .i64 ad, .int .i64 ac, .int .i64 ab, .int .i64 ae, .int .i64 ag] 52 HB ?_; clear HB; intro aZ w3 aa bN HB))
 (try simp only [pA, pS, pZ, pK])
 go_cut [26] (fun bP wc => ∃ (kq : Nat) (af : Bool), bP = .bool af ∧ Aside0 (impl_IsValidVersion.j0 kq af ad ac ab ae ag = some r) ∧ Aside0 (kq ≤ k) ∧ Aside0 (wc.heap[aZ]? = some (.cells #[.int .i64 ad, .int .i64 ac, .int .i64 ab, .int .i64 ae, .int .i64 ag] 52 (0, 0))) ∧ Aside0 (Below w.heap.size w wc))
 case first =>
  have H := bI.out
  clear bI
  obtain ⟨bJ, A4, H⟩ := OB H
  by_cases c5 : bJ = true
  rotate_left
  ·replace c5 := Bool.eq_false_iff.mpr c5
   subst c5
   replace H := HF H
   have H' := AM_ H
   clear H
   obtain ⟨ah, ai, aj, ak, al, am, an, ao, ap, aq⟩ := bk5 aa.out
   go_wp2_with (first | ((with_reducible refine G1 130 rfl ?_); refine GC (some 5) Try.func130 #[.int .i64 ac] ?_; (with_reducible refine MQ (impl_isValue.calls ac false _ A4.out) ?_); intro nd))
   go_meet
   case rel => exact ⟨_, (true), (by first | rfl | (simp; done) | (simp [*]; done)), H', ⟨by first | omega | exact Nat.le_refl _⟩, ⟨BH aa.out⟩, ⟨BT HB.out⟩⟩
  subst c5
  replace H := HT H
  obtain ⟨bK, A6, H⟩ := OB H
  by_cases c7 : bK = true
  rotate_left
  ·replace c7 := Bool.eq_false_iff.mpr c7
   subst c7
   replace H := HF H
   have H' := AM_ H
   clear H
   obtain ⟨ar, au, av, aw, ax, ay, az, aA, aB, aC⟩ := bk5 aa.out
   go_wp2_with (first | ((with_reducible refine G1 130 rfl ?_); refine GC (some 5) Try.func130 #[.int .i64 ac] ?_; (with_reducible refine MQ (impl_isValue.calls ac true _ A4.out) ?_); intro nd) | (go_at_call 41; (with_reducible refine (impl_in.calls ab 0 999 false _ A6.out).mono ?_); rintro e w' ⟨rfl, ⟨nd, rfl⟩⟩))
   go_meet
   case rel => exact ⟨_, (true), (by first | rfl | (simp; done) | (simp [*]; done)), H', ⟨by first | omega | exact Nat.le_refl _⟩, ⟨BH aa.out⟩, ⟨BT HB.out⟩⟩
  subst c7
  replace H := HT H
  obtain ⟨bL, A8, H⟩ := OB H
  by_cases c9 : bL = true
  rotate_left
  ·replace c9 := Bool.eq_false_iff.mpr c9
   subst c9
   replace H := HF H
   have H' := AM_ H
   clear H
   obtain ⟨aD, aE, aF, aG, aH, aI, aJ, aK, aL, aM⟩ := bk5 aa.out
   go_wp2_with (first | ((with_reducible refine G1 130 rfl ?_); refine GC (some 5) Try.func130 #[.int .i64 ac] ?_; (with_reducible refine MQ (impl_isValue.calls ac true _ A4.out) ?_); intro nd) | (go_at_call 41; (with_reducible refine (impl_in.calls ab 0 999 true _ A6.out).mono ?_); rintro e w' ⟨rfl, ⟨nd, rfl⟩⟩) | (go_at_call 41; (with_reducible refine (impl_in.calls ae ab 999 false _ A8.out).mono ?_); rintro e w' ⟨rfl, ⟨nd, rfl⟩⟩))
   go_meet
   case rel => exact ⟨_, (true), (by first | rfl | (simp; done) | (simp [*]; done)), H', ⟨by first | omega | exact Nat.le_refl _⟩, ⟨BH aa.out⟩, ⟨BT HB.out⟩⟩
  subst c9
  replace H := HT H
  obtain ⟨a5, bQ, H⟩ := OB H
  have H' := AM_ H
  clear H
  obtain ⟨aN, aO, aP, aQ, aR, aS, aT, aU, aV, aW⟩ := bk5 aa.out
  go_wp2_with (first | ((with_reducible refine G1 130 rfl ?_); refine GC (some 5) Try.func130 #[.int .i64 ac] ?_; (with_reducible refine MQ (impl_isValue.calls ac true _ A4.out) ?_); intro nd) | (go_at_call 41; (with_reducible refine (impl_in.calls ab 0 999 true _ A6.out).mono ?_); rintro e w' ⟨rfl, ⟨nd, rfl⟩⟩) | (go_at_call 41; (with_reducible refine (impl_in.calls ae ab 999 true _ A8.out).mono ?_); rintro e w' ⟨rfl, ⟨nd, rfl⟩⟩) | (go_at_call 41; (with_reducible refine (impl_in.calls ag 1 1000 a5 _ bQ.out).mono ?_); rintro e w' ⟨rfl, ⟨nd, rfl⟩⟩))
  go_meet
  case rel => exact ⟨_, (!a5), (by first | rfl | (simp; done) | (simp [*]; done)), H', ⟨by first | omega | exact Nat.le_refl _⟩, ⟨BH aa.out⟩, ⟨BT HB.out⟩⟩
 case rest =>
  clear bI
  try clear c5
  try clear c7
  try clear c9
  try clear aN aO aP aQ aR
  try clear aD aE aF aG aH
  try clear ar au av aw ax
  try clear ah ai aj ak al
  try clear aS aT aU aV aW
  try clear aI aJ aK aL aM
  try clear ay az aA aB aC
  try clear am an ao ap aq
  obtain ⟨kq, af, rfl, HA, bS, aa, HB⟩ := hcut
  cases kq with
  | zero => exact absurd HA.out (by simp [impl_IsValidVersion.j0])
  | succ kj1 =>
   have H := HA.out
   clear HA
   simp only [impl_IsValidVersion.j0] at H
   by_cases a8 : af = true
   ·subst a8
    replace H := HT H
    obtain rfl := SI H
    go_wp2
    go_ret
    exact QT (BT HB.out)
   replace a8 := Bool.eq_false_iff.mpr a8
   subst a8
   replace H := HF H
   by_cases aX : ab = 0
   ·rw [if_pos aX] at H
    have a6 : (ab == 0) = true := beq_iff_eq.mpr aX
    have c16b1 : (ab != 0) = false := bne_eq_false_iff_eq.mpr aX
    clear aX
    by_cases aY : ad = 0
    rotate_left
    ·rw [if_neg aY] at H
     have a7 : (ad == 0) = false := beq_eq_false_iff_ne.mpr aY
     have c17b1 : (ad != 0) = true := bne_iff_ne.mpr aY
     obtain rfl := SI H
     obtain ⟨a9, ba, bb, bd, be, bf, bg, bh, bi, bj⟩ := bk5 aa.out
     go_wp2
     go_ret
     exact QT (BT HB.out)
    rw [if_pos aY] at H
    have a7 : (ad == 0) = true := beq_iff_eq.mpr aY
    have c17b1 : (ad != 0) = false := bne_eq_false_iff_eq.mpr aY
    clear aY
    obtain rfl := SI H
    obtain ⟨bk, bm, bn, bo, bp, bq, br, bu, bv, bw⟩ := bk5 aa.out
    go_wp2
    go_ret
    exact QT (BT HB.out)
   rw [if_neg aX] at H
   have a6 : (ab == 0) = false := beq_eq_false_iff_ne.mpr aX
   have c16b1 : (ab != 0) = true := bne_iff_ne.mpr aX
   obtain ⟨bM, bR, H⟩ := OB H
   obtain rfl := SI H
   obtain ⟨bx, bz, bA, bB, bC, bD, bE, bF, bG, bH⟩ := bk5 aa.out
   go_wp2_with (first | ((with_reducible refine G1 77 rfl ?_); refine GC (some 40) Try.func77 #[.int .i64 ad] ?_; (with_reducible refine MQ (impl_isID.calls ad bM _ bR.out) ?_); intro nd))
   go_ret
   exact QT (BT HB.out)

end Go.Proofs.Ytdgknikgfjhohaa.PFnSchemes
