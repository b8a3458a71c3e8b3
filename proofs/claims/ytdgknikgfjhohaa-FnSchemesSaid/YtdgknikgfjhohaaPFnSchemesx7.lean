-- Printed by wip/myprint.py.
import Derived.Test.YtdgknikgfjhohaaPFnSchemesx4
namespace Go.Proofs.Ytdgknikgfjhohaa.PFnSchemes
open Go.RowKit Go.Proofs.YtdgknikgfjhohaaW.PrintWords Go.Proofs.YtdgknikgfjhohaaW.PrintLast Go.Proofs.YtdgknikgfjhohaaW.PrintMore
set_option maxHeartbeats 8000000
set_option maxRecDepth 100000
set_option linter.unusedVariables false
set_option linter.unusedSimpArgs false

/-! ### spec_l5PutWrite: function 124 -/
def spec_l5PutWrite.l0 : Nat → List (S103) → Int → Int → Int → Option ((List (S103)))
 | 0, _, _, _, _ => none
 | k + 1, x0, x5, aa, ab => if x5 < (x0.length : Int) then (if 0 ≤ x5 then (if ((rd_T103 x0 x5).f0) < aa then (spec_l5PutWrite.l0 k x0 (wrap64 (x5 + 1)) aa ab) else ((some (([] : List (S103)) : List (S103))).bind fun ad => (if x5 ≤ (x0.length : Int) then ((some (x0.take (x5 : Int).toNat : List (S103))).bind fun ae => (if ad.length + ae.length < 8796093022208 then ((some (ad ++ ae : List (S103))).bind fun af => ((some (([(⟨aa, ab⟩ : S103)] : List (S103)) : List (S103))).bind fun ag => (if af.length + ag.length < 8796093022208 then ((some (af ++ ag : List (S103))).bind fun ac => (if ((rd_T103 x0 x5).f0) = aa then (if 0 ≤ (wrap64 (x5 + 1)) then (if (wrap64 (x5 + 1)) ≤ (x0.length : Int) then ((some (x0.drop ((wrap64 (x5 + 1)) : Int).toNat : List (S103))).bind fun ah => (if ac.length + ah.length < 8796093022208 then (some (ac ++ ah)) else (none))) else (none)) else (none)) else ((some (x0.drop (x5 : Int).toNat : List (S103))).bind fun ai => (if ac.length + ai.length < 8796093022208 then (some (ac ++ ai)) else (none))))) else (none)))) else (none))) else (none)))) else (none)) else ((some (([] : List (S103)) : List (S103))).bind fun aj => (if 0 ≤ x5 then (if x5 ≤ (x0.length : Int) then ((some (x0.take (x5 : Int).toNat : List (S103))).bind fun ak => (if aj.length + ak.length < 8796093022208 then ((some (aj ++ ak : List (S103))).bind fun al => ((some (([(⟨aa, ab⟩ : S103)] : List (S103)) : List (S103))).bind fun am => (if al.length + am.length < 8796093022208 then ((some (al ++ am : List (S103))).bind fun an => ((some (x0.drop (x5 : Int).toNat : List (S103))).bind fun ao => (if an.length + ao.length < 8796093022208 then (some (an ++ ao)) else (none)))) else (none)))) else (none))) else (none)) else (none)))
def spec_l5PutWrite.f (k : Nat) (l0 : List (S103)) (aa : Int) (ab : Int) : Option ((List (S103))) := spec_l5PutWrite.l0 k l0 0 aa ab
theorem spec_l5PutWrite.mono_l : ∀ k, (∀ y0 y1 y2 y3, LeO (spec_l5PutWrite.l0 k y0 y1 y2 y3) (spec_l5PutWrite.l0 (k + 1) y0 y1 y2 y3))
 | 0 => fun _ _ _ _ r h => by simp [spec_l5PutWrite.l0] at h
 | k + 1 => by
  have aa := spec_l5PutWrite.mono_l k
  all_goals intros; unfold spec_l5PutWrite.l0
  all_goals repeat' (with_reducible first | exact aa .. | exact LeO.refl _ | exact LeO.none _ | refine LeO.ite ?_ ?_ | refine LeO.bind ?_ (fun _ => ?_))
theorem spec_l5PutWrite.mono : ∀ a0 a1 a2 k, LeO (spec_l5PutWrite.f k a0 a1 a2) (spec_l5PutWrite.f (k + 1) a0 a1 a2) := by
 intro a0 a1 a2 k
 have aa := spec_l5PutWrite.mono_l k
 unfold spec_l5PutWrite.f
 repeat' (with_reducible first | exact aa .. | exact LeO.refl _ | exact LeO.none _ | refine LeO.ite ?_ ?_ | refine LeO.bind ?_ (fun _ => ?_))
def spec_l5PutWrite.T2 : Bool × List (List Nat × List Nat) := (true, [([], []), ([], []), ([1], [1]), ([0, 2], [0, 2]), ([3], [3]), ([4], [4]), ([4], [4]), ([5, 6, 4], [4, 5, 6]), ([7, 4], [4, 7]), ([8, 4], [4, 8]), ([4], [4]), ([10, 4], [4, 10]), ([9, 11, 4], [4, 9, 11]), ([4, 12], [4, 12])])
def spec_l5PutWrite.B2 : List Nat := [0, 0, 2, 7, 15, 31, 31, 127, 255, 511, 31, 1055, 4095, 8191]
theorem spec_l5PutWrite.tab2 : rtab .any (opsOf Try.f124 2) = spec_l5PutWrite.T2 := by kernel_rfl
theorem spec_l5PutWrite.bits2 : waitsOk spec_l5PutWrite.T2.2 spec_l5PutWrite.B2 = true := by kernel_rfl
def spec_l5PutWrite.T4 : Bool × List (List Nat × List Nat) := (true, [([], []), ([], []), ([], []), ([1, 2], [1, 2]), ([0, 3], [0, 3]), ([], []), ([5], [5]), ([4, 6, 4], [4, 6]), ([7, 7, 0, 1, 2, 3, 4, 5, 6, 7], [7])])
def spec_l5PutWrite.B4 : List Nat := [0, 0, 0, 6, 15, 0, 32, 127, 255]
theorem spec_l5PutWrite.tab4 : rtab .any (opsOf Try.f124 4) = spec_l5PutWrite.T4 := by kernel_rfl
theorem spec_l5PutWrite.bits4 : waitsOk spec_l5PutWrite.T4.2 spec_l5PutWrite.B4 = true := by kernel_rfl
def spec_l5PutWrite.T5 : Bool × List (List Nat × List Nat) := (true, [([], []), ([], []), ([1], [1]), ([0, 2], [0, 2]), ([3], [3]), ([4], [4]), ([4], [4]), ([5, 6, 4], [4, 5, 6]), ([7, 4], [4, 7]), ([8, 4], [4, 8]), ([4], [4]), ([10, 4], [4, 10]), ([9, 11, 4], [4, 9, 11]), ([4, 12], [4, 12])])
def spec_l5PutWrite.B5 : List Nat := [0, 0, 2, 7, 15, 31, 31, 127, 255, 511, 31, 1055, 4095, 8191]
theorem spec_l5PutWrite.tab5 : rtab .any (opsOf Try.f124 5) = spec_l5PutWrite.T5 := by kernel_rfl
theorem spec_l5PutWrite.bits5 : waitsOk spec_l5PutWrite.T5.2 spec_l5PutWrite.B5 = true := by kernel_rfl
theorem spec_l5PutWrite.calls (k : Nat) (A0 : Option Addr) (c0 : Nat) (l0 : List (S103)) (af : Int) (ag : Int) (r : List (S103)) (w : World) (da : Kd.C k103 w A0 l0.length l0) (db : l0.length ≤ c0) (h : spec_l5PutWrite.f k l0 af ag = some r) :
  Calls Try.prog 124 #[.slice A0 l0.length c0, .agg #[.int .i64 af, .int .i64 ag]] w fun e w' => ∃ dc : Value, e = .returned (dc) ∧ Kd.R k103 103 w' w.heap.size (fun _ => True) dc r ∧ Below w.heap.size w w' := by
 have dd := Try.underlying103
 have br := AM_ da
 have cn := AM_ db
 clear da db
 have HB := AM_ (Below.refl w.heap.size w)
 unfold spec_l5PutWrite.f at h
 have H := h
 clear h
 have H' := AM_ H
 clear H
 go_enter Try.func124, Try.ntmps124
 go_wp2_with (first | ((with_reducible refine G2 3 rfl ?_); refine BY 3 #[.int .i64 af, .int .i64 ag] 103 HB ?_; clear HB; intro ab w3 aa de HB))
 go_loopg [5] k (fun kq v5 w' => ∃ (ae : Int), v5 = .int .i64 ae ∧ Aside0 (spec_l5PutWrite.l0 kq l0 ae af ag = some r) ∧ Aside0 (kq ≤ k) ∧ Aside0 (w'.heap[ab]? = some (.cells #[.int .i64 af, .int .i64 ag] 103 (0, 0))) ∧ Aside0 (Below w.heap.size w w'))
 case atStart => exact ⟨(0), (by first | rfl | (simp; done) | (simp [*]; done)), H', ⟨Nat.le_refl _⟩, ⟨BH aa.out⟩, ⟨BT HB.out⟩⟩
 case round =>
  clear H'
  obtain ⟨ae, rfl, HA, df, aa, HB⟩ := hrel
  cases gk with
  | zero => exact absurd HA.out (by simp [spec_l5PutWrite.l0])
  | succ k1 =>
   have H := HA.out
   clear HA
   simp only [spec_l5PutWrite.l0] at H
   by_cases c4 : ae < (l0.length : Int)
   rotate_left
   ·rw [if_neg c4] at H
    have cN := decide_eq_false c4
    clear c4
    obtain ⟨b8, bJ, H⟩ := OY H
    have bg := AM_ bJ
    clear bJ
    replace H := HI H
    obtain ⟨cO, H⟩ := H
    have dg := ET cO
    have c48b1 : decide (0 ≤ ae) = true := DE cO
    clear cO
    replace H := HI H
    obtain ⟨cP, H⟩ := H
    have dh := ET cP
    have c49b1 : decide (ae ≤ (l0.length : Int)) = true := DE cP
    clear cP
    obtain ⟨bu, bK, H⟩ := OY H
    have bL := AM_ bK
    clear bK
    replace H := HI H
    obtain ⟨di, H⟩ := H
    have LMc50 := AM_ di
    clear di
    obtain ⟨ca, bM, H⟩ := OY H
    have bv := AM_ bM
    clear bM
    obtain ⟨bw, bN, H⟩ := OY H
    have a4 := AM_ bN
    clear bN
    replace H := HI H
    obtain ⟨dj, H⟩ := H
    have LMc51 := AM_ dj
    clear dj
    obtain ⟨cr, bO, H⟩ := OY H
    have cs := AM_ bO
    clear bO
    have dk := eq_true (DT : 0 ≤ ae)
    have dl := eq_true (DT : ae ≤ (l0.length : Int))
    obtain ⟨bb, bP, H⟩ := OY H
    have bQ := AM_ bP
    clear bP
    replace H := HI H
    obtain ⟨dm, H⟩ := H
    have LMc54 := AM_ dm
    clear dm
    obtain ⟨dE, bx⟩ : ∃ y_ : List (S103), y_ = (cr ++ bb) := ⟨_, rfl⟩
    rw [← bx] at H
    have ct := AM_ bx
    clear bx
    obtain rfl := SI H
    try go_wp2
    replace aa := BD1 aa
    replace HB := BD2 HB
    refine start_ (n := 14) (S := fun w' => True) (ds := []) (lo 0 14) (by kernel_rfl) rfl rfl trivial (fun ac => ?_); refine with_tabW spec_l5PutWrite.tab2 spec_l5PutWrite.bits2 (fun aj aW => ?_)
    generalize wr.drew = dF at aa HB ac ⊢
    iterate 14 first | refine PS aj ?_ | refine PT aj ?_
    refine done_ (done_of aj.out (by kernel_rfl)) ?_
    try go_wp2
    replace aa := BD1 aa
    replace HB := BD2 HB
    have cQ : (ae : Int) ≤ ((l0.length : Int) : Int) := DT
    obtain ⟨i057, bR, _, hsz57, _⟩ := info_parts info103
    have hroom57 : l0.length ≤ c0 := cn.out
    have hC57 : Kd.C k103 _ A0 l0.length l0 := br.out
    have hcut57 := cut_to (P := Try.prog) 46 103 .i64 Try.underlying46 bR A0 l0.length c0 ae (DT) cQ hroom57
    have cb := Kd.C_take (m := (ae : Int).toNat) hC57 (by omega)
    have cc : bu.length = (ae : Int).toNat := (by rw [bL.out, List.length_take]; omega)
    rw [← bL.out] at cb
    rw [← cc] at hcut57
    have bh := AM_ cb
    have dn := AM_ (show bu.length ≤ c0 from by omega)
    clear cb hC57 hroom57 bR hsz57
    have KY57 := AM_ cc
    clear cc
    replace cQ := ET cQ
    refine start_ (n := 9) (S := fun w' => w'.cell? ⟨ab, 0, none⟩ = some (.int .i64 af) ∧ w'.cell? ⟨ab, 1, none⟩ = some (.int .i64 ag)) (ds := []) (lo 0 9) (by kernel_rfl) rfl rfl ⟨bc aa.out 0, bc aa.out 1⟩ (fun ac => ?_); refine with_tabW spec_l5PutWrite.tab4 spec_l5PutWrite.bits4 (fun aj aW => ?_)
    generalize dF.drew = d5 at aa HB bh ac ⊢
    refine PV 1 (some 24) (bs 2 9) aj ?_
    refine PV 2 (some 25) (bs 6 9) aj ?_
    refine PV 3 (some 26) (bs 14 9) aj ?_
    refine TX 5 (some 28) (bs 46 9) aj aW ac ?_
    refine join_ (σ := Value × Value × Value) 2 (lo 7 9) (fun s_ => [(23, s_.1), (27, s_.2.1), (29, s_.2.2)]) (fun s_ w' => (w'.cell? ⟨ab, 0, none⟩ = some (.int .i64 af) ∧ w'.cell? ⟨ab, 1, none⟩ = some (.int .i64 ag)) ∧ (Kd.R k103 103 w' w.heap.size (fun k_ => some k_ ≠ (s_.2.2 : Value).ownBlock ∧ k_ ≠ ab) s_.2.1 ca) ∧ (Kd.R k103 103 w' w.heap.size (fun k_ => some k_ ≠ (s_.2.1 : Value).ownBlock ∧ k_ ≠ ab) s_.2.2 bw) ∧ (w'.heap[ab]? = some (.cells #[.int .i64 af, .int .i64 ag] 103 (0, 0))) ∧ (Below w.heap.size w w')) ?_ ?_
    rotate_left
    ·intro hCont
     refine two_ (i := 0) (j := 6) (Ni := some 23) (Nj := some 29) (bs 47 9) (bs 110 9) rfl rfl rfl rfl (two_of aj.out (by kernel_rfl)) (by decide) (by decide) (fun K hK => ?_) (fun K hK => ?_)
     ·skip
      refine Kd.R_lit_step k103 _ 103 ?hg (N := 23) ?hd (xs := ([] : List (S103))) (inner := []) (ok := fun _ => True) (okp := fun _ => True) ?hr ?hp (fun _ hk => hk) trivial (Below.refl _ _) (Nat.le_refl _) (by simp) ?_; (case hd => rfl); (case hg => rfl); (case hr => first | (go_simp; done) | (go_simp; rfl)); (case hp => exact (Reps.none _ _))
      intro ba dG aP hb hg_ hnew_
      clear hg_ hnew_
      (first | rw [← bg.out] at aP | (simp only [Int.reduceToNat] at aP; rw [← bg.out] at aP))
      have ax := AM_ (Kd.R_lower (Kd.R_newB aP (BG1 aa)) (below_size (BT HB.out)))
      replace aa := BV aa hb
      replace HB := BW HB hb
      clear hb aP
      refine hK.out _ _ ⟨bc aa.out 0, bc aa.out 1⟩ (fun ac => ?_)
      clear hK K
      refine NM 23 ?_
      refine two_ (i := 4) (j := 6) (Ni := some 27) (Nj := some 29) (lo 6 9) (bs 111 9) rfl rfl rfl rfl (two_of aj.out (by kernel_rfl)) (by decide) (by decide) (fun K hK => ?_) (fun K hK => ?_)
      ·skip
       refine Kd.R_append_rows_step k103 (w0 := w) w.heap.size (by rfl) (.tmp 23) (.tmp 26) 46 103 (.agg #[(.int .i64 0), (.int .i64 0)]) 16 rfl Try.underlying46 info103 rfl (by decide) (by omega) ba b8 bu _ _ _ (fun k_ => k_ ≠ ab) (fun _ => False) rfl rfl ?aO ?aR (fun _ _ h => h) (fun _ h => h.elim) ?aF ?aB ?aS ?aL ?_
       (case aR => exact CB bh.out HB.out)
       (case aB => exact (BT HB.out))
       (case aF => exact (fun k_ hk => Kd.freshB (BG1 aa) k_ hk))
       (case aO => exact (by (with_reducible repeat (first | apply Kd.R_alloc | apply Kd.R_drewN | apply Kd.R_drew)); exact Kd.R_mono ax.out (fun _ hk => hk.2)))
       (case aS => exact (below_size (BT HB.out)))
       (case aL => have := LMc50.out; omega)
       intro a7 dp ho hb hg hat
       rw [← bv.out] at ho
       have ao := AM_ (blk_grown (BG1 aa) hg (Kd.R_away ax.out (fun _ hk => hk.2)))
       have ap := AM_ (hb)
       have aq := AM_ (ho)
       clear aa
       clear HB
       clear ax
       have aa := ao
       have HB := ap
       have aA := aq
       clear ao ap aq
       clear ho hb hg hat
       refine hK.out _ _ ⟨bc aa.out 0, bc aa.out 1⟩ (fun ac => ?_)
       clear hK K
       refine NM 27 ?_
       refine OS aj (fun K hK => ?_)
       refine Kd.R_lit_step k103 _ 103 ?hg (N := 29) ?hd (xs := ([(⟨af, ag⟩ : S103)] : List (S103))) (inner := [.int .i64 af, .int .i64 ag]) (ok := fun _ => True) (okp := fun _ => True) ?hr ?hp (fun _ hk => hk) trivial (Below.refl _ _) (Nat.le_refl _) (by simp) ?_; (case hd => rfl); (case hg => rfl); (case hr => first | (go_simp; done) | (go_simp; rfl)); (case hp => exact (Reps.c2 (show Kd.M k103 _ _ _ (⟨af, ag⟩ : S103) [.int .i64 af, .int .i64 ag] from (k103_mkM _ _ _ (⟨af, ag⟩ : S103) )) (Reps.none _ _)))
       intro aX d6 bk hb hg_ hnew_
       clear hg_ hnew_
       (first | rw [← a4.out] at bk | (simp only [Int.reduceToNat] at bk; rw [← a4.out] at bk))
       have ai := AM_ (Kd.R_lower (Kd.R_newB (Kd.R_new' bk (Kd.R_lt (RT aA.out))) (BG1 aa)) (below_size (BT HB.out)))
       replace aA := AM_ (Kd.R_elder' (RT aA.out) (Kd.R_base bk) hb)
       replace aa := BV aa hb
       replace HB := BW HB hb
       clear hb bk
       refine hK.out _ _ ⟨bc aa.out 0, bc aa.out 1⟩ (fun ac => ?_)
       clear hK K
       refine NM 29 ?_
       exact NR (hCont (ba, a7, aX) _ ⟨ac, (by (with_reducible repeat (first | apply Kd.R_alloc | apply Kd.R_drewN | apply Kd.R_drew)); exact Kd.R_mono aA.out (fun _ hk => ⟨hk.2, hk.1⟩)), (by (with_reducible repeat (first | apply Kd.R_alloc | apply Kd.R_drewN | apply Kd.R_drew)); exact Kd.R_mono ai.out (fun _ hk => ⟨hk.1.2, hk.2⟩)), (BG1 aa), (BT HB.out)⟩)
      ·skip
       refine Kd.R_lit_step k103 _ 103 ?hg (N := 29) ?hd (xs := ([(⟨af, ag⟩ : S103)] : List (S103))) (inner := [.int .i64 af, .int .i64 ag]) (ok := fun _ => True) (okp := fun _ => True) ?hr ?hp (fun _ hk => hk) trivial (Below.refl _ _) (Nat.le_refl _) (by simp) ?_; (case hd => rfl); (case hg => rfl); (case hr => first | (go_simp; done) | (go_simp; rfl)); (case hp => exact (Reps.c2 (show Kd.M k103 _ _ _ (⟨af, ag⟩ : S103) [.int .i64 af, .int .i64 ag] from (k103_mkM _ _ _ (⟨af, ag⟩ : S103) )) (Reps.none _ _)))
       intro aX dp aJ hb hg_ hnew_
       clear hg_ hnew_
       (first | rw [← a4.out] at aJ | (simp only [Int.reduceToNat] at aJ; rw [← a4.out] at aJ))
       have ai := AM_ (Kd.R_lower (Kd.R_newB (Kd.R_new' aJ (Kd.R_lt (RT ax.out))) (BG1 aa)) (below_size (BT HB.out)))
       replace ax := AM_ (Kd.R_elder' (RT ax.out) (Kd.R_base aJ) hb)
       replace aa := BV aa hb
       replace HB := BW HB hb
       clear hb aJ
       refine hK.out _ _ ⟨bc aa.out 0, bc aa.out 1⟩ (fun ac => ?_)
       clear hK K
       refine NM 29 ?_
       refine one_ (i := 4) (N := some 27) (lo 7 9) rfl rfl (one_of aj.out (by kernel_rfl)) (by decide) (fun K hK => ?_)
       refine Kd.R_append_rows_step k103 (w0 := w) w.heap.size (by rfl) (.tmp 23) (.tmp 26) 46 103 (.agg #[(.int .i64 0), (.int .i64 0)]) 16 rfl Try.underlying46 info103 rfl (by decide) (by omega) ba b8 bu _ _ _ (fun k_ => some k_ ≠ (aX : Value).ownBlock ∧ k_ ≠ ab) (fun _ => False) rfl rfl ?aO ?aR (fun _ _ h => h) (fun _ h => h.elim) ?aF ?aB ?aS ?aL ?_
       (case aR => exact CB bh.out HB.out)
       (case aB => exact (BT HB.out))
       (case aF => exact (fun k_ hk => ⟨Kd.fresh' (Kd.R_lt (RT ai.out)) k_ hk, Kd.freshB (BG1 aa) k_ hk⟩))
       (case aO => exact (by (with_reducible repeat (first | apply Kd.R_alloc | apply Kd.R_drewN | apply Kd.R_drew)); exact Kd.R_mono ax.out (fun _ hk => ⟨hk.2, hk.1.2⟩)))
       (case aS => exact (below_size (BT HB.out)))
       (case aL => have := LMc50.out; omega)
       intro a7 dH ho hb hg hat
       rw [← bv.out] at ho
       have ao := AM_ (blk_grown (BG1 aa) hg (Kd.R_away ax.out (fun _ hk => hk.1.2)))
       have ap := AM_ (Kd.R_after (ok := (fun k_ => k_ ≠ ab)) (by (with_reducible repeat (first | apply Kd.R_alloc | apply Kd.R_drewN | apply Kd.R_drew)); exact Kd.R_mono ai.out (fun _ hk => ⟨hk.2, hk.1.2⟩)) hg hat)
       have aq := AM_ (hb)
       have av := AM_ (ho)
       clear aa
       clear ai
       clear HB
       clear ax
       have aa := ao
       have ai := ap
       have HB := aq
       have aA := av
       clear ao ap aq av
       clear ho hb hg hat
       refine hK.out _ _ ⟨bc aa.out 0, bc aa.out 1⟩ (fun ac => ?_)
       clear hK K
       refine NM 27 ?_
       exact NR (hCont (ba, a7, aX) _ ⟨ac, (RT aA.out), (by (with_reducible repeat (first | apply Kd.R_alloc | apply Kd.R_drewN | apply Kd.R_drew)); exact Kd.R_mono ai.out (fun _ hk => ⟨hk.2, hk.1⟩)), (BG1 aa), (BT HB.out)⟩)
     ·skip
      refine Kd.R_lit_step k103 _ 103 ?hg (N := 29) ?hd (xs := ([(⟨af, ag⟩ : S103)] : List (S103))) (inner := [.int .i64 af, .int .i64 ag]) (ok := fun _ => True) (okp := fun _ => True) ?hr ?hp (fun _ hk => hk) trivial (Below.refl _ _) (Nat.le_refl _) (by simp) ?_; (case hd => rfl); (case hg => rfl); (case hr => first | (go_simp; done) | (go_simp; rfl)); (case hp => exact (Reps.c2 (show Kd.M k103 _ _ _ (⟨af, ag⟩ : S103) [.int .i64 af, .int .i64 ag] from (k103_mkM _ _ _ (⟨af, ag⟩ : S103) )) (Reps.none _ _)))
      intro aX dG aP hb hg_ hnew_
      clear hg_ hnew_
      (first | rw [← a4.out] at aP | (simp only [Int.reduceToNat] at aP; rw [← a4.out] at aP))
      have ai := AM_ (Kd.R_lower (Kd.R_newB aP (BG1 aa)) (below_size (BT HB.out)))
      replace aa := BV aa hb
      replace HB := BW HB hb
      clear hb aP
      refine hK.out _ _ ⟨bc aa.out 0, bc aa.out 1⟩ (fun ac => ?_)
      clear hK K
      refine NM 29 ?_
      refine one_ (i := 0) (N := some 23) (bs 111 9) rfl rfl (one_of aj.out (by kernel_rfl)) (by decide) (fun K hK => ?_)
      refine Kd.R_lit_step k103 _ 103 ?hg (N := 23) ?hd (xs := ([] : List (S103))) (inner := []) (ok := fun _ => True) (okp := fun _ => True) ?hr ?hp (fun _ hk => hk) trivial (Below.refl _ _) (Nat.le_refl _) (by simp) ?_; (case hd => rfl); (case hg => rfl); (case hr => first | (go_simp; done) | (go_simp; rfl)); (case hp => exact (Reps.none _ _))
      intro ba dp aJ hb hg_ hnew_
      clear hg_ hnew_
      (first | rw [← bg.out] at aJ | (simp only [Int.reduceToNat] at aJ; rw [← bg.out] at aJ))
      have ax := AM_ (Kd.R_lower (Kd.R_newB (Kd.R_new' aJ (Kd.R_lt (RT ai.out))) (BG1 aa)) (below_size (BT HB.out)))
      replace ai := AM_ (Kd.R_elder' (RT ai.out) (Kd.R_base aJ) hb)
      replace aa := BV aa hb
      replace HB := BW HB hb
      clear hb aJ
      refine hK.out _ _ ⟨bc aa.out 0, bc aa.out 1⟩ (fun ac => ?_)
      clear hK K
      refine NM 23 ?_
      refine one_ (i := 4) (N := some 27) (lo 7 9) rfl rfl (one_of aj.out (by kernel_rfl)) (by decide) (fun K hK => ?_)
      refine Kd.R_append_rows_step k103 (w0 := w) w.heap.size (by rfl) (.tmp 23) (.tmp 26) 46 103 (.agg #[(.int .i64 0), (.int .i64 0)]) 16 rfl Try.underlying46 info103 rfl (by decide) (by omega) ba b8 bu _ _ _ (fun k_ => some k_ ≠ (aX : Value).ownBlock ∧ k_ ≠ ab) (fun _ => False) rfl rfl ?aO ?aR (fun _ _ h => h) (fun _ h => h.elim) ?aF ?aB ?aS ?aL ?_
      (case aR => exact CB bh.out HB.out)
      (case aB => exact (BT HB.out))
      (case aF => exact (fun k_ hk => ⟨Kd.fresh' (Kd.R_lt (RT ai.out)) k_ hk, Kd.freshB (BG1 aa) k_ hk⟩))
      (case aO => exact (by (with_reducible repeat (first | apply Kd.R_alloc | apply Kd.R_drewN | apply Kd.R_drew)); exact Kd.R_mono ax.out (fun _ hk => ⟨hk.1.2, hk.2⟩)))
      (case aS => exact (below_size (BT HB.out)))
      (case aL => have := LMc50.out; omega)
      intro a7 dH ho hb hg hat
      rw [← bv.out] at ho
      have ao := AM_ (blk_grown (BG1 aa) hg (Kd.R_away ax.out (fun _ hk => hk.2)))
      have ap := AM_ (Kd.R_after (ok := (fun k_ => k_ ≠ ab)) (by (with_reducible repeat (first | apply Kd.R_alloc | apply Kd.R_drewN | apply Kd.R_drew)); exact Kd.R_mono ai.out (fun _ hk => ⟨hk.1.2, hk.2⟩)) hg hat)
      have aq := AM_ (hb)
      have av := AM_ (ho)
      clear aa
      clear ai
      clear HB
      clear ax
      have aa := ao
      have ai := ap
      have HB := aq
      have aA := av
      clear ao ap aq av
      clear ho hb hg hat
      refine hK.out _ _ ⟨bc aa.out 0, bc aa.out 1⟩ (fun ac => ?_)
      clear hK K
      refine NM 27 ?_
      exact NR (hCont (ba, a7, aX) _ ⟨ac, (RT aA.out), (by (with_reducible repeat (first | apply Kd.R_alloc | apply Kd.R_drewN | apply Kd.R_drew)); exact Kd.R_mono ai.out (fun _ hk => ⟨hk.2, hk.1⟩)), (BG1 aa), (BT HB.out)⟩)
    rintro ⟨ba, a7, aX⟩ co ⟨hS_, h0_, h1_, h2_, h3_⟩
    have ao : Aside0 (Kd.R k103 103 co w.heap.size (fun k_ => some k_ ≠ (aX : Value).ownBlock ∧ k_ ≠ ab) a7 ca) := ⟨h0_⟩
    have ap : Aside0 (Kd.R k103 103 co w.heap.size (fun k_ => some k_ ≠ (a7 : Value).ownBlock ∧ k_ ≠ ab) aX bw) := ⟨h1_⟩
    have aq : Aside0 (co.heap[ab]? = some (.cells #[.int .i64 af, .int .i64 ag] 103 (0, 0))) := ⟨h2_⟩
    have av : Aside0 (Below w.heap.size w co) := ⟨h3_⟩
    clear aa
    clear HB
    clear h0_ h1_ h2_ h3_
    have aA := ao
    have ai := ap
    have aa := aq
    have HB := av
    clear ao ap aq av
    have ac : co.cell? ⟨ab, 0, none⟩ = some (.int .i64 af) ∧ co.cell? ⟨ab, 1, none⟩ = some (.int .i64 ag) := hS_
    obtain ⟨cu, cv, cw⟩ := Kd.R_slice ai.out
    (first | subst cw | (injection cw with f1_ f2_ f3_; have f4_ := f1_.symm; have f5_ := f3_.symm; clear f1_ f2_ f3_; subst f4_; subst f5_))
    refine norm_ (a' := ?_) ?_ ?_
    rotate_left
    ·simp only [putAll, Act.put, List.setIfInBounds_toArray, List.set_cons_zero, List.set_cons_succ]
     rfl
    refine OS aj (fun K hK => ?_)
    refine Kd.R_append_rows_step k103 (w0 := w) w.heap.size (by rfl) (.tmp 27) (.tmp 29) 46 103 (.agg #[(.int .i64 0), (.int .i64 0)]) 16 rfl Try.underlying46 info103 rfl (by decide) (by omega) a7 ca bw _ _ _ (fun k_ => some k_ ≠ (.slice cu bw.length cv : Value).ownBlock ∧ k_ ≠ ab) (fun _ => False) rfl rfl ?aO ?aR (fun _ _ h => h) (fun _ h => h.elim) ?aF ?aB ?aS ?aL ?_
    (case aR => exact CRR ai)
    (case aB => exact (BT HB.out))
    (case aF => exact (fun k_ hk => ⟨Kd.fresh' (Kd.R_lt (RT ai.out)) k_ hk, Kd.freshB (BG1 aa) k_ hk⟩))
    (case aO => exact (RT aA.out))
    (case aS => exact (below_size (BT HB.out)))
    (case aL => have := LMc51.out; omega)
    intro cR dI ho hb hg hat
    rw [← cs.out] at ho
    have ao := AM_ (blk_grown (BG1 aa) hg (Kd.R_away aA.out (fun _ hk => hk.2)))
    have ap := AM_ (Kd.R_after (ok := (fun k_ => k_ ≠ ab)) (by (with_reducible repeat (first | apply Kd.R_alloc | apply Kd.R_drewN | apply Kd.R_drew)); exact Kd.R_mono ai.out (fun _ hk => ⟨hk.2, hk.1⟩)) hg hat)
    have aq := AM_ (hb)
    have av := AM_ (ho)
    clear aa
    clear ai
    clear HB
    clear aA
    have aa := ao
    have ai := ap
    have HB := aq
    have a5 := av
    clear ao ap aq av
    clear ho hb hg hat
    refine hK.out _ _ ⟨bc aa.out 0, bc aa.out 1⟩ (fun ac => ?_)
    clear hK K
    refine NM 30 ?_
    refine PS aj ?_
    refine done_ (done_of aj.out (by kernel_rfl)) ?_
    try go_wp2
    replace ai := AM_ (Kd.R_drew ai.out)
    replace a5 := AM_ (Kd.R_drew a5.out)
    replace aa := BD1 aa
    replace HB := BD2 HB
    refine start_ (n := 14) (S := fun w' => True) (ds := []) (lo 0 14) (by kernel_rfl) rfl rfl trivial (fun ac => ?_); refine with_tabW spec_l5PutWrite.tab5 spec_l5PutWrite.bits5 (fun aj aW => ?_)
    generalize dI.drew = d7 at ai a5 aa HB ac ⊢
    iterate 14 first | refine PS aj ?_ | refine PT aj ?_
    refine done_ (done_of aj.out (by kernel_rfl)) ?_
    have cS : (ae : Int) ≤ ((l0.length : Int) : Int) := DT
    obtain ⟨i067, bS, _, hsz67, _⟩ := info_parts info103
    have hroom67 : l0.length ≤ c0 := cn.out
    have hC67 : Kd.C k103 _ A0 l0.length l0 := br.out
    have cT : (0 : Int) ≤ (ae : Int) := DT
    have hcut67 := cut_from (P := Try.prog) 46 103 .i64 Try.underlying46 bS 2 hsz67 A0 l0.length c0 ae cT cS
    have bz := Kd.C_drop (m := (ae : Int).toNat) (c := c0) hC67 (by omega) hroom67
    obtain ⟨dJ, hA67⟩ : ∃ A1, A1 = (if c0 = (ae : Int).toNat then A0 else (A0 : Option Addr).map (·.add ((ae : Int).toNat * 2))) := ⟨_, rfl⟩
    obtain ⟨dK, cd⟩ : ∃ c1, c1 = c0 - (ae : Int).toNat := ⟨_, rfl⟩
    have bG : bb.length = l0.length - (ae : Int).toNat := (by rw [bQ.out, List.length_drop] <;> omega)
    rw [show (l0).drop (ae : Int).toNat = bb from bQ.out.symm] at bz
    replace bz : Kd.C k103 _ dJ bb.length bb := (by rw [hA67]; exact bz)
    rw [← bG, ← hA67, ← cd] at hcut67
    have cx := AM_ bz
    have dq := AM_ (show bb.length ≤ dK from by rw [bG, cd]; exact Nat.sub_le_sub_right hroom67 _)
    clear bz hC67 hroom67 bS hsz67 cd
    have KY67 := AM_ bG
    have KA67 := AM_ hA67
    clear bG hA67
    replace cS := ET cS
    try go_wp2_with (first | ((with_reducible refine gate_builtin (b := .append) (xs := #[.tmp 47, .tmp 50]) rfl ?_); at_builtin; refine Kd.R_append_rows k103 (w0 := w) w.heap.size rfl (.tmp 47) (.tmp 50) 46 103 (.agg #[(.int .i64 0), (.int .i64 0)]) 16 rfl Try.underlying46 info103 rfl (by decide) (by omega) cR cr bb _ _ _ (fun k_ => some k_ ≠ (.slice cu bw.length cv : Value).ownBlock ∧ k_ ≠ ab) (fun _ => False) rfl rfl ?aO ?aR (fun _ _ h => h) (fun _ h => h.elim) ?aF ?aB ?aS ?aL ?_; (case aR => exact CB cx.out HB.out); (case aB => exact (BT HB.out)); (case aF => exact (fun k_ hk => ⟨Kd.fresh' (Kd.R_lt (RT ai.out)) k_ hk, Kd.freshB (BG1 aa) k_ hk⟩)); (case aO => exact (RT a5.out)); (case aS => exact (below_size (BT HB.out))); (case aL => have := LMc54.out; omega); intro dL d8 ho hb hg hat; rw [← ct.out] at ho; have ao := AM_ (blk_grown (BG1 aa) hg (Kd.R_away a5.out (fun _ hk => hk.2))); have ap := AM_ (Kd.R_after (ok := (fun k_ => k_ ≠ ab)) (RT ai.out) hg hat); have aq := AM_ (hb); have av := AM_ (ho); clear aa; clear ai; clear HB; clear a5; have aa := ao; have ai := ap; have HB := aq; have cy := av; clear ao ap aq av; clear ho hb hg hat))
    go_ret
    exact ⟨_, ER, by (with_reducible repeat (first | apply Kd.R_alloc | apply Kd.R_drewN | apply Kd.R_drew)); exact Kd.R_mono cy.out (fun _ hk => trivial), BT HB.out⟩
   rw [if_pos c4] at H
   have cN := DE c4
   clear c4
   replace H := HI H
   obtain ⟨c5, H⟩ := H
   have dM := DE c5
   clear c5
   by_cases c6 : ((rd_T103 l0 ae).f0) < af
   ·rw [if_pos c6] at H
    have cU := DE c6
    clear c6
    have H' := AM_ H
    clear H
    try go_wp2
    replace aa := BD1 aa
    replace HB := BD2 HB
    have aQ : 0 ≤ (ae : Int) := DT
    have aT : ae < (l0.length : Int) := DT
    obtain ⟨ah, bA, am, an⟩ := at_T103 br.out ae aQ aT
    have aG := an
    have aH := am
    cases bA
    replace am := BC HB.out am
    replace an := BC HB.out an
    replace aQ := ET aQ
    replace aT := ET aT
    refine start_ (n := 14) (S := fun w' => w'.cell? ⟨ab, 0, none⟩ = some (.int .i64 af) ∧ w'.cell? ⟨ab, 1, none⟩ = some (.int .i64 ag) ∧ w'.cell? (ah.add ((ae).toNat * 2)) = some (.int .i64 ((rd_T103 l0 ae).f0)) ∧ w'.cell? ⟨(ah.add ((ae).toNat * 2)).block, (ah.add ((ae).toNat * 2)).off + 1, none⟩ = some (.int .i64 ((rd_T103 l0 ae).f1))) (ds := []) (lo 0 14) (by kernel_rfl) rfl rfl ⟨bc aa.out 0, bc aa.out 1, (BD HB.out aH), (BD HB.out aG)⟩ (fun ac => ?_); refine with_tabW spec_l5PutWrite.tab2 spec_l5PutWrite.bits2 (fun aj aW => ?_)
    generalize wr.drew = w7 at aa HB am an ac ⊢
    iterate 9 refine PS aj ?_
    refine PV 10 (some 17) (bs 1535 14) aj ?_
    refine TX 9 (some 16) (lo 11 14) aj aW ac ?_
    iterate 3 first | refine PS aj ?_ | refine TS aj aW ac ?_
    refine done_ (done_of aj.out (by kernel_rfl)) ?_
    try go_wp2
    go_roundg k1
    case measure => have := df.out; omega
    case rel => exact ⟨(wrap64 (ae + 1)), (by first | rfl | (simp; done) | (simp [*]; done)), H', ⟨by have := df.out; omega⟩, ⟨BH aa.out⟩, ⟨BT HB.out⟩⟩
   rw [if_neg c6] at H
   have cU := decide_eq_false c6
   clear c6
   obtain ⟨bm, bT, H⟩ := OY H
   have aN := AM_ bT
   clear bT
   have dN := eq_true (DT : 0 ≤ ae)
   replace H := HI H
   obtain ⟨c9, H⟩ := H
   have dO := ET c9
   have c9b1 : decide (ae ≤ (l0.length : Int)) = true := DE c9
   clear c9
   obtain ⟨aY, bU, H⟩ := OY H
   have bi := AM_ bU
   clear bU
   replace H := HI H
   obtain ⟨dr, H⟩ := H
   have LMc10 := AM_ dr
   clear dr
   obtain ⟨bn, bV, H⟩ := OY H
   have a6 := AM_ bV
   clear bV
   obtain ⟨aZ, bW, H⟩ := OY H
   have aC := AM_ bW
   clear bW
   replace H := HI H
   obtain ⟨dt, H⟩ := H
   have LMc11 := AM_ dt
   clear dt
   obtain ⟨bo, bX, H⟩ := OY H
   have bY := AM_ bX
   clear bX
   by_cases ce : ((rd_T103 l0 ae).f0) = af
   rotate_left
   ·rw [if_neg ce] at H
    have cz : (((rd_T103 l0 ae).f0) == af) = false := beq_eq_false_iff_ne.mpr ce
    have c12b1 : (((rd_T103 l0 ae).f0) != af) = true := bne_iff_ne.mpr ce
    have du := eq_true (DT : 0 ≤ ae)
    have dv := eq_true (DT : ae ≤ (l0.length : Int))
    obtain ⟨bd, bZ, H⟩ := OY H
    have b0 := AM_ bZ
    clear bZ
    replace H := HI H
    obtain ⟨dw, H⟩ := H
    have LMc33 := AM_ dw
    clear dw
    obtain ⟨dP, bB⟩ : ∃ y_ : List (S103), y_ = (bo ++ bd) := ⟨_, rfl⟩
    rw [← bB] at H
    have cA := AM_ bB
    clear bB
    obtain rfl := SI H
    try go_wp2
    replace aa := BD1 aa
    replace HB := BD2 HB
    have aQ : 0 ≤ (ae : Int) := DT
    have aT : ae < (l0.length : Int) := DT
    obtain ⟨ah, bA, am, an⟩ := at_T103 br.out ae aQ aT
    have aG := an
    have aH := am
    cases bA
    replace am := BC HB.out am
    replace an := BC HB.out an
    replace aQ := ET aQ
    replace aT := ET aT
    refine start_ (n := 14) (S := fun w' => w'.cell? ⟨ab, 0, none⟩ = some (.int .i64 af) ∧ w'.cell? ⟨ab, 1, none⟩ = some (.int .i64 ag) ∧ w'.cell? (ah.add ((ae).toNat * 2)) = some (.int .i64 ((rd_T103 l0 ae).f0)) ∧ w'.cell? ⟨(ah.add ((ae).toNat * 2)).block, (ah.add ((ae).toNat * 2)).off + 1, none⟩ = some (.int .i64 ((rd_T103 l0 ae).f1))) (ds := []) (lo 0 14) (by kernel_rfl) rfl rfl ⟨bc aa.out 0, bc aa.out 1, (BD HB.out aH), (BD HB.out aG)⟩ (fun ac => ?_); refine with_tabW spec_l5PutWrite.tab2 spec_l5PutWrite.bits2 (fun aj aW => ?_)
    generalize wr.drew = dQ at aa HB am an ac ⊢
    iterate 9 refine PS aj ?_
    refine PV 10 (some 17) (bs 1535 14) aj ?_
    refine TX 9 (some 16) (lo 11 14) aj aW ac ?_
    iterate 3 first | refine PS aj ?_ | refine TS aj aW ac ?_
    refine done_ (done_of aj.out (by kernel_rfl)) ?_
    try go_wp2
    replace aa := BD1 aa
    replace HB := BD2 HB
    have cV : (ae : Int) ≤ ((l0.length : Int) : Int) := DT
    obtain ⟨i036, b1, _, hsz36, _⟩ := info_parts info103
    have hroom36 : l0.length ≤ c0 := cn.out
    have hC36 : Kd.C k103 _ (some ah) l0.length l0 := br.out
    have hcut36 := cut_to (P := Try.prog) 46 103 .i64 Try.underlying46 b1 (some ah) l0.length c0 ae (DT) cV hroom36
    have cf := Kd.C_take (m := (ae : Int).toNat) hC36 (by omega)
    have cg : aY.length = (ae : Int).toNat := (by rw [bi.out, List.length_take]; omega)
    rw [← bi.out] at cf
    rw [← cg] at hcut36
    have aI := AM_ cf
    have cB := AM_ (show aY.length ≤ c0 from by omega)
    clear cf hC36 hroom36 b1 hsz36
    have KY36 := AM_ cg
    clear cg
    replace cV := ET cV
    refine start_ (n := 9) (S := fun w' => w'.cell? ⟨ab, 0, none⟩ = some (.int .i64 af) ∧ w'.cell? ⟨ab, 1, none⟩ = some (.int .i64 ag)) (ds := []) (lo 0 9) (by kernel_rfl) rfl rfl ⟨bc aa.out 0, bc aa.out 1⟩ (fun ac => ?_); refine with_tabW spec_l5PutWrite.tab4 spec_l5PutWrite.bits4 (fun aj aW => ?_)
    generalize dQ.drew = d9 at aa HB aI ac ⊢
    refine PV 1 (some 24) (bs 2 9) aj ?_
    refine PV 2 (some 25) (bs 6 9) aj ?_
    refine PV 3 (some 26) (bs 14 9) aj ?_
    refine TX 5 (some 28) (bs 46 9) aj aW ac ?_
    refine join_ (σ := Value × Value × Value) 2 (lo 7 9) (fun s_ => [(23, s_.1), (27, s_.2.1), (29, s_.2.2)]) (fun s_ w' => (w'.cell? ⟨ab, 0, none⟩ = some (.int .i64 af) ∧ w'.cell? ⟨ab, 1, none⟩ = some (.int .i64 ag)) ∧ (Kd.R k103 103 w' w.heap.size (fun k_ => some k_ ≠ (s_.2.2 : Value).ownBlock ∧ k_ ≠ ab) s_.2.1 bn) ∧ (Kd.R k103 103 w' w.heap.size (fun k_ => some k_ ≠ (s_.2.1 : Value).ownBlock ∧ k_ ≠ ab) s_.2.2 aZ) ∧ (w'.heap[ab]? = some (.cells #[.int .i64 af, .int .i64 ag] 103 (0, 0))) ∧ (Below w.heap.size w w')) ?_ ?_
    rotate_left
    ·intro hCont
     refine two_ (i := 0) (j := 6) (Ni := some 23) (Nj := some 29) (bs 47 9) (bs 110 9) rfl rfl rfl rfl (two_of aj.out (by kernel_rfl)) (by decide) (by decide) (fun K hK => ?_) (fun K hK => ?_)
     ·skip
      refine Kd.R_lit_step k103 _ 103 ?hg (N := 23) ?hd (xs := ([] : List (S103))) (inner := []) (ok := fun _ => True) (okp := fun _ => True) ?hr ?hp (fun _ hk => hk) trivial (Below.refl _ _) (Nat.le_refl _) (by simp) ?_; (case hd => rfl); (case hg => rfl); (case hr => first | (go_simp; done) | (go_simp; rfl)); (case hp => exact (Reps.none _ _))
      intro aD dR aU hb hg_ hnew_
      clear hg_ hnew_
      (first | rw [← aN.out] at aU | (simp only [Int.reduceToNat] at aU; rw [← aN.out] at aU))
      have ak := AM_ (Kd.R_lower (Kd.R_newB aU (BG1 aa)) (below_size (BT HB.out)))
      replace aa := BV aa hb
      replace HB := BW HB hb
      clear hb aU
      refine hK.out _ _ ⟨bc aa.out 0, bc aa.out 1⟩ (fun ac => ?_)
      clear hK K
      refine NM 23 ?_
      refine two_ (i := 4) (j := 6) (Ni := some 27) (Nj := some 29) (lo 6 9) (bs 111 9) rfl rfl rfl rfl (two_of aj.out (by kernel_rfl)) (by decide) (by decide) (fun K hK => ?_) (fun K hK => ?_)
      ·skip
       refine Kd.R_append_rows_step k103 (w0 := w) w.heap.size (by rfl) (.tmp 23) (.tmp 26) 46 103 (.agg #[(.int .i64 0), (.int .i64 0)]) 16 rfl Try.underlying46 info103 rfl (by decide) (by omega) aD bm aY _ _ _ (fun k_ => k_ ≠ ab) (fun _ => False) rfl rfl ?aO ?aR (fun _ _ h => h) (fun _ h => h.elim) ?aF ?aB ?aS ?aL ?_
       (case aR => exact CB aI.out HB.out)
       (case aB => exact (BT HB.out))
       (case aF => exact (fun k_ hk => Kd.freshB (BG1 aa) k_ hk))
       (case aO => exact (by (with_reducible repeat (first | apply Kd.R_alloc | apply Kd.R_drewN | apply Kd.R_drew)); exact Kd.R_mono ak.out (fun _ hk => hk.2)))
       (case aS => exact (below_size (BT HB.out)))
       (case aL => have := LMc10.out; omega)
       intro az dx ho hb hg hat
       rw [← a6.out] at ho
       have ao := AM_ (blk_grown (BG1 aa) hg (Kd.R_away ak.out (fun _ hk => hk.2)))
       have ap := AM_ (hb)
       have aq := AM_ (ho)
       clear aa
       clear HB
       clear ak
       have aa := ao
       have HB := ap
       have al := aq
       clear ao ap aq
       clear ho hb hg hat
       refine hK.out _ _ ⟨bc aa.out 0, bc aa.out 1⟩ (fun ac => ?_)
       clear hK K
       refine NM 27 ?_
       refine OS aj (fun K hK => ?_)
       refine Kd.R_lit_step k103 _ 103 ?hg (N := 29) ?hd (xs := ([(⟨af, ag⟩ : S103)] : List (S103))) (inner := [.int .i64 af, .int .i64 ag]) (ok := fun _ => True) (okp := fun _ => True) ?hr ?hp (fun _ hk => hk) trivial (Below.refl _ _) (Nat.le_refl _) (by simp) ?_; (case hd => rfl); (case hg => rfl); (case hr => first | (go_simp; done) | (go_simp; rfl)); (case hp => exact (Reps.c2 (show Kd.M k103 _ _ _ (⟨af, ag⟩ : S103) [.int .i64 af, .int .i64 ag] from (k103_mkM _ _ _ (⟨af, ag⟩ : S103) )) (Reps.none _ _)))
       intro aw ea bp hb hg_ hnew_
       clear hg_ hnew_
       (first | rw [← aC.out] at bp | (simp only [Int.reduceToNat] at bp; rw [← aC.out] at bp))
       have ad := AM_ (Kd.R_lower (Kd.R_newB (Kd.R_new' bp (Kd.R_lt (RT al.out))) (BG1 aa)) (below_size (BT HB.out)))
       replace al := AM_ (Kd.R_elder' (RT al.out) (Kd.R_base bp) hb)
       replace aa := BV aa hb
       replace HB := BW HB hb
       clear hb bp
       refine hK.out _ _ ⟨bc aa.out 0, bc aa.out 1⟩ (fun ac => ?_)
       clear hK K
       refine NM 29 ?_
       exact NR (hCont (aD, az, aw) _ ⟨ac, (by (with_reducible repeat (first | apply Kd.R_alloc | apply Kd.R_drewN | apply Kd.R_drew)); exact Kd.R_mono al.out (fun _ hk => ⟨hk.2, hk.1⟩)), (by (with_reducible repeat (first | apply Kd.R_alloc | apply Kd.R_drewN | apply Kd.R_drew)); exact Kd.R_mono ad.out (fun _ hk => ⟨hk.1.2, hk.2⟩)), (BG1 aa), (BT HB.out)⟩)
      ·skip
       refine Kd.R_lit_step k103 _ 103 ?hg (N := 29) ?hd (xs := ([(⟨af, ag⟩ : S103)] : List (S103))) (inner := [.int .i64 af, .int .i64 ag]) (ok := fun _ => True) (okp := fun _ => True) ?hr ?hp (fun _ hk => hk) trivial (Below.refl _ _) (Nat.le_refl _) (by simp) ?_; (case hd => rfl); (case hg => rfl); (case hr => first | (go_simp; done) | (go_simp; rfl)); (case hp => exact (Reps.c2 (show Kd.M k103 _ _ _ (⟨af, ag⟩ : S103) [.int .i64 af, .int .i64 ag] from (k103_mkM _ _ _ (⟨af, ag⟩ : S103) )) (Reps.none _ _)))
       intro aw dx aK hb hg_ hnew_
       clear hg_ hnew_
       (first | rw [← aC.out] at aK | (simp only [Int.reduceToNat] at aK; rw [← aC.out] at aK))
       have ad := AM_ (Kd.R_lower (Kd.R_newB (Kd.R_new' aK (Kd.R_lt (RT ak.out))) (BG1 aa)) (below_size (BT HB.out)))
       replace ak := AM_ (Kd.R_elder' (RT ak.out) (Kd.R_base aK) hb)
       replace aa := BV aa hb
       replace HB := BW HB hb
       clear hb aK
       refine hK.out _ _ ⟨bc aa.out 0, bc aa.out 1⟩ (fun ac => ?_)
       clear hK K
       refine NM 29 ?_
       refine one_ (i := 4) (N := some 27) (lo 7 9) rfl rfl (one_of aj.out (by kernel_rfl)) (by decide) (fun K hK => ?_)
       refine Kd.R_append_rows_step k103 (w0 := w) w.heap.size (by rfl) (.tmp 23) (.tmp 26) 46 103 (.agg #[(.int .i64 0), (.int .i64 0)]) 16 rfl Try.underlying46 info103 rfl (by decide) (by omega) aD bm aY _ _ _ (fun k_ => some k_ ≠ (aw : Value).ownBlock ∧ k_ ≠ ab) (fun _ => False) rfl rfl ?aO ?aR (fun _ _ h => h) (fun _ h => h.elim) ?aF ?aB ?aS ?aL ?_
       (case aR => exact CB aI.out HB.out)
       (case aB => exact (BT HB.out))
       (case aF => exact (fun k_ hk => ⟨Kd.fresh' (Kd.R_lt (RT ad.out)) k_ hk, Kd.freshB (BG1 aa) k_ hk⟩))
       (case aO => exact (by (with_reducible repeat (first | apply Kd.R_alloc | apply Kd.R_drewN | apply Kd.R_drew)); exact Kd.R_mono ak.out (fun _ hk => ⟨hk.2, hk.1.2⟩)))
       (case aS => exact (below_size (BT HB.out)))
       (case aL => have := LMc10.out; omega)
       intro az dS ho hb hg hat
       rw [← a6.out] at ho
       have ao := AM_ (blk_grown (BG1 aa) hg (Kd.R_away ak.out (fun _ hk => hk.1.2)))
       have ap := AM_ (Kd.R_after (ok := (fun k_ => k_ ≠ ab)) (by (with_reducible repeat (first | apply Kd.R_alloc | apply Kd.R_drewN | apply Kd.R_drew)); exact Kd.R_mono ad.out (fun _ hk => ⟨hk.2, hk.1.2⟩)) hg hat)
       have aq := AM_ (hb)
       have av := AM_ (ho)
       clear aa
       clear ad
       clear HB
       clear ak
       have aa := ao
       have ad := ap
       have HB := aq
       have al := av
       clear ao ap aq av
       clear ho hb hg hat
       refine hK.out _ _ ⟨bc aa.out 0, bc aa.out 1⟩ (fun ac => ?_)
       clear hK K
       refine NM 27 ?_
       exact NR (hCont (aD, az, aw) _ ⟨ac, (RT al.out), (by (with_reducible repeat (first | apply Kd.R_alloc | apply Kd.R_drewN | apply Kd.R_drew)); exact Kd.R_mono ad.out (fun _ hk => ⟨hk.2, hk.1⟩)), (BG1 aa), (BT HB.out)⟩)
     ·skip
      refine Kd.R_lit_step k103 _ 103 ?hg (N := 29) ?hd (xs := ([(⟨af, ag⟩ : S103)] : List (S103))) (inner := [.int .i64 af, .int .i64 ag]) (ok := fun _ => True) (okp := fun _ => True) ?hr ?hp (fun _ hk => hk) trivial (Below.refl _ _) (Nat.le_refl _) (by simp) ?_; (case hd => rfl); (case hg => rfl); (case hr => first | (go_simp; done) | (go_simp; rfl)); (case hp => exact (Reps.c2 (show Kd.M k103 _ _ _ (⟨af, ag⟩ : S103) [.int .i64 af, .int .i64 ag] from (k103_mkM _ _ _ (⟨af, ag⟩ : S103) )) (Reps.none _ _)))
      intro aw dR aU hb hg_ hnew_
      clear hg_ hnew_
      (first | rw [← aC.out] at aU | (simp only [Int.reduceToNat] at aU; rw [← aC.out] at aU))
      have ad := AM_ (Kd.R_lower (Kd.R_newB aU (BG1 aa)) (below_size (BT HB.out)))
      replace aa := BV aa hb
      replace HB := BW HB hb
      clear hb aU
      refine hK.out _ _ ⟨bc aa.out 0, bc aa.out 1⟩ (fun ac => ?_)
      clear hK K
      refine NM 29 ?_
      refine one_ (i := 0) (N := some 23) (bs 111 9) rfl rfl (one_of aj.out (by kernel_rfl)) (by decide) (fun K hK => ?_)
      refine Kd.R_lit_step k103 _ 103 ?hg (N := 23) ?hd (xs := ([] : List (S103))) (inner := []) (ok := fun _ => True) (okp := fun _ => True) ?hr ?hp (fun _ hk => hk) trivial (Below.refl _ _) (Nat.le_refl _) (by simp) ?_; (case hd => rfl); (case hg => rfl); (case hr => first | (go_simp; done) | (go_simp; rfl)); (case hp => exact (Reps.none _ _))
      intro aD dx aK hb hg_ hnew_
      clear hg_ hnew_
      (first | rw [← aN.out] at aK | (simp only [Int.reduceToNat] at aK; rw [← aN.out] at aK))
      have ak := AM_ (Kd.R_lower (Kd.R_newB (Kd.R_new' aK (Kd.R_lt (RT ad.out))) (BG1 aa)) (below_size (BT HB.out)))
      replace ad := AM_ (Kd.R_elder' (RT ad.out) (Kd.R_base aK) hb)
      replace aa := BV aa hb
      replace HB := BW HB hb
      clear hb aK
      refine hK.out _ _ ⟨bc aa.out 0, bc aa.out 1⟩ (fun ac => ?_)
      clear hK K
      refine NM 23 ?_
      refine one_ (i := 4) (N := some 27) (lo 7 9) rfl rfl (one_of aj.out (by kernel_rfl)) (by decide) (fun K hK => ?_)
      refine Kd.R_append_rows_step k103 (w0 := w) w.heap.size (by rfl) (.tmp 23) (.tmp 26) 46 103 (.agg #[(.int .i64 0), (.int .i64 0)]) 16 rfl Try.underlying46 info103 rfl (by decide) (by omega) aD bm aY _ _ _ (fun k_ => some k_ ≠ (aw : Value).ownBlock ∧ k_ ≠ ab) (fun _ => False) rfl rfl ?aO ?aR (fun _ _ h => h) (fun _ h => h.elim) ?aF ?aB ?aS ?aL ?_
      (case aR => exact CB aI.out HB.out)
      (case aB => exact (BT HB.out))
      (case aF => exact (fun k_ hk => ⟨Kd.fresh' (Kd.R_lt (RT ad.out)) k_ hk, Kd.freshB (BG1 aa) k_ hk⟩))
      (case aO => exact (by (with_reducible repeat (first | apply Kd.R_alloc | apply Kd.R_drewN | apply Kd.R_drew)); exact Kd.R_mono ak.out (fun _ hk => ⟨hk.1.2, hk.2⟩)))
      (case aS => exact (below_size (BT HB.out)))
      (case aL => have := LMc10.out; omega)
      intro az dS ho hb hg hat
      rw [← a6.out] at ho
      have ao := AM_ (blk_grown (BG1 aa) hg (Kd.R_away ak.out (fun _ hk => hk.2)))
      have ap := AM_ (Kd.R_after (ok := (fun k_ => k_ ≠ ab)) (by (with_reducible repeat (first | apply Kd.R_alloc | apply Kd.R_drewN | apply Kd.R_drew)); exact Kd.R_mono ad.out (fun _ hk => ⟨hk.1.2, hk.2⟩)) hg hat)
      have aq := AM_ (hb)
      have av := AM_ (ho)
      clear aa
      clear ad
      clear HB
      clear ak
      have aa := ao
      have ad := ap
      have HB := aq
      have al := av
      clear ao ap aq av
      clear ho hb hg hat
      refine hK.out _ _ ⟨bc aa.out 0, bc aa.out 1⟩ (fun ac => ?_)
      clear hK K
      refine NM 27 ?_
      exact NR (hCont (aD, az, aw) _ ⟨ac, (RT al.out), (by (with_reducible repeat (first | apply Kd.R_alloc | apply Kd.R_drewN | apply Kd.R_drew)); exact Kd.R_mono ad.out (fun _ hk => ⟨hk.2, hk.1⟩)), (BG1 aa), (BT HB.out)⟩)
    rintro ⟨aD, az, aw⟩ cp ⟨hS_, h0_, h1_, h2_, h3_⟩
    have ao : Aside0 (Kd.R k103 103 cp w.heap.size (fun k_ => some k_ ≠ (aw : Value).ownBlock ∧ k_ ≠ ab) az bn) := ⟨h0_⟩
    have ap : Aside0 (Kd.R k103 103 cp w.heap.size (fun k_ => some k_ ≠ (az : Value).ownBlock ∧ k_ ≠ ab) aw aZ) := ⟨h1_⟩
    have aq : Aside0 (cp.heap[ab]? = some (.cells #[.int .i64 af, .int .i64 ag] 103 (0, 0))) := ⟨h2_⟩
    have av : Aside0 (Below w.heap.size w cp) := ⟨h3_⟩
    clear aa
    clear HB
    clear h0_ h1_ h2_ h3_
    have al := ao
    have ad := ap
    have aa := aq
    have HB := av
    clear ao ap aq av
    have ac : cp.cell? ⟨ab, 0, none⟩ = some (.int .i64 af) ∧ cp.cell? ⟨ab, 1, none⟩ = some (.int .i64 ag) := hS_
    obtain ⟨cC, cD, cE⟩ := Kd.R_slice ad.out
    (first | subst cE | (injection cE with f1_ f2_ f3_; have f4_ := f1_.symm; have f5_ := f3_.symm; clear f1_ f2_ f3_; subst f4_; subst f5_))
    refine norm_ (a' := ?_) ?_ ?_
    rotate_left
    ·simp only [putAll, Act.put, List.setIfInBounds_toArray, List.set_cons_zero, List.set_cons_succ]
     rfl
    refine OS aj (fun K hK => ?_)
    refine Kd.R_append_rows_step k103 (w0 := w) w.heap.size (by rfl) (.tmp 27) (.tmp 29) 46 103 (.agg #[(.int .i64 0), (.int .i64 0)]) 16 rfl Try.underlying46 info103 rfl (by decide) (by omega) az bn aZ _ _ _ (fun k_ => some k_ ≠ (.slice cC aZ.length cD : Value).ownBlock ∧ k_ ≠ ab) (fun _ => False) rfl rfl ?aO ?aR (fun _ _ h => h) (fun _ h => h.elim) ?aF ?aB ?aS ?aL ?_
    (case aR => exact CRR ad)
    (case aB => exact (BT HB.out))
    (case aF => exact (fun k_ hk => ⟨Kd.fresh' (Kd.R_lt (RT ad.out)) k_ hk, Kd.freshB (BG1 aa) k_ hk⟩))
    (case aO => exact (RT al.out))
    (case aS => exact (below_size (BT HB.out)))
    (case aL => have := LMc11.out; omega)
    intro ch dT ho hb hg hat
    rw [← bY.out] at ho
    have ao := AM_ (blk_grown (BG1 aa) hg (Kd.R_away al.out (fun _ hk => hk.2)))
    have ap := AM_ (Kd.R_after (ok := (fun k_ => k_ ≠ ab)) (by (with_reducible repeat (first | apply Kd.R_alloc | apply Kd.R_drewN | apply Kd.R_drew)); exact Kd.R_mono ad.out (fun _ hk => ⟨hk.2, hk.1⟩)) hg hat)
    have aq := AM_ (hb)
    have av := AM_ (ho)
    clear aa
    clear ad
    clear HB
    clear al
    have aa := ao
    have ad := ap
    have HB := aq
    have ay := av
    clear ao ap aq av
    clear ho hb hg hat
    refine hK.out _ _ ⟨bc aa.out 0, bc aa.out 1⟩ (fun ac => ?_)
    clear hK K
    refine NM 30 ?_
    refine PS aj ?_
    refine done_ (done_of aj.out (by kernel_rfl)) ?_
    try go_wp2
    replace ad := AM_ (Kd.R_drew ad.out)
    replace ay := AM_ (Kd.R_drew ay.out)
    replace aa := BD1 aa
    replace HB := BD2 HB
    have be : 0 ≤ (ae : Int) := DT
    have bf : ae < (l0.length : Int) := DT
    obtain ⟨bC, ci, ar, au⟩ := at_T103 br.out ae be bf
    have a8 := au
    have a9 := ar
    obtain rfl : ah = bC := (by injection ci)
    replace ar := BC HB.out ar
    replace au := BC HB.out au
    replace be := ET be
    replace bf := ET bf
    refine start_ (n := 14) (S := fun w' => w'.cell? ⟨ab, 0, none⟩ = some (.int .i64 af) ∧ w'.cell? ⟨ab, 1, none⟩ = some (.int .i64 ag) ∧ w'.cell? (ah.add ((ae).toNat * 2)) = some (.int .i64 ((rd_T103 l0 ae).f0)) ∧ w'.cell? ⟨(ah.add ((ae).toNat * 2)).block, (ah.add ((ae).toNat * 2)).off + 1, none⟩ = some (.int .i64 ((rd_T103 l0 ae).f1))) (ds := []) (lo 0 14) (by kernel_rfl) rfl rfl ⟨bc aa.out 0, bc aa.out 1, (BD HB.out a9), (BD HB.out a8)⟩ (fun ac => ?_); refine with_tabW spec_l5PutWrite.tab5 spec_l5PutWrite.bits5 (fun aj aW => ?_)
    generalize dT.drew = eb at ad ay aa HB ar au ac ⊢
    iterate 9 refine PS aj ?_
    refine PV 10 (some 41) (bs 1535 14) aj ?_
    refine TX 9 (some 40) (lo 11 14) aj aW ac ?_
    iterate 3 first | refine PS aj ?_ | refine TS aj aW ac ?_
    refine done_ (done_of aj.out (by kernel_rfl)) ?_
    have cW : (ae : Int) ≤ ((l0.length : Int) : Int) := DT
    obtain ⟨i046, b2, _, hsz46, _⟩ := info_parts info103
    have hroom46 : l0.length ≤ c0 := cn.out
    have hC46 : Kd.C k103 _ (some ah) l0.length l0 := br.out
    have cX : (0 : Int) ≤ (ae : Int) := DT
    have hcut46 := cut_from (P := Try.prog) 46 103 .i64 Try.underlying46 b2 2 hsz46 (some ah) l0.length c0 ae cX cW
    have bD := Kd.C_drop (m := (ae : Int).toNat) (c := c0) hC46 (by omega) hroom46
    obtain ⟨dU, hA46⟩ : ∃ A1, A1 = (if c0 = (ae : Int).toNat then (some ah) else ((some ah) : Option Addr).map (·.add ((ae : Int).toNat * 2))) := ⟨_, rfl⟩
    obtain ⟨dV, cj⟩ : ∃ c1, c1 = c0 - (ae : Int).toNat := ⟨_, rfl⟩
    have bH : bd.length = l0.length - (ae : Int).toNat := (by rw [b0.out, List.length_drop] <;> omega)
    rw [show (l0).drop (ae : Int).toNat = bd from b0.out.symm] at bD
    replace bD : Kd.C k103 _ dU bd.length bd := (by rw [hA46]; exact bD)
    rw [← bH, ← hA46, ← cj] at hcut46
    have cF := AM_ bD
    have dy := AM_ (show bd.length ≤ dV from by rw [bH, cj]; exact Nat.sub_le_sub_right hroom46 _)
    clear bD hC46 hroom46 b2 hsz46 cj
    have KY46 := AM_ bH
    have KA46 := AM_ hA46
    clear bH hA46
    replace cW := ET cW
    try go_wp2_with (first | ((with_reducible refine gate_builtin (b := .append) (xs := #[.tmp 47, .tmp 50]) rfl ?_); at_builtin; refine Kd.R_append_rows k103 (w0 := w) w.heap.size rfl (.tmp 47) (.tmp 50) 46 103 (.agg #[(.int .i64 0), (.int .i64 0)]) 16 rfl Try.underlying46 info103 rfl (by decide) (by omega) ch bo bd _ _ _ (fun k_ => some k_ ≠ (.slice cC aZ.length cD : Value).ownBlock ∧ k_ ≠ ab) (fun _ => False) rfl rfl ?aO ?aR (fun _ _ h => h) (fun _ h => h.elim) ?aF ?aB ?aS ?aL ?_; (case aR => exact CB cF.out HB.out); (case aB => exact (BT HB.out)); (case aF => exact (fun k_ hk => ⟨Kd.fresh' (Kd.R_lt (RT ad.out)) k_ hk, Kd.freshB (BG1 aa) k_ hk⟩)); (case aO => exact (RT ay.out)); (case aS => exact (below_size (BT HB.out))); (case aL => have := LMc33.out; omega); intro dW ec ho hb hg hat; rw [← cA.out] at ho; have ao := AM_ (blk_grown (BG1 aa) hg (Kd.R_away ay.out (fun _ hk => hk.2))); have ap := AM_ (Kd.R_after (ok := (fun k_ => k_ ≠ ab)) (RT ad.out) hg hat); have aq := AM_ (hb); have av := AM_ (ho); clear aa; clear ad; clear HB; clear ay; have aa := ao; have ad := ap; have HB := aq; have cG := av; clear ao ap aq av; clear ho hb hg hat))
    go_ret
    exact ⟨_, ER, by (with_reducible repeat (first | apply Kd.R_alloc | apply Kd.R_drewN | apply Kd.R_drew)); exact Kd.R_mono cG.out (fun _ hk => trivial), BT HB.out⟩
   rw [if_pos ce] at H
   have cz : (((rd_T103 l0 ae).f0) == af) = true := beq_iff_eq.mpr ce
   have c12b1 : (((rd_T103 l0 ae).f0) != af) = false := bne_eq_false_iff_eq.mpr ce
   clear ce
   obtain ⟨aE, bj⟩ : ∃ j_ : Int, (wrap64 (ae + 1)) = j_ := ⟨_, rfl⟩
   replace H : (if 0 ≤ (aE) then (if (aE) ≤ (l0.length : Int) then ((some (l0.drop ((aE) : Int).toNat : List (S103))).bind fun a3 => (if bo.length + a3.length < 8796093022208 then (some (bo ++ a3)) else (none))) else (none)) else (none)) = some r := by first | (rw [bj] at H; exact H) | (simp only [bj] at H ⊢; exact H)
   have hji13w : (IntKind.i64.wrap (ae + 1)) = aE := (i64_w _).trans bj
   replace H := HI H
   obtain ⟨cY, H⟩ := H
   have dz := ET cY
   have c14b1 : decide (0 ≤ (aE)) = true := DE cY
   clear cY
   replace H := HI H
   obtain ⟨cZ, H⟩ := H
   have dA := ET cZ
   have c15b1 : decide ((aE) ≤ (l0.length : Int)) = true := DE cZ
   clear cZ
   obtain ⟨a3, b3, H⟩ := OY H
   have b4 := AM_ b3
   clear b3
   replace H := HI H
   obtain ⟨dB, H⟩ := H
   have LMc16 := AM_ dB
   clear dB
   obtain ⟨dX, bE⟩ : ∃ y_ : List (S103), y_ = (bo ++ a3) := ⟨_, rfl⟩
   rw [← bE] at H
   have cH := AM_ bE
   clear bE
   obtain rfl := SI H
   try go_wp2
   replace aa := BD1 aa
   replace HB := BD2 HB
   have aQ : 0 ≤ (ae : Int) := DT
   have aT : ae < (l0.length : Int) := DT
   obtain ⟨ah, bA, am, an⟩ := at_T103 br.out ae aQ aT
   have aG := an
   have aH := am
   cases bA
   replace am := BC HB.out am
   replace an := BC HB.out an
   replace aQ := ET aQ
   replace aT := ET aT
   refine start_ (n := 14) (S := fun w' => w'.cell? ⟨ab, 0, none⟩ = some (.int .i64 af) ∧ w'.cell? ⟨ab, 1, none⟩ = some (.int .i64 ag) ∧ w'.cell? (ah.add ((ae).toNat * 2)) = some (.int .i64 ((rd_T103 l0 ae).f0)) ∧ w'.cell? ⟨(ah.add ((ae).toNat * 2)).block, (ah.add ((ae).toNat * 2)).off + 1, none⟩ = some (.int .i64 ((rd_T103 l0 ae).f1))) (ds := []) (lo 0 14) (by kernel_rfl) rfl rfl ⟨bc aa.out 0, bc aa.out 1, (BD HB.out aH), (BD HB.out aG)⟩ (fun ac => ?_); refine with_tabW spec_l5PutWrite.tab2 spec_l5PutWrite.bits2 (fun aj aW => ?_)
   generalize wr.drew = dY at aa HB am an ac ⊢
   iterate 9 refine PS aj ?_
   refine PV 10 (some 17) (bs 1535 14) aj ?_
   refine TX 9 (some 16) (lo 11 14) aj aW ac ?_
   iterate 3 first | refine PS aj ?_ | refine TS aj aW ac ?_
   refine done_ (done_of aj.out (by kernel_rfl)) ?_
   try go_wp2
   replace aa := BD1 aa
   replace HB := BD2 HB
   have c3 : (ae : Int) ≤ ((l0.length : Int) : Int) := DT
   obtain ⟨i019, b6, _, hsz19, _⟩ := info_parts info103
   have hroom19 : l0.length ≤ c0 := cn.out
   have hC19 : Kd.C k103 _ (some ah) l0.length l0 := br.out
   have hcut19 := cut_to (P := Try.prog) 46 103 .i64 Try.underlying46 b6 (some ah) l0.length c0 ae (DT) c3 hroom19
   have ck := Kd.C_take (m := (ae : Int).toNat) hC19 (by omega)
   have cl : aY.length = (ae : Int).toNat := (by rw [bi.out, List.length_take]; omega)
   rw [← bi.out] at ck
   rw [← cl] at hcut19
   have aI := AM_ ck
   have cB := AM_ (show aY.length ≤ c0 from by omega)
   clear ck hC19 hroom19 b6 hsz19
   have KY19 := AM_ cl
   clear cl
   replace c3 := ET c3
   refine start_ (n := 9) (S := fun w' => w'.cell? ⟨ab, 0, none⟩ = some (.int .i64 af) ∧ w'.cell? ⟨ab, 1, none⟩ = some (.int .i64 ag)) (ds := []) (lo 0 9) (by kernel_rfl) rfl rfl ⟨bc aa.out 0, bc aa.out 1⟩ (fun ac => ?_); refine with_tabW spec_l5PutWrite.tab4 spec_l5PutWrite.bits4 (fun aj aW => ?_)
   generalize dY.drew = ed at aa HB aI ac ⊢
   refine PV 1 (some 24) (bs 2 9) aj ?_
   refine PV 2 (some 25) (bs 6 9) aj ?_
   refine PV 3 (some 26) (bs 14 9) aj ?_
   refine TX 5 (some 28) (bs 46 9) aj aW ac ?_
   refine join_ (σ := Value × Value × Value) 2 (lo 7 9) (fun s_ => [(23, s_.1), (27, s_.2.1), (29, s_.2.2)]) (fun s_ w' => (w'.cell? ⟨ab, 0, none⟩ = some (.int .i64 af) ∧ w'.cell? ⟨ab, 1, none⟩ = some (.int .i64 ag)) ∧ (Kd.R k103 103 w' w.heap.size (fun k_ => some k_ ≠ (s_.2.2 : Value).ownBlock ∧ k_ ≠ ab) s_.2.1 bn) ∧ (Kd.R k103 103 w' w.heap.size (fun k_ => some k_ ≠ (s_.2.1 : Value).ownBlock ∧ k_ ≠ ab) s_.2.2 aZ) ∧ (w'.heap[ab]? = some (.cells #[.int .i64 af, .int .i64 ag] 103 (0, 0))) ∧ (Below w.heap.size w w')) ?_ ?_
   rotate_left
   ·intro hCont
    refine two_ (i := 0) (j := 6) (Ni := some 23) (Nj := some 29) (bs 47 9) (bs 110 9) rfl rfl rfl rfl (two_of aj.out (by kernel_rfl)) (by decide) (by decide) (fun K hK => ?_) (fun K hK => ?_)
    ·skip
     refine Kd.R_lit_step k103 _ 103 ?hg (N := 23) ?hd (xs := ([] : List (S103))) (inner := []) (ok := fun _ => True) (okp := fun _ => True) ?hr ?hp (fun _ hk => hk) trivial (Below.refl _ _) (Nat.le_refl _) (by simp) ?_; (case hd => rfl); (case hg => rfl); (case hr => first | (go_simp; done) | (go_simp; rfl)); (case hp => exact (Reps.none _ _))
     intro aD dZ aV hb hg_ hnew_
     clear hg_ hnew_
     (first | rw [← aN.out] at aV | (simp only [Int.reduceToNat] at aV; rw [← aN.out] at aV))
     have ak := AM_ (Kd.R_lower (Kd.R_newB aV (BG1 aa)) (below_size (BT HB.out)))
     replace aa := BV aa hb
     replace HB := BW HB hb
     clear hb aV
     refine hK.out _ _ ⟨bc aa.out 0, bc aa.out 1⟩ (fun ac => ?_)
     clear hK K
     refine NM 23 ?_
     refine two_ (i := 4) (j := 6) (Ni := some 27) (Nj := some 29) (lo 6 9) (bs 111 9) rfl rfl rfl rfl (two_of aj.out (by kernel_rfl)) (by decide) (by decide) (fun K hK => ?_) (fun K hK => ?_)
     ·skip
      refine Kd.R_append_rows_step k103 (w0 := w) w.heap.size (by rfl) (.tmp 23) (.tmp 26) 46 103 (.agg #[(.int .i64 0), (.int .i64 0)]) 16 rfl Try.underlying46 info103 rfl (by decide) (by omega) aD bm aY _ _ _ (fun k_ => k_ ≠ ab) (fun _ => False) rfl rfl ?aO ?aR (fun _ _ h => h) (fun _ h => h.elim) ?aF ?aB ?aS ?aL ?_
      (case aR => exact CB aI.out HB.out)
      (case aB => exact (BT HB.out))
      (case aF => exact (fun k_ hk => Kd.freshB (BG1 aa) k_ hk))
      (case aO => exact (by (with_reducible repeat (first | apply Kd.R_alloc | apply Kd.R_drewN | apply Kd.R_drew)); exact Kd.R_mono ak.out (fun _ hk => hk.2)))
      (case aS => exact (below_size (BT HB.out)))
      (case aL => have := LMc10.out; omega)
      intro az dC ho hb hg hat
      rw [← a6.out] at ho
      have ao := AM_ (blk_grown (BG1 aa) hg (Kd.R_away ak.out (fun _ hk => hk.2)))
      have ap := AM_ (hb)
      have aq := AM_ (ho)
      clear aa
      clear HB
      clear ak
      have aa := ao
      have HB := ap
      have al := aq
      clear ao ap aq
      clear ho hb hg hat
      refine hK.out _ _ ⟨bc aa.out 0, bc aa.out 1⟩ (fun ac => ?_)
      clear hK K
      refine NM 27 ?_
      refine OS aj (fun K hK => ?_)
      refine Kd.R_lit_step k103 _ 103 ?hg (N := 29) ?hd (xs := ([(⟨af, ag⟩ : S103)] : List (S103))) (inner := [.int .i64 af, .int .i64 ag]) (ok := fun _ => True) (okp := fun _ => True) ?hr ?hp (fun _ hk => hk) trivial (Below.refl _ _) (Nat.le_refl _) (by simp) ?_; (case hd => rfl); (case hg => rfl); (case hr => first | (go_simp; done) | (go_simp; rfl)); (case hp => exact (Reps.c2 (show Kd.M k103 _ _ _ (⟨af, ag⟩ : S103) [.int .i64 af, .int .i64 ag] from (k103_mkM _ _ _ (⟨af, ag⟩ : S103) )) (Reps.none _ _)))
      intro aw ee bq hb hg_ hnew_
      clear hg_ hnew_
      (first | rw [← aC.out] at bq | (simp only [Int.reduceToNat] at bq; rw [← aC.out] at bq))
      have ad := AM_ (Kd.R_lower (Kd.R_newB (Kd.R_new' bq (Kd.R_lt (RT al.out))) (BG1 aa)) (below_size (BT HB.out)))
      replace al := AM_ (Kd.R_elder' (RT al.out) (Kd.R_base bq) hb)
      replace aa := BV aa hb
      replace HB := BW HB hb
      clear hb bq
      refine hK.out _ _ ⟨bc aa.out 0, bc aa.out 1⟩ (fun ac => ?_)
      clear hK K
      refine NM 29 ?_
      exact NR (hCont (aD, az, aw) _ ⟨ac, (by (with_reducible repeat (first | apply Kd.R_alloc | apply Kd.R_drewN | apply Kd.R_drew)); exact Kd.R_mono al.out (fun _ hk => ⟨hk.2, hk.1⟩)), (by (with_reducible repeat (first | apply Kd.R_alloc | apply Kd.R_drewN | apply Kd.R_drew)); exact Kd.R_mono ad.out (fun _ hk => ⟨hk.1.2, hk.2⟩)), (BG1 aa), (BT HB.out)⟩)
     ·skip
      refine Kd.R_lit_step k103 _ 103 ?hg (N := 29) ?hd (xs := ([(⟨af, ag⟩ : S103)] : List (S103))) (inner := [.int .i64 af, .int .i64 ag]) (ok := fun _ => True) (okp := fun _ => True) ?hr ?hp (fun _ hk => hk) trivial (Below.refl _ _) (Nat.le_refl _) (by simp) ?_; (case hd => rfl); (case hg => rfl); (case hr => first | (go_simp; done) | (go_simp; rfl)); (case hp => exact (Reps.c2 (show Kd.M k103 _ _ _ (⟨af, ag⟩ : S103) [.int .i64 af, .int .i64 ag] from (k103_mkM _ _ _ (⟨af, ag⟩ : S103) )) (Reps.none _ _)))
      intro aw dC aM hb hg_ hnew_
      clear hg_ hnew_
      (first | rw [← aC.out] at aM | (simp only [Int.reduceToNat] at aM; rw [← aC.out] at aM))
      have ad := AM_ (Kd.R_lower (Kd.R_newB (Kd.R_new' aM (Kd.R_lt (RT ak.out))) (BG1 aa)) (below_size (BT HB.out)))
      replace ak := AM_ (Kd.R_elder' (RT ak.out) (Kd.R_base aM) hb)
      replace aa := BV aa hb
      replace HB := BW HB hb
      clear hb aM
      refine hK.out _ _ ⟨bc aa.out 0, bc aa.out 1⟩ (fun ac => ?_)
      clear hK K
      refine NM 29 ?_
      refine one_ (i := 4) (N := some 27) (lo 7 9) rfl rfl (one_of aj.out (by kernel_rfl)) (by decide) (fun K hK => ?_)
      refine Kd.R_append_rows_step k103 (w0 := w) w.heap.size (by rfl) (.tmp 23) (.tmp 26) 46 103 (.agg #[(.int .i64 0), (.int .i64 0)]) 16 rfl Try.underlying46 info103 rfl (by decide) (by omega) aD bm aY _ _ _ (fun k_ => some k_ ≠ (aw : Value).ownBlock ∧ k_ ≠ ab) (fun _ => False) rfl rfl ?aO ?aR (fun _ _ h => h) (fun _ h => h.elim) ?aF ?aB ?aS ?aL ?_
      (case aR => exact CB aI.out HB.out)
      (case aB => exact (BT HB.out))
      (case aF => exact (fun k_ hk => ⟨Kd.fresh' (Kd.R_lt (RT ad.out)) k_ hk, Kd.freshB (BG1 aa) k_ hk⟩))
      (case aO => exact (by (with_reducible repeat (first | apply Kd.R_alloc | apply Kd.R_drewN | apply Kd.R_drew)); exact Kd.R_mono ak.out (fun _ hk => ⟨hk.2, hk.1.2⟩)))
      (case aS => exact (below_size (BT HB.out)))
      (case aL => have := LMc10.out; omega)
      intro az d0 ho hb hg hat
      rw [← a6.out] at ho
      have ao := AM_ (blk_grown (BG1 aa) hg (Kd.R_away ak.out (fun _ hk => hk.1.2)))
      have ap := AM_ (Kd.R_after (ok := (fun k_ => k_ ≠ ab)) (by (with_reducible repeat (first | apply Kd.R_alloc | apply Kd.R_drewN | apply Kd.R_drew)); exact Kd.R_mono ad.out (fun _ hk => ⟨hk.2, hk.1.2⟩)) hg hat)
      have aq := AM_ (hb)
      have av := AM_ (ho)
      clear aa
      clear ad
      clear HB
      clear ak
      have aa := ao
      have ad := ap
      have HB := aq
      have al := av
      clear ao ap aq av
      clear ho hb hg hat
      refine hK.out _ _ ⟨bc aa.out 0, bc aa.out 1⟩ (fun ac => ?_)
      clear hK K
      refine NM 27 ?_
      exact NR (hCont (aD, az, aw) _ ⟨ac, (RT al.out), (by (with_reducible repeat (first | apply Kd.R_alloc | apply Kd.R_drewN | apply Kd.R_drew)); exact Kd.R_mono ad.out (fun _ hk => ⟨hk.2, hk.1⟩)), (BG1 aa), (BT HB.out)⟩)
    ·skip
     refine Kd.R_lit_step k103 _ 103 ?hg (N := 29) ?hd (xs := ([(⟨af, ag⟩ : S103)] : List (S103))) (inner := [.int .i64 af, .int .i64 ag]) (ok := fun _ => True) (okp := fun _ => True) ?hr ?hp (fun _ hk => hk) trivial (Below.refl _ _) (Nat.le_refl _) (by simp) ?_; (case hd => rfl); (case hg => rfl); (case hr => first | (go_simp; done) | (go_simp; rfl)); (case hp => exact (Reps.c2 (show Kd.M k103 _ _ _ (⟨af, ag⟩ : S103) [.int .i64 af, .int .i64 ag] from (k103_mkM _ _ _ (⟨af, ag⟩ : S103) )) (Reps.none _ _)))
     intro aw dZ aV hb hg_ hnew_
     clear hg_ hnew_
     (first | rw [← aC.out] at aV | (simp only [Int.reduceToNat] at aV; rw [← aC.out] at aV))
     have ad := AM_ (Kd.R_lower (Kd.R_newB aV (BG1 aa)) (below_size (BT HB.out)))
     replace aa := BV aa hb
     replace HB := BW HB hb
     clear hb aV
     refine hK.out _ _ ⟨bc aa.out 0, bc aa.out 1⟩ (fun ac => ?_)
     clear hK K
     refine NM 29 ?_
     refine one_ (i := 0) (N := some 23) (bs 111 9) rfl rfl (one_of aj.out (by kernel_rfl)) (by decide) (fun K hK => ?_)
     refine Kd.R_lit_step k103 _ 103 ?hg (N := 23) ?hd (xs := ([] : List (S103))) (inner := []) (ok := fun _ => True) (okp := fun _ => True) ?hr ?hp (fun _ hk => hk) trivial (Below.refl _ _) (Nat.le_refl _) (by simp) ?_; (case hd => rfl); (case hg => rfl); (case hr => first | (go_simp; done) | (go_simp; rfl)); (case hp => exact (Reps.none _ _))
     intro aD dC aM hb hg_ hnew_
     clear hg_ hnew_
     (first | rw [← aN.out] at aM | (simp only [Int.reduceToNat] at aM; rw [← aN.out] at aM))
     have ak := AM_ (Kd.R_lower (Kd.R_newB (Kd.R_new' aM (Kd.R_lt (RT ad.out))) (BG1 aa)) (below_size (BT HB.out)))
     replace ad := AM_ (Kd.R_elder' (RT ad.out) (Kd.R_base aM) hb)
     replace aa := BV aa hb
     replace HB := BW HB hb
     clear hb aM
     refine hK.out _ _ ⟨bc aa.out 0, bc aa.out 1⟩ (fun ac => ?_)
     clear hK K
     refine NM 23 ?_
     refine one_ (i := 4) (N := some 27) (lo 7 9) rfl rfl (one_of aj.out (by kernel_rfl)) (by decide) (fun K hK => ?_)
     refine Kd.R_append_rows_step k103 (w0 := w) w.heap.size (by rfl) (.tmp 23) (.tmp 26) 46 103 (.agg #[(.int .i64 0), (.int .i64 0)]) 16 rfl Try.underlying46 info103 rfl (by decide) (by omega) aD bm aY _ _ _ (fun k_ => some k_ ≠ (aw : Value).ownBlock ∧ k_ ≠ ab) (fun _ => False) rfl rfl ?aO ?aR (fun _ _ h => h) (fun _ h => h.elim) ?aF ?aB ?aS ?aL ?_
     (case aR => exact CB aI.out HB.out)
     (case aB => exact (BT HB.out))
     (case aF => exact (fun k_ hk => ⟨Kd.fresh' (Kd.R_lt (RT ad.out)) k_ hk, Kd.freshB (BG1 aa) k_ hk⟩))
     (case aO => exact (by (with_reducible repeat (first | apply Kd.R_alloc | apply Kd.R_drewN | apply Kd.R_drew)); exact Kd.R_mono ak.out (fun _ hk => ⟨hk.1.2, hk.2⟩)))
     (case aS => exact (below_size (BT HB.out)))
     (case aL => have := LMc10.out; omega)
     intro az d0 ho hb hg hat
     rw [← a6.out] at ho
     have ao := AM_ (blk_grown (BG1 aa) hg (Kd.R_away ak.out (fun _ hk => hk.2)))
     have ap := AM_ (Kd.R_after (ok := (fun k_ => k_ ≠ ab)) (by (with_reducible repeat (first | apply Kd.R_alloc | apply Kd.R_drewN | apply Kd.R_drew)); exact Kd.R_mono ad.out (fun _ hk => ⟨hk.1.2, hk.2⟩)) hg hat)
     have aq := AM_ (hb)
     have av := AM_ (ho)
     clear aa
     clear ad
     clear HB
     clear ak
     have aa := ao
     have ad := ap
     have HB := aq
     have al := av
     clear ao ap aq av
     clear ho hb hg hat
     refine hK.out _ _ ⟨bc aa.out 0, bc aa.out 1⟩ (fun ac => ?_)
     clear hK K
     refine NM 27 ?_
     exact NR (hCont (aD, az, aw) _ ⟨ac, (RT al.out), (by (with_reducible repeat (first | apply Kd.R_alloc | apply Kd.R_drewN | apply Kd.R_drew)); exact Kd.R_mono ad.out (fun _ hk => ⟨hk.2, hk.1⟩)), (BG1 aa), (BT HB.out)⟩)
   rintro ⟨aD, az, aw⟩ cq ⟨hS_, h0_, h1_, h2_, h3_⟩
   have ao : Aside0 (Kd.R k103 103 cq w.heap.size (fun k_ => some k_ ≠ (aw : Value).ownBlock ∧ k_ ≠ ab) az bn) := ⟨h0_⟩
   have ap : Aside0 (Kd.R k103 103 cq w.heap.size (fun k_ => some k_ ≠ (az : Value).ownBlock ∧ k_ ≠ ab) aw aZ) := ⟨h1_⟩
   have aq : Aside0 (cq.heap[ab]? = some (.cells #[.int .i64 af, .int .i64 ag] 103 (0, 0))) := ⟨h2_⟩
   have av : Aside0 (Below w.heap.size w cq) := ⟨h3_⟩
   clear aa
   clear HB
   clear h0_ h1_ h2_ h3_
   have al := ao
   have ad := ap
   have aa := aq
   have HB := av
   clear ao ap aq av
   have ac : cq.cell? ⟨ab, 0, none⟩ = some (.int .i64 af) ∧ cq.cell? ⟨ab, 1, none⟩ = some (.int .i64 ag) := hS_
   obtain ⟨cI, cJ, cK⟩ := Kd.R_slice ad.out
   (first | subst cK | (injection cK with f1_ f2_ f3_; have f4_ := f1_.symm; have f5_ := f3_.symm; clear f1_ f2_ f3_; subst f4_; subst f5_))
   refine norm_ (a' := ?_) ?_ ?_
   rotate_left
   ·simp only [putAll, Act.put, List.setIfInBounds_toArray, List.set_cons_zero, List.set_cons_succ]
    rfl
   refine OS aj (fun K hK => ?_)
   refine Kd.R_append_rows_step k103 (w0 := w) w.heap.size (by rfl) (.tmp 27) (.tmp 29) 46 103 (.agg #[(.int .i64 0), (.int .i64 0)]) 16 rfl Try.underlying46 info103 rfl (by decide) (by omega) az bn aZ _ _ _ (fun k_ => some k_ ≠ (.slice cI aZ.length cJ : Value).ownBlock ∧ k_ ≠ ab) (fun _ => False) rfl rfl ?aO ?aR (fun _ _ h => h) (fun _ h => h.elim) ?aF ?aB ?aS ?aL ?_
   (case aR => exact CRR ad)
   (case aB => exact (BT HB.out))
   (case aF => exact (fun k_ hk => ⟨Kd.fresh' (Kd.R_lt (RT ad.out)) k_ hk, Kd.freshB (BG1 aa) k_ hk⟩))
   (case aO => exact (RT al.out))
   (case aS => exact (below_size (BT HB.out)))
   (case aL => have := LMc11.out; omega)
   intro ch d1 ho hb hg hat
   rw [← bY.out] at ho
   have ao := AM_ (blk_grown (BG1 aa) hg (Kd.R_away al.out (fun _ hk => hk.2)))
   have ap := AM_ (Kd.R_after (ok := (fun k_ => k_ ≠ ab)) (by (with_reducible repeat (first | apply Kd.R_alloc | apply Kd.R_drewN | apply Kd.R_drew)); exact Kd.R_mono ad.out (fun _ hk => ⟨hk.2, hk.1⟩)) hg hat)
   have aq := AM_ (hb)
   have av := AM_ (ho)
   clear aa
   clear ad
   clear HB
   clear al
   have aa := ao
   have ad := ap
   have HB := aq
   have ay := av
   clear ao ap aq av
   clear ho hb hg hat
   refine hK.out _ _ ⟨bc aa.out 0, bc aa.out 1⟩ (fun ac => ?_)
   clear hK K
   refine NM 30 ?_
   refine PS aj ?_
   refine done_ (done_of aj.out (by kernel_rfl)) ?_
   try go_wp2
   replace ad := AM_ (Kd.R_drew ad.out)
   replace ay := AM_ (Kd.R_drew ay.out)
   replace aa := BD1 aa
   replace HB := BD2 HB
   have be : 0 ≤ (ae : Int) := DT
   have bf : ae < (l0.length : Int) := DT
   obtain ⟨bC, ci, ar, au⟩ := at_T103 br.out ae be bf
   have a8 := au
   have a9 := ar
   obtain rfl : ah = bC := (by injection ci)
   replace ar := BC HB.out ar
   replace au := BC HB.out au
   replace be := ET be
   replace bf := ET bf
   refine start_ (n := 14) (S := fun w' => w'.cell? ⟨ab, 0, none⟩ = some (.int .i64 af) ∧ w'.cell? ⟨ab, 1, none⟩ = some (.int .i64 ag) ∧ w'.cell? (ah.add ((ae).toNat * 2)) = some (.int .i64 ((rd_T103 l0 ae).f0)) ∧ w'.cell? ⟨(ah.add ((ae).toNat * 2)).block, (ah.add ((ae).toNat * 2)).off + 1, none⟩ = some (.int .i64 ((rd_T103 l0 ae).f1))) (ds := []) (lo 0 14) (by kernel_rfl) rfl rfl ⟨bc aa.out 0, bc aa.out 1, (BD HB.out a9), (BD HB.out a8)⟩ (fun ac => ?_); refine with_tabW spec_l5PutWrite.tab5 spec_l5PutWrite.bits5 (fun aj aW => ?_)
   generalize d1.drew = ef at ad ay aa HB ar au ac ⊢
   iterate 9 refine PS aj ?_
   refine PV 10 (some 41) (bs 1535 14) aj ?_
   refine TX 9 (some 40) (lo 11 14) aj aW ac ?_
   iterate 3 first | refine PS aj ?_ | refine TS aj aW ac ?_
   refine done_ (done_of aj.out (by kernel_rfl)) ?_
   have c7 : ((aE) : Int) ≤ ((l0.length : Int) : Int) := DT
   obtain ⟨i029, b7, _, hsz29, _⟩ := info_parts info103
   have hroom29 : l0.length ≤ c0 := cn.out
   have hC29 : Kd.C k103 _ (some ah) l0.length l0 := br.out
   have c8 : (0 : Int) ≤ ((aE) : Int) := DT
   have hcut29 := cut_from (P := Try.prog) 46 103 .i64 Try.underlying46 b7 2 hsz29 (some ah) l0.length c0 (aE) c8 c7
   have bF := Kd.C_drop (m := ((aE) : Int).toNat) (c := c0) hC29 (by omega) hroom29
   obtain ⟨d2, hA29⟩ : ∃ A1, A1 = (if c0 = ((aE) : Int).toNat then (some ah) else ((some ah) : Option Addr).map (·.add (((aE) : Int).toNat * 2))) := ⟨_, rfl⟩
   obtain ⟨d3, cm⟩ : ∃ c1, c1 = c0 - ((aE) : Int).toNat := ⟨_, rfl⟩
   have bI : a3.length = l0.length - ((aE) : Int).toNat := (by rw [b4.out, List.length_drop] <;> omega)
   rw [show (l0).drop ((aE) : Int).toNat = a3 from b4.out.symm] at bF
   replace bF : Kd.C k103 _ d2 a3.length a3 := (by rw [hA29]; exact bF)
   rw [← bI, ← hA29, ← cm] at hcut29
   have cL := AM_ bF
   have dD := AM_ (show a3.length ≤ d3 from by rw [bI, cm]; exact Nat.sub_le_sub_right hroom29 _)
   clear bF hC29 hroom29 b7 hsz29 cm
   have KY29 := AM_ bI
   have KA29 := AM_ hA29
   clear bI hA29
   replace c7 := ET c7
   try go_wp2_with (first | ((with_reducible refine gate_builtin (b := .append) (xs := #[.tmp 47, .tmp 50]) rfl ?_); at_builtin; refine Kd.R_append_rows k103 (w0 := w) w.heap.size rfl (.tmp 47) (.tmp 50) 46 103 (.agg #[(.int .i64 0), (.int .i64 0)]) 16 rfl Try.underlying46 info103 rfl (by decide) (by omega) ch bo a3 _ _ _ (fun k_ => some k_ ≠ (.slice cI aZ.length cJ : Value).ownBlock ∧ k_ ≠ ab) (fun _ => False) rfl rfl ?aO ?aR (fun _ _ h => h) (fun _ h => h.elim) ?aF ?aB ?aS ?aL ?_; (case aR => exact CB cL.out HB.out); (case aB => exact (BT HB.out)); (case aF => exact (fun k_ hk => ⟨Kd.fresh' (Kd.R_lt (RT ad.out)) k_ hk, Kd.freshB (BG1 aa) k_ hk⟩)); (case aO => exact (RT ay.out)); (case aS => exact (below_size (BT HB.out))); (case aL => have := LMc16.out; omega); intro d4 eg ho hb hg hat; rw [← cH.out] at ho; have ao := AM_ (blk_grown (BG1 aa) hg (Kd.R_away ay.out (fun _ hk => hk.2))); have ap := AM_ (Kd.R_after (ok := (fun k_ => k_ ≠ ab)) (RT ad.out) hg hat); have aq := AM_ (hb); have av := AM_ (ho); clear aa; clear ad; clear HB; clear ay; have aa := ao; have ad := ap; have HB := aq; have cM := av; clear ao ap aq av; clear ho hb hg hat))
   go_ret
   exact ⟨_, by first | rfl | (simp [errW_none, errW_some] <;> rfl) | (simp only [← bj]; first | rfl | (simp [errW_none, errW_some] <;> rfl)) | (simp [*, errW_none, errW_some] <;> rfl), by (with_reducible repeat (first | apply Kd.R_alloc | apply Kd.R_drewN | apply Kd.R_drew)); exact Kd.R_mono cM.out (fun _ hk => trivial), BT HB.out⟩

end Go.Proofs.Ytdgknikgfjhohaa.PFnSchemes
