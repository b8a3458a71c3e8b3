-- Printed by a program of mine (wip/myprint.py), which runs the printer of the kit with contracts of mine beside it.
import Derived.Test.YtakpkmlbklahhaaPFnExactCommitCodex0
import Derived.Test.YtakpkmlbklahhaaPFnExactCommitCodex9
import Derived.Test.YtakpkmlbklahhaaPFnExactCommitCodex12
namespace Go.Proofs.Ytakpkmlbklahhaa.PFnExactCommitCode
open Go.RowKit Go.Proofs.YtakpkmlbklahhaaW.PrintWords Go.Proofs.YtakpkmlbklahhaaW.PrintLast Go.Proofs.YtakpkmlbklahhaaW.PrintMore
attribute [local go_sem] max2_int min2_int max_two min_two max_three min_three max_four min_four   -- for this text's walks alone
set_option linter.unusedVariables false
set_option linter.unusedSimpArgs false

/-! ### impl_Store_latest: function 176 -/
def impl_Store_latest.f (l0_0 : List (List (S76))) (a1 : Int) : Option (Int × Int × Int × Int × Int) := if 0 ≤ a1 then (if a1 < (l0_0.length : Int) then (if 0 ≤ (wrap64 (((rd_L6 l0_0 a1).length : Int) - 1)) then (if (wrap64 (((rd_L6 l0_0 a1).length : Int) - 1)) < ((rd_L6 l0_0 a1).length : Int) then (some ((rd_T76 (rd_L6 l0_0 a1) (wrap64 (((rd_L6 l0_0 a1).length : Int) - 1))).f0, (rd_T76 (rd_L6 l0_0 a1) (wrap64 (((rd_L6 l0_0 a1).length : Int) - 1))).f1, (rd_T76 (rd_L6 l0_0 a1) (wrap64 (((rd_L6 l0_0 a1).length : Int) - 1))).f2, (rd_T76 (rd_L6 l0_0 a1) (wrap64 (((rd_L6 l0_0 a1).length : Int) - 1))).f3, (rd_T76 (rd_L6 l0_0 a1) (wrap64 (((rd_L6 l0_0 a1).length : Int) - 1))).f4)) else (none)) else (none)) else (none)) else (none)
/-- Where the latest version of a key lies: known from the rows, at any world. -/
theorem impl_Store_latest_at {w : World} {A0_0 : Option Addr} {l0_0 : List (List (S76))} {a1 r1 r2 r3 r4 r5 : Int} (hr0_0 : Kd.C (Kd.slice 76 k76) w A0_0 l0_0.length l0_0) (h : impl_Store_latest.f l0_0 a1 = some (r1, r2, r3, r4, r5)) :
  0 ≤ a1 ∧ a1 < (l0_0.length : Int) ∧ 0 ≤ wrap64 (((rd_L6 l0_0 a1).length : Int) - 1) ∧ wrap64 (((rd_L6 l0_0 a1).length : Int) - 1) < ((rd_L6 l0_0 a1).length : Int) ∧ ∃ ad adI c, A0_0 = some ad ∧ w.cell? (ad.add (a1 : Int).toNat) = some (.slice (some adI) (rd_L6 l0_0 a1).length c) ∧ (rd_L6 l0_0 a1).length ≤ c ∧ w.cell? (adI.add ((wrap64 (((rd_L6 l0_0 a1).length : Int) - 1)).toNat * 5)) = some (.int .i64 r1) ∧ w.cell? ⟨(adI.add ((wrap64 (((rd_L6 l0_0 a1).length : Int) - 1)).toNat * 5)).block, (adI.add ((wrap64 (((rd_L6 l0_0 a1).length : Int) - 1)).toNat * 5)).off + 1, none⟩ = some (.int .i64 r2) ∧ w.cell? ⟨(adI.add ((wrap64 (((rd_L6 l0_0 a1).length : Int) - 1)).toNat * 5)).block, (adI.add ((wrap64 (((rd_L6 l0_0 a1).length : Int) - 1)).toNat * 5)).off + 2, none⟩ = some (.int .i64 r3) ∧ w.cell? ⟨(adI.add ((wrap64 (((rd_L6 l0_0 a1).length : Int) - 1)).toNat * 5)).block, (adI.add ((wrap64 (((rd_L6 l0_0 a1).length : Int) - 1)).toNat * 5)).off + 3, none⟩ = some (.int .i64 r4) ∧ w.cell? ⟨(adI.add ((wrap64 (((rd_L6 l0_0 a1).length : Int) - 1)).toNat * 5)).block, (adI.add ((wrap64 (((rd_L6 l0_0 a1).length : Int) - 1)).toNat * 5)).off + 4, none⟩ = some (.int .i64 r5) := by
 unfold impl_Store_latest.f at h
 by_cases c3 : 0 ≤ a1
 rotate_left
 ·rw [if_neg c3] at h; exact absurd h (by simp)
 rw [if_pos c3] at h
 by_cases c4 : a1 < (l0_0.length : Int)
 rotate_left
 ·rw [if_neg c4] at h; exact absurd h (by simp)
 rw [if_pos c4] at h
 by_cases c6 : 0 ≤ wrap64 (((rd_L6 l0_0 a1).length : Int) - 1)
 rotate_left
 ·rw [if_neg c6] at h; exact absurd h (by simp)
 rw [if_pos c6] at h
 by_cases c7 : wrap64 (((rd_L6 l0_0 a1).length : Int) - 1) < ((rd_L6 l0_0 a1).length : Int)
 rotate_left
 ·rw [if_neg c7] at h; exact absurd h (by simp)
 rw [if_pos c7] at h
 simp only [Option.some.injEq, Prod.mk.injEq] at h
 obtain ⟨rfl, rfl, rfl, rfl, rfl⟩ := h
 obtain ⟨ad, A1, c1, e1, hx, hl, hi⟩ := at_L6 hr0_0 a1 c3 c4
 obtain ⟨adI, e2, h0, h1, h2, h3, h4⟩ := at_T76 hi _ c6 c7
 subst e2
 exact ⟨c3, c4, c6, c7, ad, adI, c1, e1, hx, hl, h0, h1, h2, h3, h4⟩
set_option maxHeartbeats 8000000 in
set_option maxRecDepth 100000 in
theorem impl_Store_latest.calls (ad adI : Addr) (c c0_0 : Nat) (l0_0 : List (List (S76))) (a1 : Int) (w : World) (c3 : 0 ≤ a1) (c4 : a1 < (l0_0.length : Int)) (c6 : 0 ≤ wrap64 (((rd_L6 l0_0 a1).length : Int) - 1)) (c7 : wrap64 (((rd_L6 l0_0 a1).length : Int) - 1) < ((rd_L6 l0_0 a1).length : Int)) (hx : w.cell? (ad.add (a1 : Int).toNat) = some (.slice (some adI) (rd_L6 l0_0 a1).length c)) :
  Calls Try.prog 176 #[.agg #[.slice (some ad) l0_0.length c0_0], .int .i64 a1] w fun e w' => e = .returned (.pointer (some (adI.add ((wrap64 (((rd_L6 l0_0 a1).length : Int) - 1)).toNat * 5)))) ∧ Below w.heap.size w w' := by
 have hu49 := Try.underlying49
 have hu76 := Try.underlying76
 have HX := AM_ hx
 clear hx
 have HB := AM_ (Below.refl w.heap.size w)
 have c3b0 : decide (0 ≤ a1) = true := decide_eq_true c3
 have c4b0 : decide (a1 < (l0_0.length : Int)) = true := decide_eq_true c4
 obtain ⟨ji5, hji5⟩ : ∃ j_ : Int, (wrap64 (((rd_L6 l0_0 a1).length : Int) - 1)) = j_ := ⟨_, rfl⟩
 rw [hji5] at c6 c7
 have hji5w : (IntKind.i64.wrap (((rd_L6 l0_0 a1).length : Int) - 1)) = ji5 := (i64_w _).trans hji5
 have c6b0 : decide (0 ≤ (ji5)) = true := decide_eq_true c6
 have c7b0 : decide ((ji5) < ((rd_L6 l0_0 a1).length : Int)) = true := decide_eq_true c7
 rw [hji5]
 have p1 := eq_true c3
 have p2 := eq_true c4
 have p3 := eq_true c6
 have p4 := eq_true c7
 clear c3 c4 c6 c7
 go_enter Try.func176, Try.ntmps176
 go_wp2_with (first | ((with_reducible refine gate_dst (N := 2) rfl ?_); refine box_event ?hg (N := 2) ?hd (cs := #[.slice (some ad) l0_0.length c0_0]) (t := 49) ?hr ?_; (case hd => rfl); (case hg => rfl); (case hr => first | (go_simp; done) | (go_simp; rfl)); intro gb1 hg w8 hbox hb; have hcz9_0 : w8.cell? ⟨gb1, 0, none⟩ = some (.slice (some ad) l0_0.length c0_0) := (blk_cell hbox 0).trans rfl; have hx1 : w8.cell? (ad.add (a1 : Int).toNat) = some (.slice (some adI) (rd_L6 l0_0 a1).length c) := (hb.cell (World.block_lt_of_cell? w _ HX.out)).trans HX.out; replace HB := AM_ (below_step HB.out hb); clear hb hbox hg))
 go_ret
 exact ⟨by first | rfl | (simp [errW_none, errW_some] <;> rfl) | (simp only [← hji5]; first | rfl | (simp [errW_none, errW_some] <;> rfl)) | (simp [*, errW_none, errW_some] <;> rfl), BT HB.out⟩

/-! ### impl_Store_commitCode_1: function 175 -/
def impl_Store_commitCode_1.f (a0_0 : Int) (a0_1 : Int) (l1_0 : List (List (S76))) (a2_0 : Int) (a2_1 : Int) (a2_2 : Int) (a2_3 : Int) (a2_4 : Int) (a2_5 : Int) (a2_6 : Int) (l2_7 : List (S165)) (l2_8 : List (S133)) : Option (Bool) := (impl_Store_latest.f l1_0 a0_0).bind fun bt285 => (some (decide (bt285.2.2.1 > a2_3)))
def impl_Store_commitCode_1.T1 : Bool × List (List Nat × List Nat) := (true, [([], []), ([], []), ([1], [1]), ([0, 2], [0, 2]), ([3], [3]), ([4], [4]), ([5], [5]), ([], []), ([7], [7]), ([6, 8], [6, 8]), ([9, 3, 0, 1, 2, 3, 4, 5, 6, 7, 8, 9], [9])])
def impl_Store_commitCode_1.B1 : List Nat := [0, 0, 2, 7, 15, 31, 63, 0, 128, 511, 1023]
theorem impl_Store_commitCode_1.tab1 : rtab .any (opsOf Try.f175 1) = impl_Store_commitCode_1.T1 := by kernel_rfl
theorem impl_Store_commitCode_1.bits1 : waitsOk impl_Store_commitCode_1.T1.2 impl_Store_commitCode_1.B1 = true := by kernel_rfl
set_option maxHeartbeats 8000000 in
set_option maxRecDepth 100000 in
theorem impl_Store_commitCode_1.calls (a0_0 : Int) (a0_1 : Int) (gb1 : Nat) (A1_0 : Option Addr) (c1_0 : Nat) (l1_0 : List (List (S76))) (gb2 : Nat) (a2_0 : Int) (a2_1 : Int) (a2_2 : Int) (a2_3 : Int) (a2_4 : Int) (a2_5 : Int) (a2_6 : Int) (A2_7 : Option Addr) (c2_7 : Nat) (l2_7 : List (S165)) (A2_8 : Option Addr) (c2_8 : Nat) (l2_8 : List (S133)) (r : Bool) (w : World) (hb1 : w.heap[gb1]? = some (.cells #[.slice A1_0 l1_0.length c1_0] 49 (0, 0))) (hr1_0 : Kd.C (Kd.slice 76 k76) w A1_0 l1_0.length l1_0) (hc1_0 : l1_0.length ≤ c1_0) (hb2 : w.heap[gb2]? = some (.cells #[.int .i64 a2_0, .int .i64 a2_1, .int .i64 a2_2, .int .i64 a2_3, .int .i64 a2_4, .int .i64 a2_5, .int .i64 a2_6, .slice A2_7 l2_7.length c2_7, .slice A2_8 l2_8.length c2_8] 68 (0, 0))) (hr2_7 : Kd.C k165 w A2_7 l2_7.length l2_7) (hc2_7 : l2_7.length ≤ c2_7) (hr2_8 : Kd.C k133 w A2_8 l2_8.length l2_8) (hc2_8 : l2_8.length ≤ c2_8) (hn1_2 : gb1 ≠ gb2) (h : impl_Store_commitCode_1.f a0_0 a0_1 l1_0 a2_0 a2_1 a2_2 a2_3 a2_4 a2_5 a2_6 l2_7 l2_8 = some r) :
  Calls Try.prog 175 #[.agg #[.int .i64 a0_0, .int .i64 a0_1], .pointer (some ⟨gb1, 0, none⟩), .pointer (some ⟨gb2, 0, none⟩)] w fun e w' => e = .returned (.bool r) ∧ Below w.heap.size w w' := by
 have hu133 := Try.underlying133
 have hu49 := Try.underlying49
 have BK1 := AM_ hb1
 clear hb1
 have BK2 := AM_ hb2
 clear hb2
 have NB1_2 := AM_ hn1_2
 have NB2_1 := AM_ (Ne.symm hn1_2)
 clear hn1_2
 have HR1_0 := AM_ hr1_0
 have HC1_0 := AM_ hc1_0
 clear hr1_0 hc1_0
 have HR2_7 := AM_ hr2_7
 have HC2_7 := AM_ hc2_7
 clear hr2_7 hc2_7
 have HR2_8 := AM_ hr2_8
 have HC2_8 := AM_ hc2_8
 clear hr2_8 hc2_8
 have HB := AM_ (Below.refl w.heap.size w)
 have H : ((impl_Store_latest.f l1_0 a0_0).bind fun bt285 => (some (decide (bt285.2.2.1 > a2_3)))) = some r := h
 clear h
 replace H := Option.bind_eq_some_iff.mp H
 obtain ⟨⟨t285, t286, t287, t288, t289⟩, A40, H⟩ := H
 replace H : (some (decide (t287 > a2_3))) = some r := H
 have A4 := AM_ A40
 clear A40
 obtain rfl := Option.some.inj H
 obtain ⟨q3, q4, q6, q7, adO, adI, cI, eA, hx0, _, _, _, hx2, _, _⟩ := impl_Store_latest_at HR1_0.out A4.out
 subst eA
 obtain ⟨ji, hji⟩ : ∃ j : Int, j = wrap64 (((rd_L6 l1_0 a0_0).length : Int) - 1) := ⟨_, rfl⟩
 rw [← hji] at hx2
 have HX0 := AM_ hx0
 have HX2 := AM_ hx2
 have HJ := AM_ hji
 have Q3 := AM_ q3
 have Q4 := AM_ q4
 have Q6 := AM_ q6
 have Q7 := AM_ q7
 clear hx0 hx2 q3 q4 q6 q7 hji
 go_enter Try.func175, Try.ntmps175
 try go_wp2_with (first | ((with_reducible refine gate_dst (N := 3) rfl ?_); refine box_event ?hg (N := 3) ?hd (cs := #[.int .i64 a0_0, .int .i64 a0_1]) (t := 133) ?hr ?_; (case hd => rfl); (case hg => rfl); (case hr => first | (go_simp; done) | (go_simp; rfl)); intro gb284 hg w5 hbox hb; have BK284 := AM_ (hbox); have GW284 := AM_ ((GS HB.out hg)); have GE284 := AM_ ((GS HB.out hg)); replace HB := AM_ (below_step (BT HB.out) hb); have NB1_284 := AM_ ((NL BK1.out hg)); have NB284_1 := AM_ ((NG BK1.out hg)); replace BK1 := AM_ (BB BK1.out hb); have NB2_284 := AM_ ((NL BK2.out hg)); have NB284_2 := AM_ ((NG BK2.out hg)); replace BK2 := AM_ (BB BK2.out hb); clear hb hbox hg))
 replace BK1 := AM_ (blk_drew BK1.out)
 replace BK2 := AM_ (blk_drew BK2.out)
 replace BK284 := AM_ (blk_drew BK284.out)
 replace HB := AM_ (below_drew1 HB.out)
 refine start_ (n := 11) (S := fun w' => w'.cell? ⟨gb1, 0, none⟩ = some (.slice (some adO) l1_0.length c1_0) ∧ w'.cell? ⟨gb284, 0, none⟩ = some (.int .i64 a0_0) ∧ w'.cell? ⟨gb284, 1, none⟩ = some (.int .i64 a0_1) ∧ w'.cell? ⟨gb2, 0, none⟩ = some (.int .i64 a2_0) ∧ w'.cell? ⟨gb2, 1, none⟩ = some (.int .i64 a2_1) ∧ w'.cell? ⟨gb2, 2, none⟩ = some (.int .i64 a2_2) ∧ w'.cell? ⟨gb2, 3, none⟩ = some (.int .i64 a2_3) ∧ w'.cell? ⟨gb2, 4, none⟩ = some (.int .i64 a2_4) ∧ w'.cell? ⟨gb2, 5, none⟩ = some (.int .i64 a2_5) ∧ w'.cell? ⟨gb2, 6, none⟩ = some (.int .i64 a2_6) ∧ w'.cell? ⟨gb2, 7, none⟩ = some (.slice A2_7 l2_7.length c2_7) ∧ w'.cell? ⟨gb2, 8, none⟩ = some (.slice A2_8 l2_8.length c2_8) ∧ w'.cell? ⟨(adI.add (ji.toNat * 5)).block, (adI.add (ji.toNat * 5)).off + 2, none⟩ = some (.int .i64 t287)) (ds := []) (bs 0 11) (by kernel_rfl) rfl rfl ⟨bc BK1.out 0, bc BK284.out 0, bc BK284.out 1, bc BK2.out 0, bc BK2.out 1, bc BK2.out 2, bc BK2.out 3, bc BK2.out 4, bc BK2.out 5, bc BK2.out 6, bc BK2.out 7, bc BK2.out 8, (HB.out.cell (World.block_lt_of_cell? w _ HX2.out)).trans HX2.out⟩ (fun hHeld => ?_); refine with_tabW impl_Store_commitCode_1.tab1 impl_Store_commitCode_1.bits1 (fun HT_ HW_ => ?_)
 generalize w5.drew = w6 at BK1 BK2 BK284 HB hHeld ⊢
 refine pu (i := 1) (N := some 6) (v := ?_) (a' := ?_) (bs 2 11) rfl rfl HT_ ?_ ?_ ?_
 rotate_left
 ·intro w'
  go_simp
  with_reducible rfl
 rotate_left
 ·simp only [pA, pS, pZ, pK, i64_w, i32_w]
  rfl
 refine pu (i := 7) (N := some 12) (v := ?_) (a' := ?_) (bs 130 11) rfl rfl HT_ ?_ ?_ ?_
 rotate_left
 ·intro w'
  go_simp
  with_reducible rfl
 rotate_left
 ·simp only [pA, pS, pZ, pK, i64_w, i32_w]
  rfl
 refine tk (i := 0) (N := some 5) (v := ?_) (a' := ?_) (bs 131 11) rfl rfl HT_ HW_ ?_ hHeld ?_ ?_
 rotate_left
 ·rintro w' ⟨s0, s1, s2, s3, s4, s5, s6, s7, s8, s9, s10, s11, s12⟩
  go_simp
  with_reducible rfl
 rotate_left
 ·simp only [pA, pS, pZ, pK, i64_w, i32_w]
  rfl
 refine tk (i := 2) (N := some 7) (v := ?_) (a' := ?_) (bs 135 11) rfl rfl HT_ HW_ ?_ hHeld ?_ ?_
 rotate_left
 ·rintro w' ⟨s0, s1, s2, s3, s4, s5, s6, s7, s8, s9, s10, s11, s12⟩
  go_simp
  with_reducible rfl
 rotate_left
 ·simp only [pA, pS, pZ, pK, i64_w, i32_w]
  rfl
 refine tk (i := 8) (N := some 13) (v := ?_) (a' := ?_) (bs 391 11) rfl rfl HT_ HW_ ?_ hHeld ?_ ?_
 rotate_left
 ·rintro w' ⟨s0, s1, s2, s3, s4, s5, s6, s7, s8, s9, s10, s11, s12⟩
  go_simp
  with_reducible rfl
 rotate_left
 ·simp only [pA, pS, pZ, pK, i64_w, i32_w]
  rfl
 refine one_ (i := 3) (N := some 8) (bs 399 11) rfl rfl (one_of HT_.out (by kernel_rfl)) (by decide) (fun K hK => ?_)
 refine goes_ Try.func176 (by kernel_rfl) rfl #[.agg #[.slice (some adO) l1_0.length c1_0], .int .i64 a0_0] (by rfl) rfl rfl (by (try simp only [List.map_toArray, List.map_cons, List.map_nil]); first | done | rfl | (simp only [List.length_drop, List.length_take]; rfl)) ?_
 refine (impl_Store_latest.calls adO adI cI c1_0 l1_0 a0_0 _ Q3.out Q4.out Q6.out Q7.out ?side1).mono ?_
 (case side1 => exact (HB.out.cell (World.block_lt_of_cell? w _ HX0.out)).trans HX0.out)
 rintro e w7 ⟨he, hb⟩
 rw [← HJ.out] at he
 subst he
 refine ⟨_, rfl, ?_⟩
 replace BK1 := AM_ (BB BK1.out hb)
 replace BK2 := AM_ (BB BK2.out hb)
 replace BK284 := AM_ (BB BK284.out hb)
 replace HB := AM_ (below_step (BT HB.out) hb)
 (try clear hb)
 (try clear hb2)
 (try clear hk)
 (try clear hi)
 refine hK.out _ _ ⟨bc BK1.out 0, bc BK284.out 0, bc BK284.out 1, bc BK2.out 0, bc BK2.out 1, bc BK2.out 2, bc BK2.out 3, bc BK2.out 4, bc BK2.out 5, bc BK2.out 6, bc BK2.out 7, bc BK2.out 8, (HB.out.cell (World.block_lt_of_cell? w _ HX2.out)).trans HX2.out⟩ (fun hHeld => ?_)
 clear hK K
 refine norm_ (a' := ?_) ?_ ?_
 rotate_left
 ·show Act.put _ (some 8) _ = _
  simp only [pA, pS, pZ, pK, i64_w, i32_w]
  rfl
 refine pu (i := 4) (N := some 9) (v := ?_) (a' := ?_) (bs 415 11) rfl rfl HT_ ?_ ?_ ?_
 rotate_left
 ·intro w'
  go_simp
  with_reducible rfl
 rotate_left
 ·simp only [pA, pS, pZ, pK, i64_w, i32_w]
  rfl
 refine pu (i := 5) (N := some 10) (v := ?_) (a' := ?_) (bs 447 11) rfl rfl HT_ ?_ ?_ ?_
 rotate_left
 ·intro w'
  go_simp
  with_reducible rfl
 rotate_left
 ·simp only [pA, pS, pZ, pK, i64_w, i32_w]
  rfl
 refine tk (i := 6) (N := some 11) (v := ?_) (a' := ?_) (bs 511 11) rfl rfl HT_ HW_ ?_ hHeld ?_ ?_
 rotate_left
 ·rintro w' ⟨s0, s1, s2, s3, s4, s5, s6, s7, s8, s9, s10, s11, s12⟩
  go_simp
  with_reducible rfl
 rotate_left
 ·simp only [pA, pS, pZ, pK, i64_w, i32_w]
  rfl
 refine pu (i := 9) (N := some 14) (v := ?_) (a' := ?_) (bs 1023 11) rfl rfl HT_ ?_ ?_ ?_
 rotate_left
 ·intro w'
  go_simp
  with_reducible rfl
 rotate_left
 ·simp only [pA, pS, pZ, pK, i64_w, i32_w]
  rfl
 refine pu (i := 10) (N := some 4) (v := ?_) (a' := ?_) (bs 2047 11) rfl rfl HT_ ?_ ?_ ?_
 rotate_left
 ·intro w'
  go_simp
  with_reducible rfl
 rotate_left
 ·simp only [pA, pS, pZ, pK, i64_w, i32_w]
  rfl
 refine done_ (done_of HT_.out (by kernel_rfl)) ?_
 try go_wp2
 go_ret
 exact QT (BT HB.out)

/-! ### impl_Write_207: function 207 -/
def impl_Write_207.l0 : Nat → List (S133) → Int → Int → List (List (S76)) → Int → Int → Int → Int → Int → Int → Int → List (S165) → List (S133) → Option (Int)
 | 0, _, _, _, _, _, _, _, _, _, _, _, _, _ => none
 | k + 1, x0, x7, x8, x31000, x32000, x32001, x32002, x32003, x32004, x32005, x32006, x32007, x32008 => if x8 < x7 then (if 0 ≤ x8 then (if x8 < (x0.length : Int) then ((impl_Store_commitCode_1.f ((rd_T133 x0 x8).f0) ((rd_T133 x0 x8).f1) x31000 x32000 x32001 x32002 x32003 x32004 x32005 x32006 x32007 x32008).bind fun t282 => (if t282 = true then (some x8) else (impl_Write_207.l0 k x0 x7 (wrap64 (x8 + 1)) x31000 x32000 x32001 x32002 x32003 x32004 x32005 x32006 x32007 x32008))) else (none)) else (none)) else (some (-1))
def impl_Write_207.f (k : Nat) (l0 : List (S133)) (l1_0_0 : List (List (S76))) (a1_1_0 : Int) (a1_1_1 : Int) (a1_1_2 : Int) (a1_1_3 : Int) (a1_1_4 : Int) (a1_1_5 : Int) (a1_1_6 : Int) (l1_1_7 : List (S165)) (l1_1_8 : List (S133)) : Option (Int) := impl_Write_207.l0 k l0 (l0.length : Int) 0 l1_0_0 a1_1_0 a1_1_1 a1_1_2 a1_1_3 a1_1_4 a1_1_5 a1_1_6 l1_1_7 l1_1_8
theorem impl_Write_207.mono_l : ∀ k, (∀ y0 y1 y2 y3 y4 y5 y6 y7 y8 y9 y10 y11 y12, LeO (impl_Write_207.l0 k y0 y1 y2 y3 y4 y5 y6 y7 y8 y9 y10 y11 y12) (impl_Write_207.l0 (k + 1) y0 y1 y2 y3 y4 y5 y6 y7 y8 y9 y10 y11 y12))
 | 0 => fun _ _ _ _ _ _ _ _ _ _ _ _ _ r h => by simp [impl_Write_207.l0] at h
 | k + 1 => by
  have ih0 := impl_Write_207.mono_l k
  ·intro y0 y1 y2 y3 y4 y5 y6 y7 y8 y9 y10 y11 y12
   unfold impl_Write_207.l0
   repeat' first
   | (with_reducible exact ih0 _ _ _ _ _ _ _ _ _ _ _ _ _)
   | (with_reducible exact LeO.refl _)
   | (with_reducible exact LeO.none _)
   | (with_reducible refine LeO.ite ?_ ?_)
   | (with_reducible refine LeO.bind ?_ (fun _ => ?_))
   | exact ih0 _ _ _ _ _ _ _ _ _ _ _ _ _
   | exact LeO.none _
   | refine LeO.ite ?_ ?_
   | refine LeO.bind ?_ (fun _ => ?_)
theorem impl_Write_207.mono : ∀ a0 a1 a2 a3 a4 a5 a6 a7 a8 a9 a10 k, LeO (impl_Write_207.f k a0 a1 a2 a3 a4 a5 a6 a7 a8 a9 a10) (impl_Write_207.f (k + 1) a0 a1 a2 a3 a4 a5 a6 a7 a8 a9 a10) := by
 intro a0 a1 a2 a3 a4 a5 a6 a7 a8 a9 a10 k
 have ih0 := impl_Write_207.mono_l k
 unfold impl_Write_207.f
 repeat' first
   | (with_reducible exact ih0 _ _ _ _ _ _ _ _ _ _ _ _ _)
   | (with_reducible exact LeO.refl _)
   | (with_reducible exact LeO.none _)
   | (with_reducible refine LeO.ite ?_ ?_)
   | (with_reducible refine LeO.bind ?_ (fun _ => ?_))
   | exact ih0 _ _ _ _ _ _ _ _ _ _ _ _ _
   | exact LeO.none _
   | refine LeO.ite ?_ ?_
   | refine LeO.bind ?_ (fun _ => ?_)
set_option maxHeartbeats 8000000 in
set_option maxRecDepth 100000 in
theorem impl_Write_207.calls (k : Nat) (A0 : Option Addr) (c0 : Nat) (l0 : List (S133)) (gb30 : Nat) (gb31 : Nat) (A1_0_0 : Option Addr) (c1_0_0 : Nat) (l1_0_0 : List (List (S76))) (a1_1_0 : Int) (a1_1_1 : Int) (a1_1_2 : Int) (a1_1_3 : Int) (a1_1_4 : Int) (a1_1_5 : Int) (a1_1_6 : Int) (A1_1_7 : Option Addr) (c1_1_7 : Nat) (l1_1_7 : List (S165)) (A1_1_8 : Option Addr) (c1_1_8 : Nat) (l1_1_8 : List (S133)) (r : Int) (w : World) (hr0 : Kd.C k133 w A0 l0.length l0) (hc0 : l0.length ≤ c0) (hb30 : w.heap[gb30]? = some (.cells #[.slice A1_0_0 l1_0_0.length c1_0_0] 49 (0, 0))) (hr1_0_0 : Kd.C (Kd.slice 76 k76) w A1_0_0 l1_0_0.length l1_0_0) (hc1_0_0 : l1_0_0.length ≤ c1_0_0) (hb31 : w.heap[gb31]? = some (.cells #[.int .i64 a1_1_0, .int .i64 a1_1_1, .int .i64 a1_1_2, .int .i64 a1_1_3, .int .i64 a1_1_4, .int .i64 a1_1_5, .int .i64 a1_1_6, .slice A1_1_7 l1_1_7.length c1_1_7, .slice A1_1_8 l1_1_8.length c1_1_8] 68 (0, 0))) (hr1_1_7 : Kd.C k165 w A1_1_7 l1_1_7.length l1_1_7) (hc1_1_7 : l1_1_7.length ≤ c1_1_7) (hr1_1_8 : Kd.C k133 w A1_1_8 l1_1_8.length l1_1_8) (hc1_1_8 : l1_1_8.length ≤ c1_1_8) (hn30_31 : gb30 ≠ gb31) (h : impl_Write_207.f k l0 l1_0_0 a1_1_0 a1_1_1 a1_1_2 a1_1_3 a1_1_4 a1_1_5 a1_1_6 l1_1_7 l1_1_8 = some r) :
  Calls Try.prog 207 #[.slice A0 l0.length c0, .func (.func 175) #[] #[.pointer (some ⟨gb30, 0, none⟩), .pointer (some ⟨gb31, 0, none⟩)]] w fun e w' => e = .returned (.int .i64 r) ∧ Below w.heap.size w w' := by
 have hu133 := Try.underlying133
 have BK30 := AM_ hb30
 clear hb30
 have BK31 := AM_ hb31
 clear hb31
 have NB30_31 := AM_ hn30_31
 have NB31_30 := AM_ (Ne.symm hn30_31)
 clear hn30_31
 have HR0 := AM_ hr0
 have HC0 := AM_ hc0
 clear hr0 hc0
 have HR1_0_0 := AM_ hr1_0_0
 have HC1_0_0 := AM_ hc1_0_0
 clear hr1_0_0 hc1_0_0
 have HR1_1_7 := AM_ hr1_1_7
 have HC1_1_7 := AM_ hc1_1_7
 clear hr1_1_7 hc1_1_7
 have HR1_1_8 := AM_ hr1_1_8
 have HC1_1_8 := AM_ hc1_1_8
 clear hr1_1_8 hc1_1_8
 have HB := AM_ (Below.refl w.heap.size w)
 have H : (impl_Write_207.l0 k l0 (l0.length : Int) 0 l1_0_0 a1_1_0 a1_1_1 a1_1_2 a1_1_3 a1_1_4 a1_1_5 a1_1_6 l1_1_7 l1_1_8) = some r := h
 clear h
 have H' := AM_ H
 clear H
 go_enter Try.func207, Try.ntmps207
 go_wp2
 go_loopg [8] k (fun kq v8 w' => ∃ (x8_1 : Int), v8 = .int .i64 x8_1 ∧ Aside0 (impl_Write_207.l0 kq l0 (l0.length : Int) x8_1 l1_0_0 a1_1_0 a1_1_1 a1_1_2 a1_1_3 a1_1_4 a1_1_5 a1_1_6 l1_1_7 l1_1_8 = some r) ∧ Aside0 (kq ≤ k) ∧ Aside0 (w'.heap[gb30]? = some (.cells #[(.slice A1_0_0 l1_0_0.length c1_0_0)] 49 (0, 0))) ∧ Aside0 (w'.heap[gb31]? = some (.cells #[.int .i64 a1_1_0, .int .i64 a1_1_1, .int .i64 a1_1_2, .int .i64 a1_1_3, .int .i64 a1_1_4, .int .i64 a1_1_5, .int .i64 a1_1_6, (.slice A1_1_7 l1_1_7.length c1_1_7), (.slice A1_1_8 l1_1_8.length c1_1_8)] 68 (0, 0))) ∧ Aside0 (Below w.heap.size w w'))
 case atStart => exact ⟨(0), (by first | rfl | (simp; done) | (simp [*]; done)), H', ⟨Nat.le_refl _⟩, ⟨BH BK30.out⟩, ⟨BH BK31.out⟩, ⟨BT HB.out⟩⟩
 case round =>
  clear H'
  try clear c1
  try clear c2
  try clear p2
  obtain ⟨x8_1, rfl, HA, HK1, BK30, BK31, HB⟩ := hrel
  cases gk with
  | zero => exact absurd HA.out (by simp [impl_Write_207.l0])
  | succ k1 =>
   have H := HA.out
   clear HA
   simp only [impl_Write_207.l0] at H
   by_cases c3 : x8_1 < (l0.length : Int)
   rotate_left
   ·rw [if_neg c3] at H
    have c3b0 : decide (x8_1 < (l0.length : Int)) = false := decide_eq_false c3
    clear c3
    obtain rfl := Option.some.inj H
    go_wp2
    go_ret
    exact QT (BT HB.out)
   rw [if_pos c3] at H
   have c3b0 : decide (x8_1 < (l0.length : Int)) = true := decide_eq_true c3
   clear c3
   by_cases c4 : 0 ≤ x8_1
   rotate_left
   ·rw [if_neg c4] at H
    exact absurd H (by simp)
   rw [if_pos c4] at H
   have c4b0 : decide (0 ≤ x8_1) = true := decide_eq_true c4
   clear c4
   by_cases c5 : x8_1 < (l0.length : Int)
   rotate_left
   ·rw [if_neg c5] at H
    exact absurd H (by simp)
   rw [if_pos c5] at H
   have c5b0 : decide (x8_1 < (l0.length : Int)) = true := decide_eq_true c5
   clear c5
   replace H := Option.bind_eq_some_iff.mp H
   obtain ⟨t282, A60, H⟩ := H
   replace H : (if t282 = true then (some x8_1) else (impl_Write_207.l0 k1 l0 (l0.length : Int) (wrap64 (x8_1 + 1)) l1_0_0 a1_1_0 a1_1_1 a1_1_2 a1_1_3 a1_1_4 a1_1_5 a1_1_6 l1_1_7 l1_1_8)) = some r := H
   have A6 := AM_ A60
   clear A60
   by_cases c7 : t282 = true
   ·subst c7
    have H1 : (some x8_1) = some r := by rw [if_pos rfl] at H; exact H
    clear H
    have H := H1
    clear H1
    obtain rfl := Option.some.inj H
    have p281 : 0 ≤ (x8_1 : Int) := DT
    have q281 : x8_1 < (l0.length : Int) := DT
    obtain ⟨ad281, e281, hx281_0, hx281_1⟩ := at_T133 HR0.out x8_1 p281 q281
    cases e281
    replace hx281_0 := BC HB.out hx281_0
    replace hx281_1 := BC HB.out hx281_1
    replace p281 := eq_true p281
    replace q281 := eq_true q281
    go_wp2_with (first | ((with_reducible refine gate_dst (N := 16) rfl ?_); refine goesF_ (some 16) rfl rfl Try.func175 (by kernel_rfl) rfl (lb := #[.pointer (some ⟨gb30, 0, none⟩), .pointer (some ⟨gb31, 0, none⟩)]) #[.agg #[.int .i64 ((rd_T133 l0 x8_1).f0), .int .i64 ((rd_T133 l0 x8_1).f1)], .pointer (some ⟨gb30, 0, none⟩), .pointer (some ⟨gb31, 0, none⟩)] rfl rfl (by (try simp only [List.map_toArray, List.map_cons, List.map_nil]); first | done | rfl) ?_; (with_reducible refine (impl_Store_commitCode_1.calls ((rd_T133 l0 x8_1).f0) ((rd_T133 l0 x8_1).f1) gb30 A1_0_0 c1_0_0 l1_0_0 gb31 a1_1_0 a1_1_1 a1_1_2 a1_1_3 a1_1_4 a1_1_5 a1_1_6 A1_1_7 c1_1_7 l1_1_7 A1_1_8 c1_1_8 l1_1_8 true _ ?side1 ?side2 ?side3 ?side4 ?side5 ?side6 ?side7 ?side8 ?side9 A6.out).mono ?_); (case side1 => exact by (with_reducible repeat (first | refine blk_drewN ?_ _ | refine blk_drew ?_ | refine blk_alloc ?_ _)); exact BK30.out); (case side2 => exact CB HR1_0_0.out HB.out); (case side3 => exact HC1_0_0.out); (case side4 => exact by (with_reducible repeat (first | refine blk_drewN ?_ _ | refine blk_drew ?_ | refine blk_alloc ?_ _)); exact BK31.out); (case side5 => exact CB HR1_1_7.out HB.out); (case side6 => exact HC1_1_7.out); (case side7 => exact CB HR1_1_8.out HB.out); (case side8 => exact HC1_1_8.out); (case side9 => exact NB30_31.out); rintro e w8 ⟨rfl, hb⟩; refine ⟨_, rfl, ?_⟩; replace BK30 := AM_ (BB BK30.out hb); replace BK31 := AM_ (BB BK31.out hb); replace HB := AM_ (below_step (BT HB.out) hb); (try clear hb); (try clear hb2); (try clear hk); (try clear hi)))
    go_ret
    exact QT (BT HB.out)
   replace c7 := Bool.eq_false_iff.mpr c7
   subst c7
   have H1 : (impl_Write_207.l0 k1 l0 (l0.length : Int) (wrap64 (x8_1 + 1)) l1_0_0 a1_1_0 a1_1_1 a1_1_2 a1_1_3 a1_1_4 a1_1_5 a1_1_6 l1_1_7 l1_1_8) = some r := by rw [if_neg (show ¬ (false = true) by decide)] at H; exact H
   clear H
   have H := H1
   clear H1
   have H' := AM_ H
   clear H
   have p281 : 0 ≤ (x8_1 : Int) := DT
   have q281 : x8_1 < (l0.length : Int) := DT
   obtain ⟨ad281, e281, hx281_0, hx281_1⟩ := at_T133 HR0.out x8_1 p281 q281
   cases e281
   replace hx281_0 := BC HB.out hx281_0
   replace hx281_1 := BC HB.out hx281_1
   replace p281 := eq_true p281
   replace q281 := eq_true q281
   go_wp2_with (first | ((with_reducible refine gate_dst (N := 16) rfl ?_); refine goesF_ (some 16) rfl rfl Try.func175 (by kernel_rfl) rfl (lb := #[.pointer (some ⟨gb30, 0, none⟩), .pointer (some ⟨gb31, 0, none⟩)]) #[.agg #[.int .i64 ((rd_T133 l0 x8_1).f0), .int .i64 ((rd_T133 l0 x8_1).f1)], .pointer (some ⟨gb30, 0, none⟩), .pointer (some ⟨gb31, 0, none⟩)] rfl rfl (by (try simp only [List.map_toArray, List.map_cons, List.map_nil]); first | done | rfl) ?_; (with_reducible refine (impl_Store_commitCode_1.calls ((rd_T133 l0 x8_1).f0) ((rd_T133 l0 x8_1).f1) gb30 A1_0_0 c1_0_0 l1_0_0 gb31 a1_1_0 a1_1_1 a1_1_2 a1_1_3 a1_1_4 a1_1_5 a1_1_6 A1_1_7 c1_1_7 l1_1_7 A1_1_8 c1_1_8 l1_1_8 false _ ?side1 ?side2 ?side3 ?side4 ?side5 ?side6 ?side7 ?side8 ?side9 A6.out).mono ?_); (case side1 => exact by (with_reducible repeat (first | refine blk_drewN ?_ _ | refine blk_drew ?_ | refine blk_alloc ?_ _)); exact BK30.out); (case side2 => exact CB HR1_0_0.out HB.out); (case side3 => exact HC1_0_0.out); (case side4 => exact by (with_reducible repeat (first | refine blk_drewN ?_ _ | refine blk_drew ?_ | refine blk_alloc ?_ _)); exact BK31.out); (case side5 => exact CB HR1_1_7.out HB.out); (case side6 => exact HC1_1_7.out); (case side7 => exact CB HR1_1_8.out HB.out); (case side8 => exact HC1_1_8.out); (case side9 => exact NB30_31.out); rintro e w9 ⟨rfl, hb⟩; refine ⟨_, rfl, ?_⟩; replace BK30 := AM_ (BB BK30.out hb); replace BK31 := AM_ (BB BK31.out hb); replace HB := AM_ (below_step (BT HB.out) hb); (try clear hb); (try clear hb2); (try clear hk); (try clear hi)))
   go_roundg k1
   case measure => have := HK1.out; omega
   case rel => exact ⟨(wrap64 (x8_1 + 1)), (by first | rfl | (simp; done) | (simp [*]; done)), H', ⟨by have := HK1.out; omega⟩, ⟨BH BK30.out⟩, ⟨BH BK31.out⟩, ⟨BT HB.out⟩⟩

/-! ### impl_Write_174: function 174 -/
def impl_Write_174.f (k : Nat) (l0 : List (S133)) (l1_0_0 : List (List (S76))) (a1_1_0 : Int) (a1_1_1 : Int) (a1_1_2 : Int) (a1_1_3 : Int) (a1_1_4 : Int) (a1_1_5 : Int) (a1_1_6 : Int) (l1_1_7 : List (S165)) (l1_1_8 : List (S133)) : Option (Bool) := (impl_Write_207.f k l0 l1_0_0 a1_1_0 a1_1_1 a1_1_2 a1_1_3 a1_1_4 a1_1_5 a1_1_6 l1_1_7 l1_1_8).bind fun t283 => (some (decide (t283 ≥ 0)))
theorem impl_Write_174.mono : ∀ a0 a1 a2 a3 a4 a5 a6 a7 a8 a9 a10 k, LeO (impl_Write_174.f k a0 a1 a2 a3 a4 a5 a6 a7 a8 a9 a10) (impl_Write_174.f (k + 1) a0 a1 a2 a3 a4 a5 a6 a7 a8 a9 a10) := by
 intro a0 a1 a2 a3 a4 a5 a6 a7 a8 a9 a10 k
 unfold impl_Write_174.f
 repeat' first
   | (with_reducible exact impl_Write_207.mono _ _ _ _ _ _ _ _ _ _ _ _)
   | (with_reducible exact LeO.refl _)
   | (with_reducible exact LeO.none _)
   | (with_reducible refine LeO.ite ?_ ?_)
   | (with_reducible refine LeO.bind ?_ (fun _ => ?_))
   | exact impl_Write_207.mono _ _ _ _ _ _ _ _ _ _ _ _
   | exact LeO.none _
   | refine LeO.ite ?_ ?_
   | refine LeO.bind ?_ (fun _ => ?_)
set_option maxHeartbeats 8000000 in
set_option maxRecDepth 100000 in
theorem impl_Write_174.calls (k : Nat) (A0 : Option Addr) (c0 : Nat) (l0 : List (S133)) (gb30 : Nat) (gb31 : Nat) (A1_0_0 : Option Addr) (c1_0_0 : Nat) (l1_0_0 : List (List (S76))) (a1_1_0 : Int) (a1_1_1 : Int) (a1_1_2 : Int) (a1_1_3 : Int) (a1_1_4 : Int) (a1_1_5 : Int) (a1_1_6 : Int) (A1_1_7 : Option Addr) (c1_1_7 : Nat) (l1_1_7 : List (S165)) (A1_1_8 : Option Addr) (c1_1_8 : Nat) (l1_1_8 : List (S133)) (r : Bool) (w : World) (hr0 : Kd.C k133 w A0 l0.length l0) (hc0 : l0.length ≤ c0) (hb30 : w.heap[gb30]? = some (.cells #[.slice A1_0_0 l1_0_0.length c1_0_0] 49 (0, 0))) (hr1_0_0 : Kd.C (Kd.slice 76 k76) w A1_0_0 l1_0_0.length l1_0_0) (hc1_0_0 : l1_0_0.length ≤ c1_0_0) (hb31 : w.heap[gb31]? = some (.cells #[.int .i64 a1_1_0, .int .i64 a1_1_1, .int .i64 a1_1_2, .int .i64 a1_1_3, .int .i64 a1_1_4, .int .i64 a1_1_5, .int .i64 a1_1_6, .slice A1_1_7 l1_1_7.length c1_1_7, .slice A1_1_8 l1_1_8.length c1_1_8] 68 (0, 0))) (hr1_1_7 : Kd.C k165 w A1_1_7 l1_1_7.length l1_1_7) (hc1_1_7 : l1_1_7.length ≤ c1_1_7) (hr1_1_8 : Kd.C k133 w A1_1_8 l1_1_8.length l1_1_8) (hc1_1_8 : l1_1_8.length ≤ c1_1_8) (hn30_31 : gb30 ≠ gb31) (h : impl_Write_174.f k l0 l1_0_0 a1_1_0 a1_1_1 a1_1_2 a1_1_3 a1_1_4 a1_1_5 a1_1_6 l1_1_7 l1_1_8 = some r) :
  Calls Try.prog 174 #[.slice A0 l0.length c0, .func (.func 175) #[] #[.pointer (some ⟨gb30, 0, none⟩), .pointer (some ⟨gb31, 0, none⟩)]] w fun e w' => e = .returned (.bool r) ∧ Below w.heap.size w w' := by
 have BK30 := AM_ hb30
 clear hb30
 have BK31 := AM_ hb31
 clear hb31
 have NB30_31 := AM_ hn30_31
 have NB31_30 := AM_ (Ne.symm hn30_31)
 clear hn30_31
 have HR0 := AM_ hr0
 have HC0 := AM_ hc0
 clear hr0 hc0
 have HR1_0_0 := AM_ hr1_0_0
 have HC1_0_0 := AM_ hc1_0_0
 clear hr1_0_0 hc1_0_0
 have HR1_1_7 := AM_ hr1_1_7
 have HC1_1_7 := AM_ hc1_1_7
 clear hr1_1_7 hc1_1_7
 have HR1_1_8 := AM_ hr1_1_8
 have HC1_1_8 := AM_ hc1_1_8
 clear hr1_1_8 hc1_1_8
 have HB := AM_ (Below.refl w.heap.size w)
 have H : ((impl_Write_207.f k l0 l1_0_0 a1_1_0 a1_1_1 a1_1_2 a1_1_3 a1_1_4 a1_1_5 a1_1_6 l1_1_7 l1_1_8).bind fun t283 => (some (decide (t283 ≥ 0)))) = some r := h
 clear h
 replace H := Option.bind_eq_some_iff.mp H
 obtain ⟨t283, A30, H⟩ := H
 replace H : (some (decide (t283 ≥ 0))) = some r := H
 have A3 := AM_ A30
 clear A30
 obtain rfl := Option.some.inj H
 go_enter Try.func174, Try.ntmps174
 go_wp2_with (first | ((with_reducible refine gate_callee (f := 207) rfl ?_); refine goesL_ (some 7) rfl rfl Try.func207 (by kernel_rfl) rfl #[.slice A0 l0.length c0, .func (.func 175) #[] #[.pointer (some ⟨gb30, 0, none⟩), .pointer (some ⟨gb31, 0, none⟩)]] rfl (by (try simp only [List.map_toArray, List.map_cons, List.map_nil]); first | done | rfl | (simp only [List.length_drop, List.length_take]; rfl)) ?_; (with_reducible refine (impl_Write_207.calls k _ _ l0 gb30 gb31 A1_0_0 c1_0_0 l1_0_0 a1_1_0 a1_1_1 a1_1_2 a1_1_3 a1_1_4 a1_1_5 a1_1_6 A1_1_7 c1_1_7 l1_1_7 A1_1_8 c1_1_8 l1_1_8 t283 _ ?side1 ?side2 ?side3 ?side4 ?side5 ?side6 ?side7 ?side8 ?side9 ?side10 ?side11 A3.out).mono ?_); (case side1 => repeat (first | exact HR0.out | (with_reducible refine Kd.C_alloc ?_ _) | (with_reducible refine Kd.C_drewN ?_ _) | (with_reducible refine Kd.C_drew ?_))); (case side2 => exact HC0.out); (case side3 => exact by (with_reducible repeat (first | refine blk_drewN ?_ _ | refine blk_drew ?_ | refine blk_alloc ?_ _)); exact BK30.out); (case side4 => repeat (first | exact HR1_0_0.out | (with_reducible refine Kd.C_alloc ?_ _) | (with_reducible refine Kd.C_drewN ?_ _) | (with_reducible refine Kd.C_drew ?_))); (case side5 => exact HC1_0_0.out); (case side6 => exact by (with_reducible repeat (first | refine blk_drewN ?_ _ | refine blk_drew ?_ | refine blk_alloc ?_ _)); exact BK31.out); (case side7 => repeat (first | exact HR1_1_7.out | (with_reducible refine Kd.C_alloc ?_ _) | (with_reducible refine Kd.C_drewN ?_ _) | (with_reducible refine Kd.C_drew ?_))); (case side8 => exact HC1_1_7.out); (case side9 => repeat (first | exact HR1_1_8.out | (with_reducible refine Kd.C_alloc ?_ _) | (with_reducible refine Kd.C_drewN ?_ _) | (with_reducible refine Kd.C_drew ?_))); (case side10 => exact HC1_1_8.out); (case side11 => exact NB30_31.out); rintro e w4 ⟨rfl, hb⟩; refine ⟨_, rfl, ?_⟩; replace BK30 := AM_ (BB BK30.out hb); replace BK31 := AM_ (BB BK31.out hb); replace HB := AM_ (below_step (BT HB.out) hb); (try clear hb); (try clear hb2); (try clear hk); (try clear hi)))
 go_ret
 exact QT (BT HB.out)

/-! ### impl_Store_commitCode: function 106 -/
def impl_Store_commitCode.f (k : Nat) (l0_0 : List (List (S76))) (a1_0 : Int) (a1_1 : Int) (a1_2 : Int) (a1_3 : Int) (a1_4 : Int) (a1_5 : Int) (a1_6 : Int) (l1_7 : List (S165)) (l1_8 : List (S133)) : Option (Int) := (impl_Write_174.f k l1_8 l0_0 a1_0 a1_1 a1_2 a1_3 a1_4 a1_5 a1_6 l1_7 l1_8).bind fun t286 => (if t286 = true then (if a1_1 = 2 then (some 2) else (if a1_1 = 4 then (some 3) else (some 0))) else (some 0))
theorem impl_Store_commitCode.mono : ∀ a0 a1 a2 a3 a4 a5 a6 a7 a8 a9 k, LeO (impl_Store_commitCode.f k a0 a1 a2 a3 a4 a5 a6 a7 a8 a9) (impl_Store_commitCode.f (k + 1) a0 a1 a2 a3 a4 a5 a6 a7 a8 a9) := by
 intro a0 a1 a2 a3 a4 a5 a6 a7 a8 a9 k
 unfold impl_Store_commitCode.f
 repeat' first
   | (with_reducible exact impl_Write_174.mono _ _ _ _ _ _ _ _ _ _ _ _)
   | (with_reducible exact LeO.refl _)
   | (with_reducible exact LeO.none _)
   | (with_reducible refine LeO.ite ?_ ?_)
   | (with_reducible refine LeO.bind ?_ (fun _ => ?_))
   | exact impl_Write_174.mono _ _ _ _ _ _ _ _ _ _ _ _
   | exact LeO.none _
   | refine LeO.ite ?_ ?_
   | refine LeO.bind ?_ (fun _ => ?_)
set_option maxHeartbeats 8000000 in
set_option maxRecDepth 100000 in
theorem impl_Store_commitCode.calls (k : Nat) (A0_0 : Option Addr) (c0_0 : Nat) (l0_0 : List (List (S76))) (a1_0 : Int) (a1_1 : Int) (a1_2 : Int) (a1_3 : Int) (a1_4 : Int) (a1_5 : Int) (a1_6 : Int) (A1_7 : Option Addr) (c1_7 : Nat) (l1_7 : List (S165)) (A1_8 : Option Addr) (c1_8 : Nat) (l1_8 : List (S133)) (r : Int) (w : World) (hr0_0 : Kd.C (Kd.slice 76 k76) w A0_0 l0_0.length l0_0) (hc0_0 : l0_0.length ≤ c0_0) (hr1_7 : Kd.C k165 w A1_7 l1_7.length l1_7) (hc1_7 : l1_7.length ≤ c1_7) (hr1_8 : Kd.C k133 w A1_8 l1_8.length l1_8) (hc1_8 : l1_8.length ≤ c1_8) (h : impl_Store_commitCode.f k l0_0 a1_0 a1_1 a1_2 a1_3 a1_4 a1_5 a1_6 l1_7 l1_8 = some r) :
  Calls Try.prog 106 #[.agg #[.slice A0_0 l0_0.length c0_0], .agg #[.int .i64 a1_0, .int .i64 a1_1, .int .i64 a1_2, .int .i64 a1_3, .int .i64 a1_4, .int .i64 a1_5, .int .i64 a1_6, .slice A1_7 l1_7.length c1_7, .slice A1_8 l1_8.length c1_8]] w fun e w' => e = .returned (.int .i64 r) ∧ Below w.heap.size w w' := by
 have hu49 := Try.underlying49
 have hu68 := Try.underlying68
 have HR0_0 := AM_ hr0_0
 have HC0_0 := AM_ hc0_0
 clear hr0_0 hc0_0
 have HR1_7 := AM_ hr1_7
 have HC1_7 := AM_ hc1_7
 clear hr1_7 hc1_7
 have HR1_8 := AM_ hr1_8
 have HC1_8 := AM_ hc1_8
 clear hr1_8 hc1_8
 have HB := AM_ (Below.refl w.heap.size w)
 have H : ((impl_Write_174.f k l1_8 l0_0 a1_0 a1_1 a1_2 a1_3 a1_4 a1_5 a1_6 l1_7 l1_8).bind fun t286 => (if t286 = true then (if a1_1 = 2 then (some 2) else (if a1_1 = 4 then (some 3) else (some 0))) else (some 0))) = some r := h
 clear h
 replace H := Option.bind_eq_some_iff.mp H
 obtain ⟨t286, A30, H⟩ := H
 replace H : (if t286 = true then (if a1_1 = 2 then (some 2) else (if a1_1 = 4 then (some 3) else (some 0))) else (some 0)) = some r := H
 have A3 := AM_ A30
 clear A30
 by_cases c4 : t286 = true
 rotate_left
 ·replace c4 := Bool.eq_false_iff.mpr c4
  subst c4
  have H1 : (some 0) = some r := by rw [if_neg (show ¬ (false = true) by decide)] at H; exact H
  clear H
  have H := H1
  clear H1
  obtain rfl := Option.some.inj H
  go_enter Try.func106, Try.ntmps106
  go_wp2_with (first | ((with_reducible refine gate_dst (N := 2) rfl ?_); refine box_event ?hg (N := 2) ?hd (cs := #[.slice A0_0 l0_0.length c0_0]) (t := 49) ?hr ?_; (case hd => rfl); (case hg => rfl); (case hr => first | (go_simp; done) | (go_simp; rfl)); intro gb284 hg w25 hbox hb; have BK284 := AM_ (hbox); have GW284 := AM_ ((GS HB.out hg)); have GE284 := AM_ ((GS HB.out hg)); replace HB := AM_ (below_step (BT HB.out) hb); clear hb hbox hg) | ((with_reducible refine gate_dst (N := 3) rfl ?_); refine box_event ?hg (N := 3) ?hd (cs := #[.int .i64 a1_0, .int .i64 a1_1, .int .i64 a1_2, .int .i64 a1_3, .int .i64 a1_4, .int .i64 a1_5, .int .i64 a1_6, .slice A1_7 l1_7.length c1_7, .slice A1_8 l1_8.length c1_8]) (t := 68) ?hr ?_; (case hd => rfl); (case hg => rfl); (case hr => first | (go_simp; done) | (go_simp; rfl)); intro gb285 hg w26 hbox hb; have BK285 := AM_ (hbox); have GW285 := AM_ ((GS HB.out hg)); have GE285 := AM_ ((GS HB.out hg)); replace HB := AM_ (below_step (BT HB.out) hb); have NB284_285 := AM_ ((NL BK284.out hg)); have NB285_284 := AM_ ((NG BK284.out hg)); replace BK284 := AM_ (BB BK284.out hb); clear hb hbox hg; have hnb27 := NB285_284.out; have hnc27 := NB284_285.out; obtain ⟨hcz28_0, hcz28_1, hcz28_2, hcz28_3, hcz28_4, hcz28_5, hcz28_6, hcz28_7, hcz28_8, hfz28_0, hfz28_1, hfz28_2, hfz28_3, hfz28_4, hfz28_5, hfz28_6, hfz28_7, hfz28_8⟩ := bk9 BK285.out) | ((with_reducible refine gate_callee (f := 174) rfl ?_); refine goesL_ (some 8) rfl rfl Try.func174 (by kernel_rfl) rfl #[.slice A1_8 l1_8.length c1_8, .func (.func 175) #[] #[.pointer (some ⟨gb284, 0, none⟩), .pointer (some ⟨gb285, 0, none⟩)]] rfl (by (try simp only [List.map_toArray, List.map_cons, List.map_nil]); first | done | rfl | (simp only [List.length_drop, List.length_take]; rfl)) ?_; (with_reducible refine (impl_Write_174.calls k _ _ l1_8 gb284 gb285 A0_0 c0_0 l0_0 a1_0 a1_1 a1_2 a1_3 a1_4 a1_5 a1_6 A1_7 c1_7 l1_7 A1_8 c1_8 l1_8 false _ ?side1 ?side2 ?side3 ?side4 ?side5 ?side6 ?side7 ?side8 ?side9 ?side10 ?side11 A3.out).mono ?_); (case side1 => exact CB HR1_8.out HB.out); (case side2 => exact HC1_8.out); (case side3 => exact by (with_reducible repeat (first | refine blk_drewN ?_ _ | refine blk_drew ?_ | refine blk_alloc ?_ _)); exact BK284.out); (case side4 => exact CB HR0_0.out HB.out); (case side5 => exact HC0_0.out); (case side6 => exact by (with_reducible repeat (first | refine blk_drewN ?_ _ | refine blk_drew ?_ | refine blk_alloc ?_ _)); exact BK285.out); (case side7 => exact CB HR1_7.out HB.out); (case side8 => exact HC1_7.out); (case side9 => exact CB HR1_8.out HB.out); (case side10 => exact HC1_8.out); (case side11 => exact NB284_285.out); rintro e w29 ⟨rfl, hb⟩; refine ⟨_, rfl, ?_⟩; replace BK284 := AM_ (BB BK284.out hb); replace BK285 := AM_ (BB BK285.out hb); replace HB := AM_ (below_step (BT HB.out) hb); (try clear hb); (try clear hb2); (try clear hk); (try clear hi)))
  go_ret
  exact QT (BT HB.out)
 subst c4
 have H1 : (if a1_1 = 2 then (some 2) else (if a1_1 = 4 then (some 3) else (some 0))) = some r := by rw [if_pos rfl] at H; exact H
 clear H
 have H := H1
 clear H1
 by_cases c5 : a1_1 = 2
 ·rw [if_pos c5] at H
  have c5b0 : (a1_1 == 2) = true := beq_iff_eq.mpr c5
  have c5b1 : (a1_1 != 2) = false := bne_eq_false_iff_eq.mpr c5
  clear c5
  obtain rfl := Option.some.inj H
  go_enter Try.func106, Try.ntmps106
  go_wp2_with (first | ((with_reducible refine gate_dst (N := 2) rfl ?_); refine box_event ?hg (N := 2) ?hd (cs := #[.slice A0_0 l0_0.length c0_0]) (t := 49) ?hr ?_; (case hd => rfl); (case hg => rfl); (case hr => first | (go_simp; done) | (go_simp; rfl)); intro gb284 hg w6 hbox hb; have BK284 := AM_ (hbox); have GW284 := AM_ ((GS HB.out hg)); have GE284 := AM_ ((GS HB.out hg)); replace HB := AM_ (below_step (BT HB.out) hb); clear hb hbox hg) | ((with_reducible refine gate_dst (N := 3) rfl ?_); refine box_event ?hg (N := 3) ?hd (cs := #[.int .i64 a1_0, .int .i64 a1_1, .int .i64 a1_2, .int .i64 a1_3, .int .i64 a1_4, .int .i64 a1_5, .int .i64 a1_6, .slice A1_7 l1_7.length c1_7, .slice A1_8 l1_8.length c1_8]) (t := 68) ?hr ?_; (case hd => rfl); (case hg => rfl); (case hr => first | (go_simp; done) | (go_simp; rfl)); intro gb285 hg w7 hbox hb; have BK285 := AM_ (hbox); have GW285 := AM_ ((GS HB.out hg)); have GE285 := AM_ ((GS HB.out hg)); replace HB := AM_ (below_step (BT HB.out) hb); have NB284_285 := AM_ ((NL BK284.out hg)); have NB285_284 := AM_ ((NG BK284.out hg)); replace BK284 := AM_ (BB BK284.out hb); clear hb hbox hg; have hnb8 := NB285_284.out; have hnc8 := NB284_285.out; obtain ⟨hcz9_0, hcz9_1, hcz9_2, hcz9_3, hcz9_4, hcz9_5, hcz9_6, hcz9_7, hcz9_8, hfz9_0, hfz9_1, hfz9_2, hfz9_3, hfz9_4, hfz9_5, hfz9_6, hfz9_7, hfz9_8⟩ := bk9 BK285.out) | ((with_reducible refine gate_callee (f := 174) rfl ?_); refine goesL_ (some 8) rfl rfl Try.func174 (by kernel_rfl) rfl #[.slice A1_8 l1_8.length c1_8, .func (.func 175) #[] #[.pointer (some ⟨gb284, 0, none⟩), .pointer (some ⟨gb285, 0, none⟩)]] rfl (by (try simp only [List.map_toArray, List.map_cons, List.map_nil]); first | done | rfl | (simp only [List.length_drop, List.length_take]; rfl)) ?_; (with_reducible refine (impl_Write_174.calls k _ _ l1_8 gb284 gb285 A0_0 c0_0 l0_0 a1_0 a1_1 a1_2 a1_3 a1_4 a1_5 a1_6 A1_7 c1_7 l1_7 A1_8 c1_8 l1_8 true _ ?side1 ?side2 ?side3 ?side4 ?side5 ?side6 ?side7 ?side8 ?side9 ?side10 ?side11 A3.out).mono ?_); (case side1 => exact CB HR1_8.out HB.out); (case side2 => exact HC1_8.out); (case side3 => exact by (with_reducible repeat (first | refine blk_drewN ?_ _ | refine blk_drew ?_ | refine blk_alloc ?_ _)); exact BK284.out); (case side4 => exact CB HR0_0.out HB.out); (case side5 => exact HC0_0.out); (case side6 => exact by (with_reducible repeat (first | refine blk_drewN ?_ _ | refine blk_drew ?_ | refine blk_alloc ?_ _)); exact BK285.out); (case side7 => exact CB HR1_7.out HB.out); (case side8 => exact HC1_7.out); (case side9 => exact CB HR1_8.out HB.out); (case side10 => exact HC1_8.out); (case side11 => exact NB284_285.out); rintro e w10 ⟨rfl, hb⟩; refine ⟨_, rfl, ?_⟩; replace BK284 := AM_ (BB BK284.out hb); replace BK285 := AM_ (BB BK285.out hb); replace HB := AM_ (below_step (BT HB.out) hb); (try clear hb); (try clear hb2); (try clear hk); (try clear hi); obtain ⟨hcz11_0, hcz11_1, hcz11_2, hcz11_3, hcz11_4, hcz11_5, hcz11_6, hcz11_7, hcz11_8, hfz11_0, hfz11_1, hfz11_2, hfz11_3, hfz11_4, hfz11_5, hfz11_6, hfz11_7, hfz11_8⟩ := bk9 BK285.out))
  go_ret
  exact QT (BT HB.out)
 rw [if_neg c5] at H
 have c5b0 : (a1_1 == 2) = false := beq_eq_false_iff_ne.mpr c5
 have c5b1 : (a1_1 != 2) = true := bne_iff_ne.mpr c5
 by_cases c12 : a1_1 = 4
 rotate_left
 ·rw [if_neg c12] at H
  have c12b0 : (a1_1 == 4) = false := beq_eq_false_iff_ne.mpr c12
  have c12b1 : (a1_1 != 4) = true := bne_iff_ne.mpr c12
  obtain rfl := Option.some.inj H
  go_enter Try.func106, Try.ntmps106
  go_wp2_with (first | ((with_reducible refine gate_dst (N := 2) rfl ?_); refine box_event ?hg (N := 2) ?hd (cs := #[.slice A0_0 l0_0.length c0_0]) (t := 49) ?hr ?_; (case hd => rfl); (case hg => rfl); (case hr => first | (go_simp; done) | (go_simp; rfl)); intro gb284 hg w19 hbox hb; have BK284 := AM_ (hbox); have GW284 := AM_ ((GS HB.out hg)); have GE284 := AM_ ((GS HB.out hg)); replace HB := AM_ (below_step (BT HB.out) hb); clear hb hbox hg) | ((with_reducible refine gate_dst (N := 3) rfl ?_); refine box_event ?hg (N := 3) ?hd (cs := #[.int .i64 a1_0, .int .i64 a1_1, .int .i64 a1_2, .int .i64 a1_3, .int .i64 a1_4, .int .i64 a1_5, .int .i64 a1_6, .slice A1_7 l1_7.length c1_7, .slice A1_8 l1_8.length c1_8]) (t := 68) ?hr ?_; (case hd => rfl); (case hg => rfl); (case hr => first | (go_simp; done) | (go_simp; rfl)); intro gb285 hg w20 hbox hb; have BK285 := AM_ (hbox); have GW285 := AM_ ((GS HB.out hg)); have GE285 := AM_ ((GS HB.out hg)); replace HB := AM_ (below_step (BT HB.out) hb); have NB284_285 := AM_ ((NL BK284.out hg)); have NB285_284 := AM_ ((NG BK284.out hg)); replace BK284 := AM_ (BB BK284.out hb); clear hb hbox hg; have hnb21 := NB285_284.out; have hnc21 := NB284_285.out; obtain ⟨hcz22_0, hcz22_1, hcz22_2, hcz22_3, hcz22_4, hcz22_5, hcz22_6, hcz22_7, hcz22_8, hfz22_0, hfz22_1, hfz22_2, hfz22_3, hfz22_4, hfz22_5, hfz22_6, hfz22_7, hfz22_8⟩ := bk9 BK285.out) | ((with_reducible refine gate_callee (f := 174) rfl ?_); refine goesL_ (some 8) rfl rfl Try.func174 (by kernel_rfl) rfl #[.slice A1_8 l1_8.length c1_8, .func (.func 175) #[] #[.pointer (some ⟨gb284, 0, none⟩), .pointer (some ⟨gb285, 0, none⟩)]] rfl (by (try simp only [List.map_toArray, List.map_cons, List.map_nil]); first | done | rfl | (simp only [List.length_drop, List.length_take]; rfl)) ?_; (with_reducible refine (impl_Write_174.calls k _ _ l1_8 gb284 gb285 A0_0 c0_0 l0_0 a1_0 a1_1 a1_2 a1_3 a1_4 a1_5 a1_6 A1_7 c1_7 l1_7 A1_8 c1_8 l1_8 true _ ?side1 ?side2 ?side3 ?side4 ?side5 ?side6 ?side7 ?side8 ?side9 ?side10 ?side11 A3.out).mono ?_); (case side1 => exact CB HR1_8.out HB.out); (case side2 => exact HC1_8.out); (case side3 => exact by (with_reducible repeat (first | refine blk_drewN ?_ _ | refine blk_drew ?_ | refine blk_alloc ?_ _)); exact BK284.out); (case side4 => exact CB HR0_0.out HB.out); (case side5 => exact HC0_0.out); (case side6 => exact by (with_reducible repeat (first | refine blk_drewN ?_ _ | refine blk_drew ?_ | refine blk_alloc ?_ _)); exact BK285.out); (case side7 => exact CB HR1_7.out HB.out); (case side8 => exact HC1_7.out); (case side9 => exact CB HR1_8.out HB.out); (case side10 => exact HC1_8.out); (case side11 => exact NB284_285.out); rintro e w23 ⟨rfl, hb⟩; refine ⟨_, rfl, ?_⟩; replace BK284 := AM_ (BB BK284.out hb); replace BK285 := AM_ (BB BK285.out hb); replace HB := AM_ (below_step (BT HB.out) hb); (try clear hb); (try clear hb2); (try clear hk); (try clear hi); obtain ⟨hcz24_0, hcz24_1, hcz24_2, hcz24_3, hcz24_4, hcz24_5, hcz24_6, hcz24_7, hcz24_8, hfz24_0, hfz24_1, hfz24_2, hfz24_3, hfz24_4, hfz24_5, hfz24_6, hfz24_7, hfz24_8⟩ := bk9 BK285.out))
  go_ret
  exact QT (BT HB.out)
 rw [if_pos c12] at H
 have c12b0 : (a1_1 == 4) = true := beq_iff_eq.mpr c12
 have c12b1 : (a1_1 != 4) = false := bne_eq_false_iff_eq.mpr c12
 clear c12
 obtain rfl := Option.some.inj H
 go_enter Try.func106, Try.ntmps106
 go_wp2_with (first | ((with_reducible refine gate_dst (N := 2) rfl ?_); refine box_event ?hg (N := 2) ?hd (cs := #[.slice A0_0 l0_0.length c0_0]) (t := 49) ?hr ?_; (case hd => rfl); (case hg => rfl); (case hr => first | (go_simp; done) | (go_simp; rfl)); intro gb284 hg w13 hbox hb; have BK284 := AM_ (hbox); have GW284 := AM_ ((GS HB.out hg)); have GE284 := AM_ ((GS HB.out hg)); replace HB := AM_ (below_step (BT HB.out) hb); clear hb hbox hg) | ((with_reducible refine gate_dst (N := 3) rfl ?_); refine box_event ?hg (N := 3) ?hd (cs := #[.int .i64 a1_0, .int .i64 a1_1, .int .i64 a1_2, .int .i64 a1_3, .int .i64 a1_4, .int .i64 a1_5, .int .i64 a1_6, .slice A1_7 l1_7.length c1_7, .slice A1_8 l1_8.length c1_8]) (t := 68) ?hr ?_; (case hd => rfl); (case hg => rfl); (case hr => first | (go_simp; done) | (go_simp; rfl)); intro gb285 hg w14 hbox hb; have BK285 := AM_ (hbox); have GW285 := AM_ ((GS HB.out hg)); have GE285 := AM_ ((GS HB.out hg)); replace HB := AM_ (below_step (BT HB.out) hb); have NB284_285 := AM_ ((NL BK284.out hg)); have NB285_284 := AM_ ((NG BK284.out hg)); replace BK284 := AM_ (BB BK284.out hb); clear hb hbox hg; have hnb15 := NB285_284.out; have hnc15 := NB284_285.out; obtain ⟨hcz16_0, hcz16_1, hcz16_2, hcz16_3, hcz16_4, hcz16_5, hcz16_6, hcz16_7, hcz16_8, hfz16_0, hfz16_1, hfz16_2, hfz16_3, hfz16_4, hfz16_5, hfz16_6, hfz16_7, hfz16_8⟩ := bk9 BK285.out) | ((with_reducible refine gate_callee (f := 174) rfl ?_); refine goesL_ (some 8) rfl rfl Try.func174 (by kernel_rfl) rfl #[.slice A1_8 l1_8.length c1_8, .func (.func 175) #[] #[.pointer (some ⟨gb284, 0, none⟩), .pointer (some ⟨gb285, 0, none⟩)]] rfl (by (try simp only [List.map_toArray, List.map_cons, List.map_nil]); first | done | rfl | (simp only [List.length_drop, List.length_take]; rfl)) ?_; (with_reducible refine (impl_Write_174.calls k _ _ l1_8 gb284 gb285 A0_0 c0_0 l0_0 a1_0 a1_1 a1_2 a1_3 a1_4 a1_5 a1_6 A1_7 c1_7 l1_7 A1_8 c1_8 l1_8 true _ ?side1 ?side2 ?side3 ?side4 ?side5 ?side6 ?side7 ?side8 ?side9 ?side10 ?side11 A3.out).mono ?_); (case side1 => exact CB HR1_8.out HB.out); (case side2 => exact HC1_8.out); (case side3 => exact by (with_reducible repeat (first | refine blk_drewN ?_ _ | refine blk_drew ?_ | refine blk_alloc ?_ _)); exact BK284.out); (case side4 => exact CB HR0_0.out HB.out); (case side5 => exact HC0_0.out); (case side6 => exact by (with_reducible repeat (first | refine blk_drewN ?_ _ | refine blk_drew ?_ | refine blk_alloc ?_ _)); exact BK285.out); (case side7 => exact CB HR1_7.out HB.out); (case side8 => exact HC1_7.out); (case side9 => exact CB HR1_8.out HB.out); (case side10 => exact HC1_8.out); (case side11 => exact NB284_285.out); rintro e w17 ⟨rfl, hb⟩; refine ⟨_, rfl, ?_⟩; replace BK284 := AM_ (BB BK284.out hb); replace BK285 := AM_ (BB BK285.out hb); replace HB := AM_ (below_step (BT HB.out) hb); (try clear hb); (try clear hb2); (try clear hk); (try clear hi); obtain ⟨hcz18_0, hcz18_1, hcz18_2, hcz18_3, hcz18_4, hcz18_5, hcz18_6, hcz18_7, hcz18_8, hfz18_0, hfz18_1, hfz18_2, hfz18_3, hfz18_4, hfz18_5, hfz18_6, hfz18_7, hfz18_8⟩ := bk9 BK285.out))
 go_ret
 exact QT (BT HB.out)

/-! ### impl_CommitCode: function 37 -/
def impl_CommitCode.f (k : Nat) (l0_0 : List (List (S76))) (a1_0 : Int) (a1_1 : Int) (a1_2 : Int) (a1_3 : Int) (a1_4 : Int) (a1_5 : Int) (a1_6 : Int) (l1_7 : List (S165)) (l1_8 : List (S133)) : Option (Int) := (impl_IsValidStore.f k l0_0).bind fun t289 => (if t289 = true then ((impl_Transaction_isActive.f k a1_0 a1_1 a1_2 a1_3 a1_4 a1_5 a1_6 l1_7 l1_8).bind fun t290 => (if t290 = true then ((impl_Store_commitCode.f k l0_0 a1_0 a1_1 a1_2 a1_3 a1_4 a1_5 a1_6 l1_7 l1_8).bind fun t291 => (some t291)) else (some 6))) else (some 6))
theorem impl_CommitCode.mono : ∀ a0 a1 a2 a3 a4 a5 a6 a7 a8 a9 k, LeO (impl_CommitCode.f k a0 a1 a2 a3 a4 a5 a6 a7 a8 a9) (impl_CommitCode.f (k + 1) a0 a1 a2 a3 a4 a5 a6 a7 a8 a9) := by
 intro a0 a1 a2 a3 a4 a5 a6 a7 a8 a9 k
 unfold impl_CommitCode.f
 repeat' first
   | (with_reducible exact impl_IsValidStore.mono _ _)
   | (with_reducible exact impl_Store_commitCode.mono _ _ _ _ _ _ _ _ _ _ _)
   | (with_reducible exact impl_Transaction_isActive.mono _ _ _ _ _ _ _ _ _ _)
   | (with_reducible exact LeO.refl _)
   | (with_reducible exact LeO.none _)
   | (with_reducible refine LeO.ite ?_ ?_)
   | (with_reducible refine LeO.bind ?_ (fun _ => ?_))
   | exact impl_IsValidStore.mono _ _
   | exact impl_Store_commitCode.mono _ _ _ _ _ _ _ _ _ _ _
   | exact impl_Transaction_isActive.mono _ _ _ _ _ _ _ _ _ _
   | exact LeO.none _
   | refine LeO.ite ?_ ?_
   | refine LeO.bind ?_ (fun _ => ?_)
set_option maxHeartbeats 8000000 in
set_option maxRecDepth 100000 in
theorem impl_CommitCode.calls (k : Nat) (A0_0 : Option Addr) (c0_0 : Nat) (l0_0 : List (List (S76))) (a1_0 : Int) (a1_1 : Int) (a1_2 : Int) (a1_3 : Int) (a1_4 : Int) (a1_5 : Int) (a1_6 : Int) (A1_7 : Option Addr) (c1_7 : Nat) (l1_7 : List (S165)) (A1_8 : Option Addr) (c1_8 : Nat) (l1_8 : List (S133)) (r : Int) (w : World) (hr0_0 : Kd.C (Kd.slice 76 k76) w A0_0 l0_0.length l0_0) (hc0_0 : l0_0.length ≤ c0_0) (hr1_7 : Kd.C k165 w A1_7 l1_7.length l1_7) (hc1_7 : l1_7.length ≤ c1_7) (hr1_8 : Kd.C k133 w A1_8 l1_8.length l1_8) (hc1_8 : l1_8.length ≤ c1_8) (h : impl_CommitCode.f k l0_0 a1_0 a1_1 a1_2 a1_3 a1_4 a1_5 a1_6 l1_7 l1_8 = some r) :
  Calls Try.prog 37 #[.agg #[.slice A0_0 l0_0.length c0_0], .agg #[.int .i64 a1_0, .int .i64 a1_1, .int .i64 a1_2, .int .i64 a1_3, .int .i64 a1_4, .int .i64 a1_5, .int .i64 a1_6, .slice A1_7 l1_7.length c1_7, .slice A1_8 l1_8.length c1_8]] w fun e w' => e = .returned (.int .i64 r) ∧ Below w.heap.size w w' := by
 have hu49 := Try.underlying49
 have hu68 := Try.underlying68
 have HR0_0 := AM_ hr0_0
 have HC0_0 := AM_ hc0_0
 clear hr0_0 hc0_0
 have HR1_7 := AM_ hr1_7
 have HC1_7 := AM_ hc1_7
 clear hr1_7 hc1_7
 have HR1_8 := AM_ hr1_8
 have HC1_8 := AM_ hc1_8
 clear hr1_8 hc1_8
 have HB := AM_ (Below.refl w.heap.size w)
 have H : ((impl_IsValidStore.f k l0_0).bind fun t289 => (if t289 = true then ((impl_Transaction_isActive.f k a1_0 a1_1 a1_2 a1_3 a1_4 a1_5 a1_6 l1_7 l1_8).bind fun t290 => (if t290 = true then ((impl_Store_commitCode.f k l0_0 a1_0 a1_1 a1_2 a1_3 a1_4 a1_5 a1_6 l1_7 l1_8).bind fun t291 => (some t291)) else (some 6))) else (some 6))) = some r := h
 clear h
 replace H := Option.bind_eq_some_iff.mp H
 obtain ⟨t289, A30, H⟩ := H
 replace H : (if t289 = true then ((impl_Transaction_isActive.f k a1_0 a1_1 a1_2 a1_3 a1_4 a1_5 a1_6 l1_7 l1_8).bind fun t290 => (if t290 = true then ((impl_Store_commitCode.f k l0_0 a1_0 a1_1 a1_2 a1_3 a1_4 a1_5 a1_6 l1_7 l1_8).bind fun t291 => (some t291)) else (some 6))) else (some 6)) = some r := H
 have A3 := AM_ A30
 clear A30
 by_cases c4 : t289 = true
 rotate_left
 ·replace c4 := Bool.eq_false_iff.mpr c4
  subst c4
  have H1 : (some 6) = some r := by rw [if_neg (show ¬ (false = true) by decide)] at H; exact H
  clear H
  have H := H1
  clear H1
  obtain rfl := Option.some.inj H
  go_enter Try.func37, Try.ntmps37
  go_wp2_with (first | ((with_reducible refine gate_dst (N := 2) rfl ?_); refine box_event ?hg (N := 2) ?hd (cs := #[.slice A0_0 l0_0.length c0_0]) (t := 49) ?hr ?_; (case hd => rfl); (case hg => rfl); (case hr => first | (go_simp; done) | (go_simp; rfl)); intro gb287 hg w25 hbox hb; have BK287 := AM_ (hbox); have GW287 := AM_ ((GS HB.out hg)); have GE287 := AM_ ((GS HB.out hg)); replace HB := AM_ (below_step (BT HB.out) hb); clear hb hbox hg) | ((with_reducible refine gate_dst (N := 3) rfl ?_); refine box_event ?hg (N := 3) ?hd (cs := #[.int .i64 a1_0, .int .i64 a1_1, .int .i64 a1_2, .int .i64 a1_3, .int .i64 a1_4, .int .i64 a1_5, .int .i64 a1_6, .slice A1_7 l1_7.length c1_7, .slice A1_8 l1_8.length c1_8]) (t := 68) ?hr ?_; (case hd => rfl); (case hg => rfl); (case hr => first | (go_simp; done) | (go_simp; rfl)); intro gb288 hg w26 hbox hb; have BK288 := AM_ (hbox); have GW288 := AM_ ((GS HB.out hg)); have GE288 := AM_ ((GS HB.out hg)); replace HB := AM_ (below_step (BT HB.out) hb); have NB287_288 := AM_ ((NL BK287.out hg)); have NB288_287 := AM_ ((NG BK287.out hg)); replace BK287 := AM_ (BB BK287.out hb); clear hb hbox hg; have hnb27 := NB287_288.out; have hnc27 := NB288_287.out; obtain ⟨hcz28_0, hfz28_0⟩ := bk1 BK287.out) | ((with_reducible refine gate_callee (f := 104) rfl ?_); refine goesL_ (some 6) rfl rfl Try.func104 (by kernel_rfl) rfl #[.agg #[.slice A0_0 l0_0.length c0_0]] rfl (by (try simp only [List.map_toArray, List.map_cons, List.map_nil]); first | done | rfl | (simp only [List.length_drop, List.length_take]; rfl)) ?_; (with_reducible refine (impl_IsValidStore.calls k _ _ l0_0 false _ ?side1 ?side2 A3.out).mono ?_); (case side1 => exact CB HR0_0.out HB.out); (case side2 => exact HC0_0.out); rintro e w29 ⟨rfl, hb⟩; refine ⟨_, rfl, ?_⟩; replace BK287 := AM_ (BB BK287.out hb); replace BK288 := AM_ (BB BK288.out hb); replace HB := AM_ (below_step (BT HB.out) hb); (try clear hb); (try clear hb2); (try clear hk); (try clear hi)))
  go_ret
  exact QT (BT HB.out)
 subst c4
 have H1 : ((impl_Transaction_isActive.f k a1_0 a1_1 a1_2 a1_3 a1_4 a1_5 a1_6 l1_7 l1_8).bind fun t290 => (if t290 = true then ((impl_Store_commitCode.f k l0_0 a1_0 a1_1 a1_2 a1_3 a1_4 a1_5 a1_6 l1_7 l1_8).bind fun t291 => (some t291)) else (some 6))) = some r := by rw [if_pos rfl] at H; exact H
 clear H
 have H := H1
 clear H1
 replace H := Option.bind_eq_some_iff.mp H
 obtain ⟨t290, A50, H⟩ := H
 replace H : (if t290 = true then ((impl_Store_commitCode.f k l0_0 a1_0 a1_1 a1_2 a1_3 a1_4 a1_5 a1_6 l1_7 l1_8).bind fun t291 => (some t291)) else (some 6)) = some r := H
 have A5 := AM_ A50
 clear A50
 by_cases c6 : t290 = true
 rotate_left
 ·replace c6 := Bool.eq_false_iff.mpr c6
  subst c6
  have H1 : (some 6) = some r := by rw [if_neg (show ¬ (false = true) by decide)] at H; exact H
  clear H
  have H := H1
  clear H1
  obtain rfl := Option.some.inj H
  go_enter Try.func37, Try.ntmps37
  go_wp2_with (first | ((with_reducible refine gate_dst (N := 2) rfl ?_); refine box_event ?hg (N := 2) ?hd (cs := #[.slice A0_0 l0_0.length c0_0]) (t := 49) ?hr ?_; (case hd => rfl); (case hg => rfl); (case hr => first | (go_simp; done) | (go_simp; rfl)); intro gb287 hg w18 hbox hb; have BK287 := AM_ (hbox); have GW287 := AM_ ((GS HB.out hg)); have GE287 := AM_ ((GS HB.out hg)); replace HB := AM_ (below_step (BT HB.out) hb); clear hb hbox hg) | ((with_reducible refine gate_dst (N := 3) rfl ?_); refine box_event ?hg (N := 3) ?hd (cs := #[.int .i64 a1_0, .int .i64 a1_1, .int .i64 a1_2, .int .i64 a1_3, .int .i64 a1_4, .int .i64 a1_5, .int .i64 a1_6, .slice A1_7 l1_7.length c1_7, .slice A1_8 l1_8.length c1_8]) (t := 68) ?hr ?_; (case hd => rfl); (case hg => rfl); (case hr => first | (go_simp; done) | (go_simp; rfl)); intro gb288 hg w19 hbox hb; have BK288 := AM_ (hbox); have GW288 := AM_ ((GS HB.out hg)); have GE288 := AM_ ((GS HB.out hg)); replace HB := AM_ (below_step (BT HB.out) hb); have NB287_288 := AM_ ((NL BK287.out hg)); have NB288_287 := AM_ ((NG BK287.out hg)); replace BK287 := AM_ (BB BK287.out hb); clear hb hbox hg; have hnb20 := NB287_288.out; have hnc20 := NB288_287.out; obtain ⟨hcz21_0, hfz21_0⟩ := bk1 BK287.out) | ((with_reducible refine gate_callee (f := 104) rfl ?_); refine goesL_ (some 6) rfl rfl Try.func104 (by kernel_rfl) rfl #[.agg #[.slice A0_0 l0_0.length c0_0]] rfl (by (try simp only [List.map_toArray, List.map_cons, List.map_nil]); first | done | rfl | (simp only [List.length_drop, List.length_take]; rfl)) ?_; (with_reducible refine (impl_IsValidStore.calls k _ _ l0_0 true _ ?side1 ?side2 A3.out).mono ?_); (case side1 => exact CB HR0_0.out HB.out); (case side2 => exact HC0_0.out); rintro e w22 ⟨rfl, hb⟩; refine ⟨_, rfl, ?_⟩; replace BK287 := AM_ (BB BK287.out hb); replace BK288 := AM_ (BB BK288.out hb); replace HB := AM_ (below_step (BT HB.out) hb); (try clear hb); (try clear hb2); (try clear hk); (try clear hi); obtain ⟨hcz23_0, hcz23_1, hcz23_2, hcz23_3, hcz23_4, hcz23_5, hcz23_6, hcz23_7, hcz23_8, hfz23_0, hfz23_1, hfz23_2, hfz23_3, hfz23_4, hfz23_5, hfz23_6, hfz23_7, hfz23_8⟩ := bk9 BK288.out) | (go_at_call 105; (with_reducible refine (impl_Transaction_isActive.calls k a1_0 a1_1 a1_2 a1_3 a1_4 a1_5 a1_6 _ _ l1_7 _ _ l1_8 false _ ?side1 ?side2 ?side3 ?side4 A5.out).mono ?_); (case side1 => exact CB HR1_7.out HB.out); (case side2 => exact HC1_7.out); (case side3 => exact CB HR1_8.out HB.out); (case side4 => exact HC1_8.out); rintro e w24 ⟨rfl, hb⟩; replace BK287 := AM_ (BB BK287.out hb); replace BK288 := AM_ (BB BK288.out hb); replace HB := AM_ (below_step (BT HB.out) hb); (try clear hb); (try clear hb2); (try clear hk); (try clear hi)))
  go_ret
  exact QT (BT HB.out)
 subst c6
 have H1 : ((impl_Store_commitCode.f k l0_0 a1_0 a1_1 a1_2 a1_3 a1_4 a1_5 a1_6 l1_7 l1_8).bind fun t291 => (some t291)) = some r := by rw [if_pos rfl] at H; exact H
 clear H
 have H := H1
 clear H1
 replace H := Option.bind_eq_some_iff.mp H
 obtain ⟨t291, A70, H⟩ := H
 replace H : (some t291) = some r := H
 have A7 := AM_ A70
 clear A70
 obtain rfl := Option.some.inj H
 go_enter Try.func37, Try.ntmps37
 go_wp2_with (first | ((with_reducible refine gate_dst (N := 2) rfl ?_); refine box_event ?hg (N := 2) ?hd (cs := #[.slice A0_0 l0_0.length c0_0]) (t := 49) ?hr ?_; (case hd => rfl); (case hg => rfl); (case hr => first | (go_simp; done) | (go_simp; rfl)); intro gb287 hg w8 hbox hb; have BK287 := AM_ (hbox); have GW287 := AM_ ((GS HB.out hg)); have GE287 := AM_ ((GS HB.out hg)); replace HB := AM_ (below_step (BT HB.out) hb); clear hb hbox hg) | ((with_reducible refine gate_dst (N := 3) rfl ?_); refine box_event ?hg (N := 3) ?hd (cs := #[.int .i64 a1_0, .int .i64 a1_1, .int .i64 a1_2, .int .i64 a1_3, .int .i64 a1_4, .int .i64 a1_5, .int .i64 a1_6, .slice A1_7 l1_7.length c1_7, .slice A1_8 l1_8.length c1_8]) (t := 68) ?hr ?_; (case hd => rfl); (case hg => rfl); (case hr => first | (go_simp; done) | (go_simp; rfl)); intro gb288 hg w9 hbox hb; have BK288 := AM_ (hbox); have GW288 := AM_ ((GS HB.out hg)); have GE288 := AM_ ((GS HB.out hg)); replace HB := AM_ (below_step (BT HB.out) hb); have NB287_288 := AM_ ((NL BK287.out hg)); have NB288_287 := AM_ ((NG BK287.out hg)); replace BK287 := AM_ (BB BK287.out hb); clear hb hbox hg; have hnb10 := NB287_288.out; have hnc10 := NB288_287.out; obtain ⟨hcz11_0, hfz11_0⟩ := bk1 BK287.out) | ((with_reducible refine gate_callee (f := 104) rfl ?_); refine goesL_ (some 6) rfl rfl Try.func104 (by kernel_rfl) rfl #[.agg #[.slice A0_0 l0_0.length c0_0]] rfl (by (try simp only [List.map_toArray, List.map_cons, List.map_nil]); first | done | rfl | (simp only [List.length_drop, List.length_take]; rfl)) ?_; (with_reducible refine (impl_IsValidStore.calls k _ _ l0_0 true _ ?side1 ?side2 A3.out).mono ?_); (case side1 => exact CB HR0_0.out HB.out); (case side2 => exact HC0_0.out); rintro e w12 ⟨rfl, hb⟩; refine ⟨_, rfl, ?_⟩; replace BK287 := AM_ (BB BK287.out hb); replace BK288 := AM_ (BB BK288.out hb); replace HB := AM_ (below_step (BT HB.out) hb); (try clear hb); (try clear hb2); (try clear hk); (try clear hi); obtain ⟨hcz13_0, hcz13_1, hcz13_2, hcz13_3, hcz13_4, hcz13_5, hcz13_6, hcz13_7, hcz13_8, hfz13_0, hfz13_1, hfz13_2, hfz13_3, hfz13_4, hfz13_5, hfz13_6, hfz13_7, hfz13_8⟩ := bk9 BK288.out) | (go_at_call 105; (with_reducible refine (impl_Transaction_isActive.calls k a1_0 a1_1 a1_2 a1_3 a1_4 a1_5 a1_6 _ _ l1_7 _ _ l1_8 true _ ?side1 ?side2 ?side3 ?side4 A5.out).mono ?_); (case side1 => exact CB HR1_7.out HB.out); (case side2 => exact HC1_7.out); (case side3 => exact CB HR1_8.out HB.out); (case side4 => exact HC1_8.out); rintro e w14 ⟨rfl, hb⟩; replace BK287 := AM_ (BB BK287.out hb); replace BK288 := AM_ (BB BK288.out hb); replace HB := AM_ (below_step (BT HB.out) hb); (try clear hb); (try clear hb2); (try clear hk); (try clear hi); obtain ⟨hcz15_0, hfz15_0⟩ := bk1 BK287.out; obtain ⟨hcz16_0, hcz16_1, hcz16_2, hcz16_3, hcz16_4, hcz16_5, hcz16_6, hcz16_7, hcz16_8, hfz16_0, hfz16_1, hfz16_2, hfz16_3, hfz16_4, hfz16_5, hfz16_6, hfz16_7, hfz16_8⟩ := bk9 BK288.out) | ((with_reducible refine gate_callee (f := 106) rfl ?_); refine goesL_ (some 15) rfl rfl Try.func106 (by kernel_rfl) rfl #[.agg #[.slice A0_0 l0_0.length c0_0], .agg #[.int .i64 a1_0, .int .i64 a1_1, .int .i64 a1_2, .int .i64 a1_3, .int .i64 a1_4, .int .i64 a1_5, .int .i64 a1_6, .slice A1_7 l1_7.length c1_7, .slice A1_8 l1_8.length c1_8]] rfl (by (try simp only [List.map_toArray, List.map_cons, List.map_nil]); first | done | rfl | (simp only [List.length_drop, List.length_take]; rfl)) ?_; (with_reducible refine (impl_Store_commitCode.calls k _ _ l0_0 a1_0 a1_1 a1_2 a1_3 a1_4 a1_5 a1_6 _ _ l1_7 _ _ l1_8 t291 _ ?side1 ?side2 ?side3 ?side4 ?side5 ?side6 A7.out).mono ?_); (case side1 => exact CB HR0_0.out HB.out); (case side2 => exact HC0_0.out); (case side3 => exact CB HR1_7.out HB.out); (case side4 => exact HC1_7.out); (case side5 => exact CB HR1_8.out HB.out); (case side6 => exact HC1_8.out); rintro e w17 ⟨rfl, hb⟩; refine ⟨_, rfl, ?_⟩; replace BK287 := AM_ (BB BK287.out hb); replace BK288 := AM_ (BB BK288.out hb); replace HB := AM_ (below_step (BT HB.out) hb); (try clear hb); (try clear hb2); (try clear hk); (try clear hi)))
 go_ret
 exact QT (BT HB.out)

/-! ### laws_eqVersion: function 46 -/
def laws_eqVersion.f (a0_0 : Int) (a0_1 : Int) (a0_2 : Int) (a0_3 : Int) (a0_4 : Int) (a1_0 : Int) (a1_1 : Int) (a1_2 : Int) (a1_3 : Int) (a1_4 : Int) : Option (Bool) := if a0_0 = a1_0 then (if a0_1 = a1_1 then (if a0_2 = a1_2 then (if a0_3 = a1_3 then (if a0_4 = a1_4 then (some true) else (some false)) else (some false)) else (some false)) else (some false)) else (some false)
set_option maxHeartbeats 8000000 in
set_option maxRecDepth 100000 in
theorem laws_eqVersion.calls (a0_0 : Int) (a0_1 : Int) (a0_2 : Int) (a0_3 : Int) (a0_4 : Int) (a1_0 : Int) (a1_1 : Int) (a1_2 : Int) (a1_3 : Int) (a1_4 : Int) (r : Bool) (w : World) (h : laws_eqVersion.f a0_0 a0_1 a0_2 a0_3 a0_4 a1_0 a1_1 a1_2 a1_3 a1_4 = some r) :
  Calls Try.prog 46 #[.agg #[.int .i64 a0_0, .int .i64 a0_1, .int .i64 a0_2, .int .i64 a0_3, .int .i64 a0_4], .agg #[.int .i64 a1_0, .int .i64 a1_1, .int .i64 a1_2, .int .i64 a1_3, .int .i64 a1_4]] w fun e w' => e = .returned (.bool r) ∧ Below w.heap.size w w' := by
 have hu76 := Try.underlying76
 have HB := AM_ (Below.refl w.heap.size w)
 have H : (if a0_0 = a1_0 then (if a0_1 = a1_1 then (if a0_2 = a1_2 then (if a0_3 = a1_3 then (if a0_4 = a1_4 then (some true) else (some false)) else (some false)) else (some false)) else (some false)) else (some false)) = some r := h
 clear h
 by_cases c3 : a0_0 = a1_0
 rotate_left
 ·rw [if_neg c3] at H
  have c3b0 : (a0_0 == a1_0) = false := beq_eq_false_iff_ne.mpr c3
  have c3b1 : (a0_0 != a1_0) = true := bne_iff_ne.mpr c3
  obtain rfl := Option.some.inj H
  go_enter Try.func46, Try.ntmps46
  go_wp2_with (first | ((with_reducible refine gate_dst (N := 2) rfl ?_); refine box_event ?hg (N := 2) ?hd (cs := #[.int .i64 a0_0, .int .i64 a0_1, .int .i64 a0_2, .int .i64 a0_3, .int .i64 a0_4]) (t := 76) ?hr ?_; (case hd => rfl); (case hg => rfl); (case hr => first | (go_simp; done) | (go_simp; rfl)); intro gb292 hg w33 hbox hb; have BK292 := AM_ (hbox); have GW292 := AM_ ((GS HB.out hg)); have GE292 := AM_ ((GS HB.out hg)); replace HB := AM_ (below_step (BT HB.out) hb); clear hb hbox hg) | ((with_reducible refine gate_dst (N := 3) rfl ?_); refine box_event ?hg (N := 3) ?hd (cs := #[.int .i64 a1_0, .int .i64 a1_1, .int .i64 a1_2, .int .i64 a1_3, .int .i64 a1_4]) (t := 76) ?hr ?_; (case hd => rfl); (case hg => rfl); (case hr => first | (go_simp; done) | (go_simp; rfl)); intro gb293 hg w34 hbox hb; have BK293 := AM_ (hbox); have GW293 := AM_ ((GS HB.out hg)); have GE293 := AM_ ((GS HB.out hg)); replace HB := AM_ (below_step (BT HB.out) hb); have NB292_293 := AM_ ((NL BK292.out hg)); have NB293_292 := AM_ ((NG BK292.out hg)); replace BK292 := AM_ (BB BK292.out hb); clear hb hbox hg; have hnb35 := NB292_293.out; have hnc35 := NB293_292.out; obtain ⟨hcz36_0, hcz36_1, hcz36_2, hcz36_3, hcz36_4, hfz36_0, hfz36_1, hfz36_2, hfz36_3, hfz36_4⟩ := bk5 BK292.out; obtain ⟨hcz37_0, hcz37_1, hcz37_2, hcz37_3, hcz37_4, hfz37_0, hfz37_1, hfz37_2, hfz37_3, hfz37_4⟩ := bk5 BK293.out))
  go_ret
  exact QT (BT HB.out)
 rw [if_pos c3] at H
 have c3b0 : (a0_0 == a1_0) = true := beq_iff_eq.mpr c3
 have c3b1 : (a0_0 != a1_0) = false := bne_eq_false_iff_eq.mpr c3
 clear c3
 by_cases c4 : a0_1 = a1_1
 rotate_left
 ·rw [if_neg c4] at H
  have c4b0 : (a0_1 == a1_1) = false := beq_eq_false_iff_ne.mpr c4
  have c4b1 : (a0_1 != a1_1) = true := bne_iff_ne.mpr c4
  obtain rfl := Option.some.inj H
  go_enter Try.func46, Try.ntmps46
  go_wp2_with (first | ((with_reducible refine gate_dst (N := 2) rfl ?_); refine box_event ?hg (N := 2) ?hd (cs := #[.int .i64 a0_0, .int .i64 a0_1, .int .i64 a0_2, .int .i64 a0_3, .int .i64 a0_4]) (t := 76) ?hr ?_; (case hd => rfl); (case hg => rfl); (case hr => first | (go_simp; done) | (go_simp; rfl)); intro gb292 hg w28 hbox hb; have BK292 := AM_ (hbox); have GW292 := AM_ ((GS HB.out hg)); have GE292 := AM_ ((GS HB.out hg)); replace HB := AM_ (below_step (BT HB.out) hb); clear hb hbox hg) | ((with_reducible refine gate_dst (N := 3) rfl ?_); refine box_event ?hg (N := 3) ?hd (cs := #[.int .i64 a1_0, .int .i64 a1_1, .int .i64 a1_2, .int .i64 a1_3, .int .i64 a1_4]) (t := 76) ?hr ?_; (case hd => rfl); (case hg => rfl); (case hr => first | (go_simp; done) | (go_simp; rfl)); intro gb293 hg w29 hbox hb; have BK293 := AM_ (hbox); have GW293 := AM_ ((GS HB.out hg)); have GE293 := AM_ ((GS HB.out hg)); replace HB := AM_ (below_step (BT HB.out) hb); have NB292_293 := AM_ ((NL BK292.out hg)); have NB293_292 := AM_ ((NG BK292.out hg)); replace BK292 := AM_ (BB BK292.out hb); clear hb hbox hg; have hnb30 := NB292_293.out; have hnc30 := NB293_292.out; obtain ⟨hcz31_0, hcz31_1, hcz31_2, hcz31_3, hcz31_4, hfz31_0, hfz31_1, hfz31_2, hfz31_3, hfz31_4⟩ := bk5 BK292.out; obtain ⟨hcz32_0, hcz32_1, hcz32_2, hcz32_3, hcz32_4, hfz32_0, hfz32_1, hfz32_2, hfz32_3, hfz32_4⟩ := bk5 BK293.out))
  go_ret
  exact QT (BT HB.out)
 rw [if_pos c4] at H
 have c4b0 : (a0_1 == a1_1) = true := beq_iff_eq.mpr c4
 have c4b1 : (a0_1 != a1_1) = false := bne_eq_false_iff_eq.mpr c4
 clear c4
 by_cases c5 : a0_2 = a1_2
 rotate_left
 ·rw [if_neg c5] at H
  have c5b0 : (a0_2 == a1_2) = false := beq_eq_false_iff_ne.mpr c5
  have c5b1 : (a0_2 != a1_2) = true := bne_iff_ne.mpr c5
  obtain rfl := Option.some.inj H
  go_enter Try.func46, Try.ntmps46
  go_wp2_with (first | ((with_reducible refine gate_dst (N := 2) rfl ?_); refine box_event ?hg (N := 2) ?hd (cs := #[.int .i64 a0_0, .int .i64 a0_1, .int .i64 a0_2, .int .i64 a0_3, .int .i64 a0_4]) (t := 76) ?hr ?_; (case hd => rfl); (case hg => rfl); (case hr => first | (go_simp; done) | (go_simp; rfl)); intro gb292 hg w23 hbox hb; have BK292 := AM_ (hbox); have GW292 := AM_ ((GS HB.out hg)); have GE292 := AM_ ((GS HB.out hg)); replace HB := AM_ (below_step (BT HB.out) hb); clear hb hbox hg) | ((with_reducible refine gate_dst (N := 3) rfl ?_); refine box_event ?hg (N := 3) ?hd (cs := #[.int .i64 a1_0, .int .i64 a1_1, .int .i64 a1_2, .int .i64 a1_3, .int .i64 a1_4]) (t := 76) ?hr ?_; (case hd => rfl); (case hg => rfl); (case hr => first | (go_simp; done) | (go_simp; rfl)); intro gb293 hg w24 hbox hb; have BK293 := AM_ (hbox); have GW293 := AM_ ((GS HB.out hg)); have GE293 := AM_ ((GS HB.out hg)); replace HB := AM_ (below_step (BT HB.out) hb); have NB292_293 := AM_ ((NL BK292.out hg)); have NB293_292 := AM_ ((NG BK292.out hg)); replace BK292 := AM_ (BB BK292.out hb); clear hb hbox hg; have hnb25 := NB292_293.out; have hnc25 := NB293_292.out; obtain ⟨hcz26_0, hcz26_1, hcz26_2, hcz26_3, hcz26_4, hfz26_0, hfz26_1, hfz26_2, hfz26_3, hfz26_4⟩ := bk5 BK292.out; obtain ⟨hcz27_0, hcz27_1, hcz27_2, hcz27_3, hcz27_4, hfz27_0, hfz27_1, hfz27_2, hfz27_3, hfz27_4⟩ := bk5 BK293.out))
  go_ret
  exact QT (BT HB.out)
 rw [if_pos c5] at H
 have c5b0 : (a0_2 == a1_2) = true := beq_iff_eq.mpr c5
 have c5b1 : (a0_2 != a1_2) = false := bne_eq_false_iff_eq.mpr c5
 clear c5
 by_cases c6 : a0_3 = a1_3
 rotate_left
 ·rw [if_neg c6] at H
  have c6b0 : (a0_3 == a1_3) = false := beq_eq_false_iff_ne.mpr c6
  have c6b1 : (a0_3 != a1_3) = true := bne_iff_ne.mpr c6
  obtain rfl := Option.some.inj H
  go_enter Try.func46, Try.ntmps46
  go_wp2_with (first | ((with_reducible refine gate_dst (N := 2) rfl ?_); refine box_event ?hg (N := 2) ?hd (cs := #[.int .i64 a0_0, .int .i64 a0_1, .int .i64 a0_2, .int .i64 a0_3, .int .i64 a0_4]) (t := 76) ?hr ?_; (case hd => rfl); (case hg => rfl); (case hr => first | (go_simp; done) | (go_simp; rfl)); intro gb292 hg w18 hbox hb; have BK292 := AM_ (hbox); have GW292 := AM_ ((GS HB.out hg)); have GE292 := AM_ ((GS HB.out hg)); replace HB := AM_ (below_step (BT HB.out) hb); clear hb hbox hg) | ((with_reducible refine gate_dst (N := 3) rfl ?_); refine box_event ?hg (N := 3) ?hd (cs := #[.int .i64 a1_0, .int .i64 a1_1, .int .i64 a1_2, .int .i64 a1_3, .int .i64 a1_4]) (t := 76) ?hr ?_; (case hd => rfl); (case hg => rfl); (case hr => first | (go_simp; done) | (go_simp; rfl)); intro gb293 hg w19 hbox hb; have BK293 := AM_ (hbox); have GW293 := AM_ ((GS HB.out hg)); have GE293 := AM_ ((GS HB.out hg)); replace HB := AM_ (below_step (BT HB.out) hb); have NB292_293 := AM_ ((NL BK292.out hg)); have NB293_292 := AM_ ((NG BK292.out hg)); replace BK292 := AM_ (BB BK292.out hb); clear hb hbox hg; have hnb20 := NB292_293.out; have hnc20 := NB293_292.out; obtain ⟨hcz21_0, hcz21_1, hcz21_2, hcz21_3, hcz21_4, hfz21_0, hfz21_1, hfz21_2, hfz21_3, hfz21_4⟩ := bk5 BK292.out; obtain ⟨hcz22_0, hcz22_1, hcz22_2, hcz22_3, hcz22_4, hfz22_0, hfz22_1, hfz22_2, hfz22_3, hfz22_4⟩ := bk5 BK293.out))
  go_ret
  exact QT (BT HB.out)
 rw [if_pos c6] at H
 have c6b0 : (a0_3 == a1_3) = true := beq_iff_eq.mpr c6
 have c6b1 : (a0_3 != a1_3) = false := bne_eq_false_iff_eq.mpr c6
 clear c6
 by_cases c7 : a0_4 = a1_4
 rotate_left
 ·rw [if_neg c7] at H
  have c7b0 : (a0_4 == a1_4) = false := beq_eq_false_iff_ne.mpr c7
  have c7b1 : (a0_4 != a1_4) = true := bne_iff_ne.mpr c7
  obtain rfl := Option.some.inj H
  go_enter Try.func46, Try.ntmps46
  go_wp2_with (first | ((with_reducible refine gate_dst (N := 2) rfl ?_); refine box_event ?hg (N := 2) ?hd (cs := #[.int .i64 a0_0, .int .i64 a0_1, .int .i64 a0_2, .int .i64 a0_3, .int .i64 a0_4]) (t := 76) ?hr ?_; (case hd => rfl); (case hg => rfl); (case hr => first | (go_simp; done) | (go_simp; rfl)); intro gb292 hg w13 hbox hb; have BK292 := AM_ (hbox); have GW292 := AM_ ((GS HB.out hg)); have GE292 := AM_ ((GS HB.out hg)); replace HB := AM_ (below_step (BT HB.out) hb); clear hb hbox hg) | ((with_reducible refine gate_dst (N := 3) rfl ?_); refine box_event ?hg (N := 3) ?hd (cs := #[.int .i64 a1_0, .int .i64 a1_1, .int .i64 a1_2, .int .i64 a1_3, .int .i64 a1_4]) (t := 76) ?hr ?_; (case hd => rfl); (case hg => rfl); (case hr => first | (go_simp; done) | (go_simp; rfl)); intro gb293 hg w14 hbox hb; have BK293 := AM_ (hbox); have GW293 := AM_ ((GS HB.out hg)); have GE293 := AM_ ((GS HB.out hg)); replace HB := AM_ (below_step (BT HB.out) hb); have NB292_293 := AM_ ((NL BK292.out hg)); have NB293_292 := AM_ ((NG BK292.out hg)); replace BK292 := AM_ (BB BK292.out hb); clear hb hbox hg; have hnb15 := NB292_293.out; have hnc15 := NB293_292.out; obtain ⟨hcz16_0, hcz16_1, hcz16_2, hcz16_3, hcz16_4, hfz16_0, hfz16_1, hfz16_2, hfz16_3, hfz16_4⟩ := bk5 BK292.out; obtain ⟨hcz17_0, hcz17_1, hcz17_2, hcz17_3, hcz17_4, hfz17_0, hfz17_1, hfz17_2, hfz17_3, hfz17_4⟩ := bk5 BK293.out))
  go_ret
  exact QT (BT HB.out)
 rw [if_pos c7] at H
 have c7b0 : (a0_4 == a1_4) = true := beq_iff_eq.mpr c7
 have c7b1 : (a0_4 != a1_4) = false := bne_eq_false_iff_eq.mpr c7
 clear c7
 obtain rfl := Option.some.inj H
 go_enter Try.func46, Try.ntmps46
 go_wp2_with (first | ((with_reducible refine gate_dst (N := 2) rfl ?_); refine box_event ?hg (N := 2) ?hd (cs := #[.int .i64 a0_0, .int .i64 a0_1, .int .i64 a0_2, .int .i64 a0_3, .int .i64 a0_4]) (t := 76) ?hr ?_; (case hd => rfl); (case hg => rfl); (case hr => first | (go_simp; done) | (go_simp; rfl)); intro gb292 hg w8 hbox hb; have BK292 := AM_ (hbox); have GW292 := AM_ ((GS HB.out hg)); have GE292 := AM_ ((GS HB.out hg)); replace HB := AM_ (below_step (BT HB.out) hb); clear hb hbox hg) | ((with_reducible refine gate_dst (N := 3) rfl ?_); refine box_event ?hg (N := 3) ?hd (cs := #[.int .i64 a1_0, .int .i64 a1_1, .int .i64 a1_2, .int .i64 a1_3, .int .i64 a1_4]) (t := 76) ?hr ?_; (case hd => rfl); (case hg => rfl); (case hr => first | (go_simp; done) | (go_simp; rfl)); intro gb293 hg w9 hbox hb; have BK293 := AM_ (hbox); have GW293 := AM_ ((GS HB.out hg)); have GE293 := AM_ ((GS HB.out hg)); replace HB := AM_ (below_step (BT HB.out) hb); have NB292_293 := AM_ ((NL BK292.out hg)); have NB293_292 := AM_ ((NG BK292.out hg)); replace BK292 := AM_ (BB BK292.out hb); clear hb hbox hg; have hnb10 := NB292_293.out; have hnc10 := NB293_292.out; obtain ⟨hcz11_0, hcz11_1, hcz11_2, hcz11_3, hcz11_4, hfz11_0, hfz11_1, hfz11_2, hfz11_3, hfz11_4⟩ := bk5 BK292.out; obtain ⟨hcz12_0, hcz12_1, hcz12_2, hcz12_3, hcz12_4, hfz12_0, hfz12_1, hfz12_2, hfz12_3, hfz12_4⟩ := bk5 BK293.out))
 go_ret
 exact QT (BT HB.out)

end Go.Proofs.Ytakpkmlbklahhaa.PFnExactCommitCode
