-- Printed by a program of mine (wip/myprint.py), which runs the printer of the kit with contracts of mine beside it.
import Derived.Test.YtakpkmlbklahhaaPFnExactWriteCodex0
import Derived.Test.YtakpkmlbklahhaaPFnExactWriteCodex11
namespace Go.Proofs.Ytakpkmlbklahhaa.PFnExactWriteCode
open Go.RowKit Go.Proofs.YtakpkmlbklahhaaW.PrintWords Go.Proofs.YtakpkmlbklahhaaW.PrintLast Go.Proofs.YtakpkmlbklahhaaW.PrintMore
attribute [local go_sem] max2_int min2_int max_two min_two max_three min_three max_four min_four   -- for this text's walks alone
set_option linter.unusedVariables false
set_option linter.unusedSimpArgs false

/-! ### impl_Store_writeCode: function 133 -/
mutual
def impl_Store_writeCode.j0 : Nat → Int × Int → Bool → Int → Int → Int → Int → Int → Int → Int → List (S165) → List (S133) → Option (Int)
 | 0, _, _, _, _, _, _, _, _, _, _, _ => none
 | k + 1, x10, x11, x262000, x262001, x262002, x262003, x262004, x262005, x262006, x262007, x262008 => if x262001 = 1 then (impl_Store_writeCode.j1 k x10 x11 x11 x262000 x262001 x262002 x262003 x262004 x262005 x262006 x262007 x262008) else (impl_Store_writeCode.j1 k x10 x11 false x262000 x262001 x262002 x262003 x262004 x262005 x262006 x262007 x262008)
def impl_Store_writeCode.j1 : Nat → Int × Int → Bool → Bool → Int → Int → Int → Int → Int → Int → Int → List (S165) → List (S133) → Option (Int)
 | 0, _, _, _, _, _, _, _, _, _, _, _, _ => none
 | k + 1, x10, x11, x26, x262000, x262001, x262002, x262003, x262004, x262005, x262006, x262007, x262008 => if x26 = true then (some 1) else (if x262001 = 2 then (if x11 = true then (impl_Store_writeCode.j2 k x10 true x262000 x262001 x262002 x262003 x262004 x262005 x262006 x262007 x262008) else (impl_Store_writeCode.j2 k x10 (decide (x10.1 > x262003)) x262000 x262001 x262002 x262003 x262004 x262005 x262006 x262007 x262008)) else (impl_Store_writeCode.j2 k x10 false x262000 x262001 x262002 x262003 x262004 x262005 x262006 x262007 x262008))
def impl_Store_writeCode.j2 : Nat → Int × Int → Bool → Int → Int → Int → Int → Int → Int → Int → List (S165) → List (S133) → Option (Int)
 | 0, _, _, _, _, _, _, _, _, _, _, _ => none
 | k + 1, x10, x33, x262000, x262001, x262002, x262003, x262004, x262005, x262006, x262007, x262008 => if x33 = true then (some 2) else (if x262001 = 4 then (if x10.2 > x262003 then (some 3) else (some 0)) else (some 0))
end
def impl_Store_writeCode.f (k : Nat) (l0_0 : List (List (S76))) (l1 : List (S150)) (a2_0 : Int) (a2_1 : Int) (a2_2 : Int) (a2_3 : Int) (a2_4 : Int) (a2_5 : Int) (a2_6 : Int) (l2_7 : List (S165)) (l2_8 : List (S133)) (a3 : Int) : Option (Int) := (impl_LockOwner.f k l1 a3).bind fun t262 => ((impl_Store_latest.f l0_0 a3).bind fun bt => (if t262 = 0 then (impl_Store_writeCode.j0 k (bt.2.2.1, bt.2.2.2.1) false a2_0 a2_1 a2_2 a2_3 a2_4 a2_5 a2_6 l2_7 l2_8) else (impl_Store_writeCode.j0 k (bt.2.2.1, bt.2.2.2.1) (t262 != a2_0) a2_0 a2_1 a2_2 a2_3 a2_4 a2_5 a2_6 l2_7 l2_8)))
theorem impl_Store_writeCode.mono_l : ∀ k, (∀ y0 y1 y2 y3 y4 y5 y6 y7 y8 y9 y10, LeO (impl_Store_writeCode.j0 k y0 y1 y2 y3 y4 y5 y6 y7 y8 y9 y10) (impl_Store_writeCode.j0 (k + 1) y0 y1 y2 y3 y4 y5 y6 y7 y8 y9 y10)) ∧ (∀ y0 y1 y2 y3 y4 y5 y6 y7 y8 y9 y10 y11, LeO (impl_Store_writeCode.j1 k y0 y1 y2 y3 y4 y5 y6 y7 y8 y9 y10 y11) (impl_Store_writeCode.j1 (k + 1) y0 y1 y2 y3 y4 y5 y6 y7 y8 y9 y10 y11)) ∧ (∀ y0 y1 y2 y3 y4 y5 y6 y7 y8 y9 y10, LeO (impl_Store_writeCode.j2 k y0 y1 y2 y3 y4 y5 y6 y7 y8 y9 y10) (impl_Store_writeCode.j2 (k + 1) y0 y1 y2 y3 y4 y5 y6 y7 y8 y9 y10))
 | 0 => ⟨fun _ _ _ _ _ _ _ _ _ _ _ r h => by simp [impl_Store_writeCode.j0] at h, fun _ _ _ _ _ _ _ _ _ _ _ _ r h => by simp [impl_Store_writeCode.j1] at h, fun _ _ _ _ _ _ _ _ _ _ _ r h => by simp [impl_Store_writeCode.j2] at h⟩
 | k + 1 => by
  obtain ⟨ih0, ih1, ih2⟩ := impl_Store_writeCode.mono_l k
  refine ⟨?_, ?_, ?_⟩
  ·intro y0 y1 y2 y3 y4 y5 y6 y7 y8 y9 y10
   unfold impl_Store_writeCode.j0
   repeat' first
   | (with_reducible exact ih0 _ _ _ _ _ _ _ _ _ _ _)
   | (with_reducible exact ih1 _ _ _ _ _ _ _ _ _ _ _ _)
   | (with_reducible exact ih2 _ _ _ _ _ _ _ _ _ _ _)
   | (with_reducible exact impl_LockOwner.mono _ _ _)
   | (with_reducible exact LeO.refl _)
   | (with_reducible exact LeO.none _)
   | (with_reducible refine LeO.ite ?_ ?_)
   | (with_reducible refine LeO.bind ?_ (fun _ => ?_))
   | exact ih0 _ _ _ _ _ _ _ _ _ _ _
   | exact ih1 _ _ _ _ _ _ _ _ _ _ _ _
   | exact ih2 _ _ _ _ _ _ _ _ _ _ _
   | exact impl_LockOwner.mono _ _ _
   | exact LeO.none _
   | refine LeO.ite ?_ ?_
   | refine LeO.bind ?_ (fun _ => ?_)
  ·intro y0 y1 y2 y3 y4 y5 y6 y7 y8 y9 y10 y11
   unfold impl_Store_writeCode.j1
   repeat' first
   | (with_reducible exact ih0 _ _ _ _ _ _ _ _ _ _ _)
   | (with_reducible exact ih1 _ _ _ _ _ _ _ _ _ _ _ _)
   | (with_reducible exact ih2 _ _ _ _ _ _ _ _ _ _ _)
   | (with_reducible exact impl_LockOwner.mono _ _ _)
   | (with_reducible exact LeO.refl _)
   | (with_reducible exact LeO.none _)
   | (with_reducible refine LeO.ite ?_ ?_)
   | (with_reducible refine LeO.bind ?_ (fun _ => ?_))
   | exact ih0 _ _ _ _ _ _ _ _ _ _ _
   | exact ih1 _ _ _ _ _ _ _ _ _ _ _ _
   | exact ih2 _ _ _ _ _ _ _ _ _ _ _
   | exact impl_LockOwner.mono _ _ _
   | exact LeO.none _
   | refine LeO.ite ?_ ?_
   | refine LeO.bind ?_ (fun _ => ?_)
  ·intro y0 y1 y2 y3 y4 y5 y6 y7 y8 y9 y10
   unfold impl_Store_writeCode.j2
   repeat' first
   | (with_reducible exact ih0 _ _ _ _ _ _ _ _ _ _ _)
   | (with_reducible exact ih1 _ _ _ _ _ _ _ _ _ _ _ _)
   | (with_reducible exact ih2 _ _ _ _ _ _ _ _ _ _ _)
   | (with_reducible exact impl_LockOwner.mono _ _ _)
   | (with_reducible exact LeO.refl _)
   | (with_reducible exact LeO.none _)
   | (with_reducible refine LeO.ite ?_ ?_)
   | (with_reducible refine LeO.bind ?_ (fun _ => ?_))
   | exact ih0 _ _ _ _ _ _ _ _ _ _ _
   | exact ih1 _ _ _ _ _ _ _ _ _ _ _ _
   | exact ih2 _ _ _ _ _ _ _ _ _ _ _
   | exact impl_LockOwner.mono _ _ _
   | exact LeO.none _
   | refine LeO.ite ?_ ?_
   | refine LeO.bind ?_ (fun _ => ?_)
theorem impl_Store_writeCode.mono : ∀ a0 a1 a2 a3 a4 a5 a6 a7 a8 a9 a10 a11 k, LeO (impl_Store_writeCode.f k a0 a1 a2 a3 a4 a5 a6 a7 a8 a9 a10 a11) (impl_Store_writeCode.f (k + 1) a0 a1 a2 a3 a4 a5 a6 a7 a8 a9 a10 a11) := by
 intro a0 a1 a2 a3 a4 a5 a6 a7 a8 a9 a10 a11 k
 obtain ⟨ih0, ih1, ih2⟩ := impl_Store_writeCode.mono_l k
 unfold impl_Store_writeCode.f
 repeat' first
   | (with_reducible exact ih0 _ _ _ _ _ _ _ _ _ _ _)
   | (with_reducible exact ih1 _ _ _ _ _ _ _ _ _ _ _ _)
   | (with_reducible exact ih2 _ _ _ _ _ _ _ _ _ _ _)
   | (with_reducible exact impl_LockOwner.mono _ _ _)
   | (with_reducible exact LeO.refl _)
   | (with_reducible exact LeO.none _)
   | (with_reducible refine LeO.ite ?_ ?_)
   | (with_reducible refine LeO.bind ?_ (fun _ => ?_))
   | exact ih0 _ _ _ _ _ _ _ _ _ _ _
   | exact ih1 _ _ _ _ _ _ _ _ _ _ _ _
   | exact ih2 _ _ _ _ _ _ _ _ _ _ _
   | exact impl_LockOwner.mono _ _ _
   | exact LeO.none _
   | refine LeO.ite ?_ ?_
   | refine LeO.bind ?_ (fun _ => ?_)
def impl_Store_writeCode.T1 : Bool × List (List Nat × List Nat) := (true, [([], []), ([], []), ([0, 1], [0, 1]), ([], []), ([], []), ([3, 4, 2], [3, 4]), ([2, 5, 0, 1, 2], [2]), ([5, 6, 0, 1, 2, 3, 4, 5, 6], [5])])
def impl_Store_writeCode.B1 : List Nat := [0, 0, 3, 0, 0, 31, 63, 127]
theorem impl_Store_writeCode.tab1 : rtab .any (opsOf Try.f133 1) = impl_Store_writeCode.T1 := by kernel_rfl
theorem impl_Store_writeCode.bits1 : waitsOk impl_Store_writeCode.T1.2 impl_Store_writeCode.B1 = true := by kernel_rfl
def impl_Store_writeCode.T5 : Bool × List (List Nat × List Nat) := (true, [([], []), ([0], [0]), ([1], [1]), ([2], [2]), ([3], [3]), ([4, 3, 3], [3, 4]), ([5], [5]), ([6, 5], [5, 6]), ([7, 5], [5, 7]), ([8, 5], [5, 8]), ([5], [5]), ([10, 5], [5, 10]), ([9, 11, 5], [5, 9, 11]), ([5, 12, 3], [3, 5, 12]), ([3, 13], [3, 13]), ([14, 5], [14])])
def impl_Store_writeCode.B5 : List Nat := [0, 1, 3, 7, 15, 31, 63, 127, 255, 511, 63, 1087, 4095, 8191, 16383, 32767]
theorem impl_Store_writeCode.tab5 : rtab .any (opsOf Try.f133 5) = impl_Store_writeCode.T5 := by kernel_rfl
theorem impl_Store_writeCode.bits5 : waitsOk impl_Store_writeCode.T5.2 impl_Store_writeCode.B5 = true := by kernel_rfl
def impl_Store_writeCode.T7 : Bool × List (List Nat × List Nat) := (true, [([], []), ([0], [0]), ([1], [1]), ([2], [2]), ([3], [3]), ([4, 3], [3, 4]), ([5, 3], [3, 5]), ([6, 3], [3, 6]), ([3], [3]), ([8, 3], [3, 8]), ([7, 9, 3], [3, 7, 9]), ([3, 10], [3, 10]), ([11, 3], [11])])
def impl_Store_writeCode.B7 : List Nat := [0, 1, 3, 7, 15, 31, 63, 127, 15, 271, 1023, 2047, 4095]
theorem impl_Store_writeCode.tab7 : rtab .any (opsOf Try.f133 7) = impl_Store_writeCode.T7 := by kernel_rfl
theorem impl_Store_writeCode.bits7 : waitsOk impl_Store_writeCode.T7.2 impl_Store_writeCode.B7 = true := by kernel_rfl
set_option maxHeartbeats 8000000 in
set_option maxRecDepth 100000 in
theorem impl_Store_writeCode.calls (k : Nat) (A0_0 : Option Addr) (c0_0 : Nat) (l0_0 : List (List (S76))) (A1 : Option Addr) (c1 : Nat) (l1 : List (S150)) (a2_0 : Int) (a2_1 : Int) (a2_2 : Int) (a2_3 : Int) (a2_4 : Int) (a2_5 : Int) (a2_6 : Int) (A2_7 : Option Addr) (c2_7 : Nat) (l2_7 : List (S165)) (A2_8 : Option Addr) (c2_8 : Nat) (l2_8 : List (S133)) (a3 : Int) (r : Int) (w : World) (hr0_0 : Kd.C (Kd.slice 76 k76) w A0_0 l0_0.length l0_0) (hc0_0 : l0_0.length ≤ c0_0) (hr1 : Kd.C k150 w A1 l1.length l1) (hc1 : l1.length ≤ c1) (hr2_7 : Kd.C k165 w A2_7 l2_7.length l2_7) (hc2_7 : l2_7.length ≤ c2_7) (hr2_8 : Kd.C k133 w A2_8 l2_8.length l2_8) (hc2_8 : l2_8.length ≤ c2_8) (h : impl_Store_writeCode.f k l0_0 l1 a2_0 a2_1 a2_2 a2_3 a2_4 a2_5 a2_6 l2_7 l2_8 a3 = some r) :
  Calls Try.prog 133 #[.agg #[.slice A0_0 l0_0.length c0_0], .slice A1 l1.length c1, .agg #[.int .i64 a2_0, .int .i64 a2_1, .int .i64 a2_2, .int .i64 a2_3, .int .i64 a2_4, .int .i64 a2_5, .int .i64 a2_6, .slice A2_7 l2_7.length c2_7, .slice A2_8 l2_8.length c2_8], .int .i64 a3] w fun e w' => e = .returned (.int .i64 r) ∧ Below w.heap.size w w' := by
 have hu49 := Try.underlying49
 have hu68 := Try.underlying68
 have HR0_0 := AM_ hr0_0
 have HC0_0 := AM_ hc0_0
 clear hr0_0 hc0_0
 have HR1 := AM_ hr1
 have HC1 := AM_ hc1
 clear hr1 hc1
 have HR2_7 := AM_ hr2_7
 have HC2_7 := AM_ hc2_7
 clear hr2_7 hc2_7
 have HR2_8 := AM_ hr2_8
 have HC2_8 := AM_ hc2_8
 clear hr2_8 hc2_8
 have HB := AM_ (Below.refl w.heap.size w)
 have H : ((impl_LockOwner.f k l1 a3).bind fun t262 => ((impl_Store_latest.f l0_0 a3).bind fun bt => (if t262 = 0 then (impl_Store_writeCode.j0 k (bt.2.2.1, bt.2.2.2.1) false a2_0 a2_1 a2_2 a2_3 a2_4 a2_5 a2_6 l2_7 l2_8) else (impl_Store_writeCode.j0 k (bt.2.2.1, bt.2.2.2.1) (t262 != a2_0) a2_0 a2_1 a2_2 a2_3 a2_4 a2_5 a2_6 l2_7 l2_8)))) = some r := h
 clear h
 replace H := Option.bind_eq_some_iff.mp H
 obtain ⟨t262, A50, H⟩ := H
 replace H : ((impl_Store_latest.f l0_0 a3).bind fun bt => (if t262 = 0 then (impl_Store_writeCode.j0 k (bt.2.2.1, bt.2.2.2.1) false a2_0 a2_1 a2_2 a2_3 a2_4 a2_5 a2_6 l2_7 l2_8) else (impl_Store_writeCode.j0 k (bt.2.2.1, bt.2.2.2.1) (t262 != a2_0) a2_0 a2_1 a2_2 a2_3 a2_4 a2_5 a2_6 l2_7 l2_8))) = some r := H
 have A5 := AM_ A50
 clear A50
 replace H := Option.bind_eq_some_iff.mp H
 obtain ⟨⟨t1, t2, t3, t4, t5⟩, A60, H⟩ := H
 replace H : (if t262 = 0 then (impl_Store_writeCode.j0 k (t3, t4) false a2_0 a2_1 a2_2 a2_3 a2_4 a2_5 a2_6 l2_7 l2_8) else (impl_Store_writeCode.j0 k (t3, t4) (t262 != a2_0) a2_0 a2_1 a2_2 a2_3 a2_4 a2_5 a2_6 l2_7 l2_8)) = some r := H
 have A6 := AM_ A60
 clear A60
 obtain ⟨q3, q4, q6, q7, adO, adI, cI, eA, hx0, _, _, _, hx2, hx3, _⟩ := impl_Store_latest_at HR0_0.out A6.out
 subst eA
 obtain ⟨ji, hji⟩ : ∃ j : Int, j = wrap64 (((rd_L6 l0_0 a3).length : Int) - 1) := ⟨_, rfl⟩
 rw [← hji] at hx2 hx3
 have HX0 := AM_ hx0
 have HX2 := AM_ hx2
 have HX3 := AM_ hx3
 have HJ := AM_ hji
 have Q3 := AM_ q3
 have Q4 := AM_ q4
 have Q6 := AM_ q6
 have Q7 := AM_ q7
 clear hx0 hx2 hx3 q3 q4 q6 q7 hji
 have HC7 := AM_ H
 clear H
 go_enter Try.func133, Try.ntmps133
 try go_wp2_with (first | ((with_reducible refine gate_dst (N := 4) rfl ?_); refine box_event ?hg (N := 4) ?hd (cs := #[.slice (some adO) l0_0.length c0_0]) (t := 49) ?hr ?_; (case hd => rfl); (case hg => rfl); (case hr => first | (go_simp; done) | (go_simp; rfl)); intro gb260 hg w8 hbox hb; have BK260 := AM_ (hbox); have GW260 := AM_ ((GS HB.out hg)); have GE260 := AM_ ((GS HB.out hg)); replace HB := AM_ (below_step (BT HB.out) hb); clear hb hbox hg) | ((with_reducible refine gate_dst (N := 6) rfl ?_); refine box_event ?hg (N := 6) ?hd (cs := #[.int .i64 a2_0, .int .i64 a2_1, .int .i64 a2_2, .int .i64 a2_3, .int .i64 a2_4, .int .i64 a2_5, .int .i64 a2_6, .slice A2_7 l2_7.length c2_7, .slice A2_8 l2_8.length c2_8]) (t := 68) ?hr ?_; (case hd => rfl); (case hg => rfl); (case hr => first | (go_simp; done) | (go_simp; rfl)); intro gb261 hg w9 hbox hb; have BK261 := AM_ (hbox); have GW261 := AM_ ((GS HB.out hg)); have GE261 := AM_ ((GS HB.out hg)); replace HB := AM_ (below_step (BT HB.out) hb); have NB260_261 := AM_ ((NL BK260.out hg)); have NB261_260 := AM_ ((NG BK260.out hg)); replace BK260 := AM_ (BB BK260.out hb); clear hb hbox hg))
 replace BK260 := AM_ (blk_drew BK260.out)
 replace BK261 := AM_ (blk_drew BK261.out)
 replace HB := AM_ (below_drew1 HB.out)
 refine start_ (n := 8) (S := fun w' => w'.cell? ⟨gb260, 0, none⟩ = some (.slice (some adO) l0_0.length c0_0)) (ds := []) (bs 0 8) (by kernel_rfl) rfl rfl ((blk_cell BK260.out 0).trans rfl) (fun hHeld => ?_); refine with_tabW impl_Store_writeCode.tab1 impl_Store_writeCode.bits1 (fun HT_ HW_ => ?_)
 generalize w9.drew = w10 at BK260 BK261 HB hHeld ⊢
 refine pu (i := 0) (N := some 12) (v := ?_) (a' := ?_) (bs 1 8) rfl rfl HT_ ?_ ?_ ?_
 rotate_left
 ·intro w'
  go_simp
  with_reducible rfl
 rotate_left
 ·simp only [pA, pS, pZ, pK, i64_w, i32_w]
  rfl
 refine pu (i := 1) (N := some 13) (v := ?_) (a' := ?_) (bs 3 8) rfl rfl HT_ ?_ ?_ ?_
 rotate_left
 ·intro w'
  go_simp
  with_reducible rfl
 rotate_left
 ·simp only [pA, pS, pZ, pK, i64_w, i32_w]
  rfl
 refine pu (i := 4) (N := some 16) (v := ?_) (a' := ?_) (bs 19 8) rfl rfl HT_ ?_ ?_ ?_
 rotate_left
 ·intro w'
  go_simp
  with_reducible rfl
 rotate_left
 ·simp only [pA, pS, pZ, pK, i64_w, i32_w]
  rfl
 refine tk (i := 3) (N := some 15) (v := ?_) (a' := ?_) (bs 27 8) rfl rfl HT_ HW_ ?_ hHeld ?_ ?_
 rotate_left
 ·intro w' s0
  go_simp
  with_reducible rfl
 rotate_left
 ·simp only [pA, pS, pZ, pK, i64_w, i32_w]
  rfl
 refine one_ (i := 2) (N := some 14) (bs 31 8) rfl rfl (one_of HT_.out (by kernel_rfl)) (by decide) (fun K hK => ?_)
 refine goes_ Try.func193 (by kernel_rfl) rfl #[.slice A1 l1.length c1, .int .i64 a3] (by rfl) rfl rfl (by (try simp only [List.map_toArray, List.map_cons, List.map_nil]); first | done | rfl | (simp only [List.length_drop, List.length_take]; rfl)) ?_
 with_reducible refine (impl_LockOwner.calls k _ _ l1 a3 t262 _ ?side1 ?side2 A5.out).mono ?_
 (case side1 => exact CB HR1.out HB.out)
 (case side2 => exact HC1.out)
 rintro e w11 ⟨rfl, hb⟩
 refine ⟨_, rfl, ?_⟩
 replace BK260 := AM_ (BB BK260.out hb)
 replace BK261 := AM_ (BB BK261.out hb)
 replace HB := AM_ (below_step (BT HB.out) hb)
 (try clear hb)
 (try clear hb2)
 (try clear hk)
 (try clear hi)
 refine hK.out _ _ ((blk_cell BK260.out 0).trans rfl) (fun hHeld => ?_)
 clear hK K
 refine norm_ (a' := ?_) ?_ ?_
 rotate_left
 ·show Act.put _ (some 14) _ = _
  simp only [pA, pS, pZ, pK, i64_w, i32_w]
  rfl
 refine one_ (i := 5) (N := some 17) (bs 63 8) rfl rfl (one_of HT_.out (by kernel_rfl)) (by decide) (fun K hK => ?_)
 refine goes_ Try.func176 (by kernel_rfl) rfl #[.agg #[.slice (some adO) l0_0.length c0_0], .int .i64 a3] (by rfl) rfl rfl (by (try simp only [List.map_toArray, List.map_cons, List.map_nil]); first | done | rfl | (simp only [List.length_drop, List.length_take]; rfl)) ?_
 refine (impl_Store_latest.calls adO adI cI c0_0 l0_0 a3 _ Q3.out Q4.out Q6.out Q7.out ?side1).mono ?_
 (case side1 => exact (HB.out.cell (World.block_lt_of_cell? w _ HX0.out)).trans HX0.out)
 rintro e w12 ⟨he, hb⟩
 rw [← HJ.out] at he
 subst he
 refine ⟨_, rfl, ?_⟩
 replace BK260 := AM_ (BB BK260.out hb)
 replace BK261 := AM_ (BB BK261.out hb)
 replace HB := AM_ (below_step (BT HB.out) hb)
 (try clear hb)
 (try clear hb2)
 (try clear hk)
 (try clear hi)
 refine hK.out _ _ ((blk_cell BK260.out 0).trans rfl) (fun hHeld => ?_)
 clear hK K
 refine norm_ (a' := ?_) ?_ ?_
 rotate_left
 ·show Act.put _ (some 17) _ = _
  simp only [pA, pS, pZ, pK, i64_w, i32_w]
  rfl
 refine pu (i := 6) (N := some 9) (v := ?_) (a' := ?_) (bs 127 8) rfl rfl HT_ ?_ ?_ ?_
 rotate_left
 ·intro w'
  go_simp
  with_reducible rfl
 rotate_left
 ·simp only [pA, pS, pZ, pK, i64_w, i32_w]
  rfl
 refine pu (i := 7) (N := some 10) (v := ?_) (a' := ?_) (bs 255 8) rfl rfl HT_ ?_ ?_ ?_
 rotate_left
 ·intro w'
  go_simp
  with_reducible rfl
 rotate_left
 ·simp only [pA, pS, pZ, pK, i64_w, i32_w]
  rfl
 refine done_ (done_of HT_.out (by kernel_rfl)) ?_
 go_upto_region 2 with (fail)
 go_cut [11] (fun v11 wc => ∃ (kq : Nat) (x11_6 : Bool), v11 = .bool x11_6 ∧ Aside0 (impl_Store_writeCode.j0 kq (t3, t4) x11_6 a2_0 a2_1 a2_2 a2_3 a2_4 a2_5 a2_6 l2_7 l2_8 = some r) ∧ Aside0 (kq ≤ k) ∧ Aside0 (wc.heap[gb260]? = some (.cells #[(.slice (some adO) l0_0.length c0_0)] 49 (0, 0))) ∧ Aside0 (wc.heap[gb261]? = some (.cells #[.int .i64 a2_0, .int .i64 a2_1, .int .i64 a2_2, .int .i64 a2_3, .int .i64 a2_4, .int .i64 a2_5, .int .i64 a2_6, (.slice A2_7 l2_7.length c2_7), (.slice A2_8 l2_8.length c2_8)] 68 (0, 0))) ∧ Aside0 (Below w.heap.size w wc))
 case first =>
  have H := HC7.out
  clear HC7
  by_cases c13 : t262 = 0
  ·rw [if_pos c13] at H
   have c13b0 : (t262 == 0) = true := beq_iff_eq.mpr c13
   have c13b1 : (t262 != 0) = false := bne_eq_false_iff_eq.mpr c13
   clear c13
   (first | rw [c13b0] | (simp only [i64_w, i32_w]; rw [c13b0]) | skip)
   have H' := AM_ H
   clear H
   go_wp2
   go_meet
   case rel => exact ⟨_, (false), (by first | rfl | (simp; done) | (simp [*]; done)), H', ⟨by first | omega | exact Nat.le_refl _⟩, ⟨BH BK260.out⟩, ⟨BH BK261.out⟩, ⟨BT HB.out⟩⟩
  rw [if_neg c13] at H
  have c13b0 : (t262 == 0) = false := beq_eq_false_iff_ne.mpr c13
  have c13b1 : (t262 != 0) = true := bne_iff_ne.mpr c13
  (first | rw [c13b0] | (simp only [i64_w, i32_w]; rw [c13b0]) | skip)
  have H' := AM_ H
  clear H
  have hnb14 := NB261_260.out
  have hnc14 := NB260_261.out
  obtain ⟨hcz15_0, hcz15_1, hcz15_2, hcz15_3, hcz15_4, hcz15_5, hcz15_6, hcz15_7, hcz15_8, hfz15_0, hfz15_1, hfz15_2, hfz15_3, hfz15_4, hfz15_5, hfz15_6, hfz15_7, hfz15_8⟩ := bk9 BK261.out
  go_wp2
  go_meet
  case rel => exact ⟨_, ((t262 != a2_0)), (by first | rfl | (simp; done) | (simp [*]; done)), H', ⟨by first | omega | exact Nat.le_refl _⟩, ⟨BH BK260.out⟩, ⟨BH BK261.out⟩, ⟨BT HB.out⟩⟩
 case rest =>
  clear HC7
  try clear c1
  try clear c2
  try clear p2
  try clear c13
  try clear c13b0
  try clear c13b1
  try clear c14
  try clear hcz15_0
  try clear hcz15_1
  try clear hcz15_2
  try clear hcz15_3
  try clear hcz15_4
  try clear hcz15_5
  try clear hcz15_6
  try clear hcz15_7
  try clear hcz15_8
  try clear hfz15_0
  try clear hfz15_1
  try clear hfz15_2
  try clear hfz15_3
  try clear hfz15_4
  try clear hfz15_5
  try clear hfz15_6
  try clear hfz15_7
  try clear hfz15_8
  obtain ⟨kq, x11_6, rfl, HA, HJ6, BK260, BK261, HB⟩ := hcut
  cases kq with
  | zero => exact absurd HA.out (by simp [impl_Store_writeCode.j0])
  | succ kj6 =>
   have H := HA.out
   clear HA
   simp only [impl_Store_writeCode.j0] at H
   have HC16 := AM_ H
   clear H
   go_upto_region 3 with (fail)
   go_cut [26] (fun v26 wc => ∃ (kq : Nat) (x26_15 : Bool), v26 = .bool x26_15 ∧ Aside0 (impl_Store_writeCode.j1 kq (t3, t4) x11_6 x26_15 a2_0 a2_1 a2_2 a2_3 a2_4 a2_5 a2_6 l2_7 l2_8 = some r) ∧ Aside0 (kq ≤ kj6) ∧ Aside0 (wc.heap[gb260]? = some (.cells #[(.slice (some adO) l0_0.length c0_0)] 49 (0, 0))) ∧ Aside0 (wc.heap[gb261]? = some (.cells #[.int .i64 a2_0, .int .i64 a2_1, .int .i64 a2_2, .int .i64 a2_3, .int .i64 a2_4, .int .i64 a2_5, .int .i64 a2_6, (.slice A2_7 l2_7.length c2_7), (.slice A2_8 l2_8.length c2_8)] 68 (0, 0))) ∧ Aside0 (Below w.heap.size w wc))
   case first =>
    have H := HC16.out
    clear HC16
    by_cases c17 : a2_1 = 1
    rotate_left
    ·rw [if_neg c17] at H
     have c17b0 : (a2_1 == 1) = false := beq_eq_false_iff_ne.mpr c17
     have c17b1 : (a2_1 != 1) = true := bne_iff_ne.mpr c17
     (first | rw [c17b0] | (simp only [i64_w, i32_w]; rw [c17b0]) | skip)
     have H' := AM_ H
     clear H
     have hnb20 := NB261_260.out
     have hnc20 := NB260_261.out
     obtain ⟨hcz21_0, hcz21_1, hcz21_2, hcz21_3, hcz21_4, hcz21_5, hcz21_6, hcz21_7, hcz21_8, hfz21_0, hfz21_1, hfz21_2, hfz21_3, hfz21_4, hfz21_5, hfz21_6, hfz21_7, hfz21_8⟩ := bk9 BK261.out
     go_wp2
     go_meet
     case rel => exact ⟨_, (false), (by first | rfl | (simp; done) | (simp [*]; done)), H', ⟨by have := HJ6.out; first | omega | exact Nat.le_refl _⟩, ⟨BH BK260.out⟩, ⟨BH BK261.out⟩, ⟨BT HB.out⟩⟩
    rw [if_pos c17] at H
    have c17b0 : (a2_1 == 1) = true := beq_iff_eq.mpr c17
    have c17b1 : (a2_1 != 1) = false := bne_eq_false_iff_eq.mpr c17
    clear c17
    (first | rw [c17b0] | (simp only [i64_w, i32_w]; rw [c17b0]) | skip)
    have H' := AM_ H
    clear H
    have hnb18 := NB261_260.out
    have hnc18 := NB260_261.out
    obtain ⟨hcz19_0, hcz19_1, hcz19_2, hcz19_3, hcz19_4, hcz19_5, hcz19_6, hcz19_7, hcz19_8, hfz19_0, hfz19_1, hfz19_2, hfz19_3, hfz19_4, hfz19_5, hfz19_6, hfz19_7, hfz19_8⟩ := bk9 BK261.out
    go_wp2
    go_meet
    case rel => exact ⟨_, (x11_6), (by first | rfl | (simp; done) | (simp [*]; done)), H', ⟨by have := HJ6.out; first | omega | exact Nat.le_refl _⟩, ⟨BH BK260.out⟩, ⟨BH BK261.out⟩, ⟨BT HB.out⟩⟩
   case rest =>
    clear HC16
    try clear c1
    try clear c2
    try clear p2
    try clear c13
    try clear c13b0
    try clear c13b1
    try clear c14
    try clear c17
    try clear c17b0
    try clear c17b1
    try clear c18
    try clear c19
    try clear c20
    try clear hcz15_0
    try clear hcz15_1
    try clear hcz15_2
    try clear hcz15_3
    try clear hcz15_4
    try clear hcz15_5
    try clear hcz15_6
    try clear hcz15_7
    try clear hcz15_8
    try clear hcz19_0
    try clear hcz19_1
    try clear hcz19_2
    try clear hcz19_3
    try clear hcz19_4
    try clear hcz19_5
    try clear hcz19_6
    try clear hcz19_7
    try clear hcz19_8
    try clear hcz21_0
    try clear hcz21_1
    try clear hcz21_2
    try clear hcz21_3
    try clear hcz21_4
    try clear hcz21_5
    try clear hcz21_6
    try clear hcz21_7
    try clear hcz21_8
    try clear hfz15_0
    try clear hfz15_1
    try clear hfz15_2
    try clear hfz15_3
    try clear hfz15_4
    try clear hfz15_5
    try clear hfz15_6
    try clear hfz15_7
    try clear hfz15_8
    try clear hfz19_0
    try clear hfz19_1
    try clear hfz19_2
    try clear hfz19_3
    try clear hfz19_4
    try clear hfz19_5
    try clear hfz19_6
    try clear hfz19_7
    try clear hfz19_8
    try clear hfz21_0
    try clear hfz21_1
    try clear hfz21_2
    try clear hfz21_3
    try clear hfz21_4
    try clear hfz21_5
    try clear hfz21_6
    try clear hfz21_7
    try clear hfz21_8
    try clear p2
    obtain ⟨kq, x26_15, rfl, HA, HJ15, BK260, BK261, HB⟩ := hcut
    cases kq with
    | zero => exact absurd HA.out (by simp [impl_Store_writeCode.j1])
    | succ kj15 =>
     have H := HA.out
     clear HA
     simp only [impl_Store_writeCode.j1] at H
     by_cases c22 : x26_15 = true
     ·subst c22
      have H1 : (some 1) = some r := by rw [if_pos rfl] at H; exact H
      clear H
      have H := H1
      clear H1
      obtain rfl := Option.some.inj H
      go_wp2
      go_ret
      exact QT (BT HB.out)
     replace c22 := Bool.eq_false_iff.mpr c22
     subst c22
     have H1 : (if a2_1 = 2 then (if x11_6 = true then (impl_Store_writeCode.j2 kj15 (t3, t4) true a2_0 a2_1 a2_2 a2_3 a2_4 a2_5 a2_6 l2_7 l2_8) else (impl_Store_writeCode.j2 kj15 (t3, t4) (decide (t3 > a2_3)) a2_0 a2_1 a2_2 a2_3 a2_4 a2_5 a2_6 l2_7 l2_8)) else (impl_Store_writeCode.j2 kj15 (t3, t4) false a2_0 a2_1 a2_2 a2_3 a2_4 a2_5 a2_6 l2_7 l2_8)) = some r := by rw [if_neg (show ¬ (false = true) by decide)] at H; exact H
     clear H
     have H := H1
     clear H1
     have HC23 := AM_ H
     clear H
     go_upto_region 5 with (fail)
     go_cut [33] (fun v33 wc => ∃ (kq : Nat) (x33_22 : Bool), v33 = .bool x33_22 ∧ Aside0 (impl_Store_writeCode.j2 kq (t3, t4) x33_22 a2_0 a2_1 a2_2 a2_3 a2_4 a2_5 a2_6 l2_7 l2_8 = some r) ∧ Aside0 (kq ≤ kj15) ∧ Aside0 (wc.heap[gb260]? = some (.cells #[(.slice (some adO) l0_0.length c0_0)] 49 (0, 0))) ∧ Aside0 (wc.heap[gb261]? = some (.cells #[.int .i64 a2_0, .int .i64 a2_1, .int .i64 a2_2, .int .i64 a2_3, .int .i64 a2_4, .int .i64 a2_5, .int .i64 a2_6, (.slice A2_7 l2_7.length c2_7), (.slice A2_8 l2_8.length c2_8)] 68 (0, 0))) ∧ Aside0 (Below w.heap.size w wc))
     case first =>
      have H := HC23.out
      clear HC23
      by_cases c24 : a2_1 = 2
      rotate_left
      ·rw [if_neg c24] at H
       have c24b0 : (a2_1 == 2) = false := beq_eq_false_iff_ne.mpr c24
       have c24b1 : (a2_1 != 2) = true := bne_iff_ne.mpr c24
       (first | rw [c24b0] | (simp only [i64_w, i32_w]; rw [c24b0]) | skip)
       have H' := AM_ H
       clear H
       try go_wp2
       replace BK260 := AM_ (blk_drew BK260.out)
       replace BK261 := AM_ (blk_drew BK261.out)
       replace HB := AM_ (below_drew1 HB.out)
       refine start_ (n := 16) (S := fun w' => w'.cell? ⟨gb261, 0, none⟩ = some (.int .i64 a2_0) ∧ w'.cell? ⟨gb261, 1, none⟩ = some (.int .i64 a2_1) ∧ w'.cell? ⟨gb261, 2, none⟩ = some (.int .i64 a2_2) ∧ w'.cell? ⟨gb261, 3, none⟩ = some (.int .i64 a2_3) ∧ w'.cell? ⟨gb261, 4, none⟩ = some (.int .i64 a2_4) ∧ w'.cell? ⟨gb261, 5, none⟩ = some (.int .i64 a2_5) ∧ w'.cell? ⟨gb261, 6, none⟩ = some (.int .i64 a2_6) ∧ w'.cell? ⟨gb261, 7, none⟩ = some (.slice A2_7 l2_7.length c2_7) ∧ w'.cell? ⟨gb261, 8, none⟩ = some (.slice A2_8 l2_8.length c2_8) ∧ w'.cell? ⟨(adI.add (ji.toNat * 5)).block, (adI.add (ji.toNat * 5)).off + 2, none⟩ = some (.int .i64 t3) ∧ w'.cell? ⟨(adI.add (ji.toNat * 5)).block, (adI.add (ji.toNat * 5)).off + 3, none⟩ = some (.int .i64 t4)) (ds := []) (bs 0 16) (by kernel_rfl) rfl rfl ⟨bc BK261.out 0, bc BK261.out 1, bc BK261.out 2, bc BK261.out 3, bc BK261.out 4, bc BK261.out 5, bc BK261.out 6, bc BK261.out 7, bc BK261.out 8, (HB.out.cell (World.block_lt_of_cell? w _ HX2.out)).trans HX2.out, (HB.out.cell (World.block_lt_of_cell? w _ HX3.out)).trans HX3.out⟩ (fun hHeld => ?_); refine with_tabW impl_Store_writeCode.tab5 impl_Store_writeCode.bits5 (fun HT_ HW_ => ?_)
       generalize wc.drew = w28 at BK260 BK261 HB hHeld ⊢
       refine pu (i := 0) (N := some 34) (v := ?_) (a' := ?_) (bs 1 16) rfl rfl HT_ ?_ ?_ ?_
       rotate_left
       ·intro w'
        go_simp
        with_reducible rfl
       rotate_left
       ·simp only [pA, pS, pZ, pK, i64_w, i32_w]
        rfl
       refine tk (i := 1) (N := some 35) (v := ?_) (a' := ?_) (bs 3 16) rfl rfl HT_ HW_ ?_ hHeld ?_ ?_
       rotate_left
       ·rintro w' ⟨s0, s1, s2, s3, s4, s5, s6, s7, s8, s9, s10⟩
        go_simp
        with_reducible rfl
       rotate_left
       ·simp only [pA, pS, pZ, pK, i64_w, i32_w]
        rfl
       refine pu (i := 2) (N := some 36) (v := ?_) (a' := ?_) (bs 7 16) rfl rfl HT_ ?_ ?_ ?_
       rotate_left
       ·intro w'
        go_simp
        with_reducible rfl
       rotate_left
       ·simp only [pA, pS, pZ, pK, i64_w, i32_w]
        rfl
       refine pu (i := 3) (N := some 37) (v := ?_) (a' := ?_) (bs 15 16) rfl rfl HT_ ?_ ?_ ?_
       rotate_left
       ·intro w'
        go_simp
        with_reducible rfl
       rotate_left
       ·simp only [pA, pS, pZ, pK, i64_w, i32_w]
        rfl
       refine pn (i := 4) (N := some 38) (v := undef) (a' := ?_) (bs 31 16) rfl rfl HT_ ?_ ?_
       rotate_left
       ·simp only [pA, pS, pZ, pK, i64_w, i32_w]
        rfl
       refine pn (i := 5) (N := some 39) (v := undef) (a' := ?_) (bs 63 16) rfl rfl HT_ ?_ ?_
       rotate_left
       ·simp only [pA, pS, pZ, pK, i64_w, i32_w]
        rfl
       refine pn (i := 6) (N := some 40) (v := undef) (a' := ?_) (bs 127 16) rfl rfl HT_ ?_ ?_
       rotate_left
       ·simp only [pA, pS, pZ, pK, i64_w, i32_w]
        rfl
       refine pn (i := 7) (N := some 41) (v := undef) (a' := ?_) (bs 255 16) rfl rfl HT_ ?_ ?_
       rotate_left
       ·simp only [pA, pS, pZ, pK, i64_w, i32_w]
        rfl
       refine pn (i := 8) (N := some 42) (v := undef) (a' := ?_) (bs 511 16) rfl rfl HT_ ?_ ?_
       rotate_left
       ·simp only [pA, pS, pZ, pK, i64_w, i32_w]
        rfl
       refine pn (i := 9) (N := some 43) (v := undef) (a' := ?_) (bs 1023 16) rfl rfl HT_ ?_ ?_
       rotate_left
       ·simp only [pA, pS, pZ, pK, i64_w, i32_w]
        rfl
       refine pn (i := 10) (N := some 44) (v := undef) (a' := ?_) (bs 2047 16) rfl rfl HT_ ?_ ?_
       rotate_left
       ·simp only [pA, pS, pZ, pK, i64_w, i32_w]
        rfl
       refine pn (i := 11) (N := some 45) (v := undef) (a' := ?_) (bs 4095 16) rfl rfl HT_ ?_ ?_
       rotate_left
       ·simp only [pA, pS, pZ, pK, i64_w, i32_w]
        rfl
       refine pn (i := 12) (N := some 46) (v := undef) (a' := ?_) (bs 8191 16) rfl rfl HT_ ?_ ?_
       rotate_left
       ·simp only [pA, pS, pZ, pK, i64_w, i32_w]
        rfl
       refine pn (i := 13) (N := some 47) (v := undef) (a' := ?_) (bs 16383 16) rfl rfl HT_ ?_ ?_
       rotate_left
       ·simp only [pA, pS, pZ, pK, i64_w, i32_w]
        rfl
       refine pu (i := 14) (N := some 48) (v := ?_) (a' := ?_) (bs 32767 16) rfl rfl HT_ ?_ ?_ ?_
       rotate_left
       ·intro w'
        go_simp
        with_reducible rfl
       rotate_left
       ·simp only [pA, pS, pZ, pK, i64_w, i32_w]
        rfl
       refine pu (i := 15) (N := some 33) (v := ?_) (a' := ?_) (bs 65535 16) rfl rfl HT_ ?_ ?_ ?_
       rotate_left
       ·intro w'
        go_simp
        with_reducible rfl
       rotate_left
       ·simp only [pA, pS, pZ, pK, i64_w, i32_w]
        rfl
       refine done_ (done_of HT_.out (by kernel_rfl)) ?_
       try go_wp2
       go_meet
       case rel => exact ⟨_, (false), (by first | rfl | (simp; done) | (simp [*]; done)), H', ⟨by have := HJ6.out; have := HJ15.out; first | omega | exact Nat.le_refl _⟩, ⟨BH BK260.out⟩, ⟨BH BK261.out⟩, ⟨BT HB.out⟩⟩
      rw [if_pos c24] at H
      have c24b0 : (a2_1 == 2) = true := beq_iff_eq.mpr c24
      have c24b1 : (a2_1 != 2) = false := bne_eq_false_iff_eq.mpr c24
      clear c24
      (first | rw [c24b0] | (simp only [i64_w, i32_w]; rw [c24b0]) | skip)
      by_cases c25 : x11_6 = true
      ·subst c25
       have H1 : (impl_Store_writeCode.j2 kj15 (t3, t4) true a2_0 a2_1 a2_2 a2_3 a2_4 a2_5 a2_6 l2_7 l2_8) = some r := by rw [if_pos rfl] at H; exact H
       clear H
       have H := H1
       clear H1
       have H' := AM_ H
       clear H
       try go_wp2
       replace BK260 := AM_ (blk_drew BK260.out)
       replace BK261 := AM_ (blk_drew BK261.out)
       replace HB := AM_ (below_drew1 HB.out)
       refine start_ (n := 16) (S := fun w' => w'.cell? ⟨gb261, 0, none⟩ = some (.int .i64 a2_0) ∧ w'.cell? ⟨gb261, 1, none⟩ = some (.int .i64 a2_1) ∧ w'.cell? ⟨gb261, 2, none⟩ = some (.int .i64 a2_2) ∧ w'.cell? ⟨gb261, 3, none⟩ = some (.int .i64 a2_3) ∧ w'.cell? ⟨gb261, 4, none⟩ = some (.int .i64 a2_4) ∧ w'.cell? ⟨gb261, 5, none⟩ = some (.int .i64 a2_5) ∧ w'.cell? ⟨gb261, 6, none⟩ = some (.int .i64 a2_6) ∧ w'.cell? ⟨gb261, 7, none⟩ = some (.slice A2_7 l2_7.length c2_7) ∧ w'.cell? ⟨gb261, 8, none⟩ = some (.slice A2_8 l2_8.length c2_8) ∧ w'.cell? ⟨(adI.add (ji.toNat * 5)).block, (adI.add (ji.toNat * 5)).off + 2, none⟩ = some (.int .i64 t3) ∧ w'.cell? ⟨(adI.add (ji.toNat * 5)).block, (adI.add (ji.toNat * 5)).off + 3, none⟩ = some (.int .i64 t4)) (ds := []) (bs 0 16) (by kernel_rfl) rfl rfl ⟨bc BK261.out 0, bc BK261.out 1, bc BK261.out 2, bc BK261.out 3, bc BK261.out 4, bc BK261.out 5, bc BK261.out 6, bc BK261.out 7, bc BK261.out 8, (HB.out.cell (World.block_lt_of_cell? w _ HX2.out)).trans HX2.out, (HB.out.cell (World.block_lt_of_cell? w _ HX3.out)).trans HX3.out⟩ (fun hHeld => ?_); refine with_tabW impl_Store_writeCode.tab5 impl_Store_writeCode.bits5 (fun HT_ HW_ => ?_)
       generalize wc.drew = w26 at BK260 BK261 HB hHeld ⊢
       refine pu (i := 0) (N := some 34) (v := ?_) (a' := ?_) (bs 1 16) rfl rfl HT_ ?_ ?_ ?_
       rotate_left
       ·intro w'
        go_simp
        with_reducible rfl
       rotate_left
       ·simp only [pA, pS, pZ, pK, i64_w, i32_w]
        rfl
       refine tk (i := 1) (N := some 35) (v := ?_) (a' := ?_) (bs 3 16) rfl rfl HT_ HW_ ?_ hHeld ?_ ?_
       rotate_left
       ·rintro w' ⟨s0, s1, s2, s3, s4, s5, s6, s7, s8, s9, s10⟩
        go_simp
        with_reducible rfl
       rotate_left
       ·simp only [pA, pS, pZ, pK, i64_w, i32_w]
        rfl
       refine pu (i := 2) (N := some 36) (v := ?_) (a' := ?_) (bs 7 16) rfl rfl HT_ ?_ ?_ ?_
       rotate_left
       ·intro w'
        go_simp
        with_reducible rfl
       rotate_left
       ·simp only [pA, pS, pZ, pK, i64_w, i32_w]
        rfl
       refine pu (i := 3) (N := some 37) (v := ?_) (a' := ?_) (bs 15 16) rfl rfl HT_ ?_ ?_ ?_
       rotate_left
       ·intro w'
        go_simp
        with_reducible rfl
       rotate_left
       ·simp only [pA, pS, pZ, pK, i64_w, i32_w]
        rfl
       refine pu (i := 4) (N := some 38) (v := ?_) (a' := ?_) (bs 31 16) rfl rfl HT_ ?_ ?_ ?_
       rotate_left
       ·intro w'
        go_simp
        with_reducible rfl
       rotate_left
       ·simp only [pA, pS, pZ, pK, i64_w, i32_w]
        rfl
       refine pu (i := 5) (N := some 39) (v := ?_) (a' := ?_) (bs 63 16) rfl rfl HT_ ?_ ?_ ?_
       rotate_left
       ·intro w'
        go_simp
        with_reducible rfl
       rotate_left
       ·simp only [pA, pS, pZ, pK, i64_w, i32_w]
        rfl
       refine pn (i := 6) (N := some 40) (v := undef) (a' := ?_) (bs 127 16) rfl rfl HT_ ?_ ?_
       rotate_left
       ·simp only [pA, pS, pZ, pK, i64_w, i32_w]
        rfl
       refine pn (i := 7) (N := some 41) (v := undef) (a' := ?_) (bs 255 16) rfl rfl HT_ ?_ ?_
       rotate_left
       ·simp only [pA, pS, pZ, pK, i64_w, i32_w]
        rfl
       refine pn (i := 8) (N := some 42) (v := undef) (a' := ?_) (bs 511 16) rfl rfl HT_ ?_ ?_
       rotate_left
       ·simp only [pA, pS, pZ, pK, i64_w, i32_w]
        rfl
       refine pn (i := 9) (N := some 43) (v := undef) (a' := ?_) (bs 1023 16) rfl rfl HT_ ?_ ?_
       rotate_left
       ·simp only [pA, pS, pZ, pK, i64_w, i32_w]
        rfl
       refine pn (i := 10) (N := some 44) (v := undef) (a' := ?_) (bs 2047 16) rfl rfl HT_ ?_ ?_
       rotate_left
       ·simp only [pA, pS, pZ, pK, i64_w, i32_w]
        rfl
       refine pn (i := 11) (N := some 45) (v := undef) (a' := ?_) (bs 4095 16) rfl rfl HT_ ?_ ?_
       rotate_left
       ·simp only [pA, pS, pZ, pK, i64_w, i32_w]
        rfl
       refine pn (i := 12) (N := some 46) (v := undef) (a' := ?_) (bs 8191 16) rfl rfl HT_ ?_ ?_
       rotate_left
       ·simp only [pA, pS, pZ, pK, i64_w, i32_w]
        rfl
       refine pu (i := 13) (N := some 47) (v := ?_) (a' := ?_) (bs 16383 16) rfl rfl HT_ ?_ ?_ ?_
       rotate_left
       ·intro w'
        go_simp
        with_reducible rfl
       rotate_left
       ·simp only [pA, pS, pZ, pK, i64_w, i32_w]
        rfl
       refine pu (i := 14) (N := some 48) (v := ?_) (a' := ?_) (bs 32767 16) rfl rfl HT_ ?_ ?_ ?_
       rotate_left
       ·intro w'
        go_simp
        with_reducible rfl
       rotate_left
       ·simp only [pA, pS, pZ, pK, i64_w, i32_w]
        rfl
       refine pu (i := 15) (N := some 33) (v := ?_) (a' := ?_) (bs 65535 16) rfl rfl HT_ ?_ ?_ ?_
       rotate_left
       ·intro w'
        go_simp
        with_reducible rfl
       rotate_left
       ·simp only [pA, pS, pZ, pK, i64_w, i32_w]
        rfl
       refine done_ (done_of HT_.out (by kernel_rfl)) ?_
       try go_wp2
       go_meet
       case rel => exact ⟨_, (true), (by first | rfl | (simp; done) | (simp [*]; done)), H', ⟨by have := HJ6.out; have := HJ15.out; first | omega | exact Nat.le_refl _⟩, ⟨BH BK260.out⟩, ⟨BH BK261.out⟩, ⟨BT HB.out⟩⟩
      replace c25 := Bool.eq_false_iff.mpr c25
      subst c25
      have H1 : (impl_Store_writeCode.j2 kj15 (t3, t4) (decide (t3 > a2_3)) a2_0 a2_1 a2_2 a2_3 a2_4 a2_5 a2_6 l2_7 l2_8) = some r := by rw [if_neg (show ¬ (false = true) by decide)] at H; exact H
      clear H
      have H := H1
      clear H1
      have H' := AM_ H
      clear H
      try go_wp2
      replace BK260 := AM_ (blk_drew BK260.out)
      replace BK261 := AM_ (blk_drew BK261.out)
      replace HB := AM_ (below_drew1 HB.out)
      refine start_ (n := 16) (S := fun w' => w'.cell? ⟨gb261, 0, none⟩ = some (.int .i64 a2_0) ∧ w'.cell? ⟨gb261, 1, none⟩ = some (.int .i64 a2_1) ∧ w'.cell? ⟨gb261, 2, none⟩ = some (.int .i64 a2_2) ∧ w'.cell? ⟨gb261, 3, none⟩ = some (.int .i64 a2_3) ∧ w'.cell? ⟨gb261, 4, none⟩ = some (.int .i64 a2_4) ∧ w'.cell? ⟨gb261, 5, none⟩ = some (.int .i64 a2_5) ∧ w'.cell? ⟨gb261, 6, none⟩ = some (.int .i64 a2_6) ∧ w'.cell? ⟨gb261, 7, none⟩ = some (.slice A2_7 l2_7.length c2_7) ∧ w'.cell? ⟨gb261, 8, none⟩ = some (.slice A2_8 l2_8.length c2_8) ∧ w'.cell? ⟨(adI.add (ji.toNat * 5)).block, (adI.add (ji.toNat * 5)).off + 2, none⟩ = some (.int .i64 t3) ∧ w'.cell? ⟨(adI.add (ji.toNat * 5)).block, (adI.add (ji.toNat * 5)).off + 3, none⟩ = some (.int .i64 t4)) (ds := []) (bs 0 16) (by kernel_rfl) rfl rfl ⟨bc BK261.out 0, bc BK261.out 1, bc BK261.out 2, bc BK261.out 3, bc BK261.out 4, bc BK261.out 5, bc BK261.out 6, bc BK261.out 7, bc BK261.out 8, (HB.out.cell (World.block_lt_of_cell? w _ HX2.out)).trans HX2.out, (HB.out.cell (World.block_lt_of_cell? w _ HX3.out)).trans HX3.out⟩ (fun hHeld => ?_); refine with_tabW impl_Store_writeCode.tab5 impl_Store_writeCode.bits5 (fun HT_ HW_ => ?_)
      generalize wc.drew = w27 at BK260 BK261 HB hHeld ⊢
      refine pu (i := 0) (N := some 34) (v := ?_) (a' := ?_) (bs 1 16) rfl rfl HT_ ?_ ?_ ?_
      rotate_left
      ·intro w'
       go_simp
       with_reducible rfl
      rotate_left
      ·simp only [pA, pS, pZ, pK, i64_w, i32_w]
       rfl
      refine tk (i := 1) (N := some 35) (v := ?_) (a' := ?_) (bs 3 16) rfl rfl HT_ HW_ ?_ hHeld ?_ ?_
      rotate_left
      ·rintro w' ⟨s0, s1, s2, s3, s4, s5, s6, s7, s8, s9, s10⟩
       go_simp
       with_reducible rfl
      rotate_left
      ·simp only [pA, pS, pZ, pK, i64_w, i32_w]
       rfl
      refine pu (i := 2) (N := some 36) (v := ?_) (a' := ?_) (bs 7 16) rfl rfl HT_ ?_ ?_ ?_
      rotate_left
      ·intro w'
       go_simp
       with_reducible rfl
      rotate_left
      ·simp only [pA, pS, pZ, pK, i64_w, i32_w]
       rfl
      refine pu (i := 3) (N := some 37) (v := ?_) (a' := ?_) (bs 15 16) rfl rfl HT_ ?_ ?_ ?_
      rotate_left
      ·intro w'
       go_simp
       with_reducible rfl
      rotate_left
      ·simp only [pA, pS, pZ, pK, i64_w, i32_w]
       rfl
      refine pu (i := 4) (N := some 38) (v := ?_) (a' := ?_) (bs 31 16) rfl rfl HT_ ?_ ?_ ?_
      rotate_left
      ·intro w'
       go_simp
       with_reducible rfl
      rotate_left
      ·simp only [pA, pS, pZ, pK, i64_w, i32_w]
       rfl
      refine pu (i := 5) (N := some 39) (v := ?_) (a' := ?_) (bs 63 16) rfl rfl HT_ ?_ ?_ ?_
      rotate_left
      ·intro w'
       go_simp
       with_reducible rfl
      rotate_left
      ·simp only [pA, pS, pZ, pK, i64_w, i32_w]
       rfl
      refine pu (i := 6) (N := some 40) (v := ?_) (a' := ?_) (bs 127 16) rfl rfl HT_ ?_ ?_ ?_
      rotate_left
      ·intro w'
       go_simp
       with_reducible rfl
      rotate_left
      ·simp only [pA, pS, pZ, pK, i64_w, i32_w]
       rfl
      refine pu (i := 7) (N := some 41) (v := ?_) (a' := ?_) (bs 255 16) rfl rfl HT_ ?_ ?_ ?_
      rotate_left
      ·intro w'
       go_simp
       with_reducible rfl
      rotate_left
      ·simp only [pA, pS, pZ, pK, i64_w, i32_w]
       rfl
      refine pu (i := 8) (N := some 42) (v := ?_) (a' := ?_) (bs 511 16) rfl rfl HT_ ?_ ?_ ?_
      rotate_left
      ·intro w'
       go_simp
       with_reducible rfl
      rotate_left
      ·simp only [pA, pS, pZ, pK, i64_w, i32_w]
       rfl
      refine tk (i := 9) (N := some 43) (v := ?_) (a' := ?_) (bs 1023 16) rfl rfl HT_ HW_ ?_ hHeld ?_ ?_
      rotate_left
      ·rintro w' ⟨s0, s1, s2, s3, s4, s5, s6, s7, s8, s9, s10⟩
       go_simp
       with_reducible rfl
      rotate_left
      ·simp only [pA, pS, pZ, pK, i64_w, i32_w]
       rfl
      refine pu (i := 10) (N := some 44) (v := ?_) (a' := ?_) (bs 2047 16) rfl rfl HT_ ?_ ?_ ?_
      rotate_left
      ·intro w'
       go_simp
       with_reducible rfl
      rotate_left
      ·simp only [pA, pS, pZ, pK, i64_w, i32_w]
       rfl
      refine tk (i := 11) (N := some 45) (v := ?_) (a' := ?_) (bs 4095 16) rfl rfl HT_ HW_ ?_ hHeld ?_ ?_
      rotate_left
      ·rintro w' ⟨s0, s1, s2, s3, s4, s5, s6, s7, s8, s9, s10⟩
       go_simp
       with_reducible rfl
      rotate_left
      ·simp only [pA, pS, pZ, pK, i64_w, i32_w]
       rfl
      refine pu (i := 12) (N := some 46) (v := ?_) (a' := ?_) (bs 8191 16) rfl rfl HT_ ?_ ?_ ?_
      rotate_left
      ·intro w'
       go_simp
       with_reducible rfl
      rotate_left
      ·simp only [pA, pS, pZ, pK, i64_w, i32_w]
       rfl
      refine pu (i := 13) (N := some 47) (v := ?_) (a' := ?_) (bs 16383 16) rfl rfl HT_ ?_ ?_ ?_
      rotate_left
      ·intro w'
       go_simp
       with_reducible rfl
      rotate_left
      ·simp only [pA, pS, pZ, pK, i64_w, i32_w]
       rfl
      refine pu (i := 14) (N := some 48) (v := ?_) (a' := ?_) (bs 32767 16) rfl rfl HT_ ?_ ?_ ?_
      rotate_left
      ·intro w'
       go_simp
       with_reducible rfl
      rotate_left
      ·simp only [pA, pS, pZ, pK, i64_w, i32_w]
       rfl
      refine pu (i := 15) (N := some 33) (v := ?_) (a' := ?_) (bs 65535 16) rfl rfl HT_ ?_ ?_ ?_
      rotate_left
      ·intro w'
       go_simp
       with_reducible rfl
      rotate_left
      ·simp only [pA, pS, pZ, pK, i64_w, i32_w]
       rfl
      refine done_ (done_of HT_.out (by kernel_rfl)) ?_
      try go_wp2
      go_meet
      case rel => exact ⟨_, (decide (t3 > a2_3)), (by first | rfl | (simp; done) | (simp [*]; done)), H', ⟨by have := HJ6.out; have := HJ15.out; first | omega | exact Nat.le_refl _⟩, ⟨BH BK260.out⟩, ⟨BH BK261.out⟩, ⟨BT HB.out⟩⟩
     case rest =>
      clear HC23
      try clear c1
      try clear c2
      try clear p2
      try clear c13
      try clear c13b0
      try clear c13b1
      try clear c14
      try clear c17
      try clear c17b0
      try clear c17b1
      try clear c18
      try clear c19
      try clear c20
      try clear c22
      try clear c24
      try clear c24b0
      try clear c24b1
      try clear c25
      try clear hcz15_0
      try clear hcz15_1
      try clear hcz15_2
      try clear hcz15_3
      try clear hcz15_4
      try clear hcz15_5
      try clear hcz15_6
      try clear hcz15_7
      try clear hcz15_8
      try clear hcz19_0
      try clear hcz19_1
      try clear hcz19_2
      try clear hcz19_3
      try clear hcz19_4
      try clear hcz19_5
      try clear hcz19_6
      try clear hcz19_7
      try clear hcz19_8
      try clear hcz21_0
      try clear hcz21_1
      try clear hcz21_2
      try clear hcz21_3
      try clear hcz21_4
      try clear hcz21_5
      try clear hcz21_6
      try clear hcz21_7
      try clear hcz21_8
      try clear hfz15_0
      try clear hfz15_1
      try clear hfz15_2
      try clear hfz15_3
      try clear hfz15_4
      try clear hfz15_5
      try clear hfz15_6
      try clear hfz15_7
      try clear hfz15_8
      try clear hfz19_0
      try clear hfz19_1
      try clear hfz19_2
      try clear hfz19_3
      try clear hfz19_4
      try clear hfz19_5
      try clear hfz19_6
      try clear hfz19_7
      try clear hfz19_8
      try clear hfz21_0
      try clear hfz21_1
      try clear hfz21_2
      try clear hfz21_3
      try clear hfz21_4
      try clear hfz21_5
      try clear hfz21_6
      try clear hfz21_7
      try clear hfz21_8
      try clear p2
      obtain ⟨kq, x33_22, rfl, HA, HJ22, BK260, BK261, HB⟩ := hcut
      cases kq with
      | zero => exact absurd HA.out (by simp [impl_Store_writeCode.j2])
      | succ kj22 =>
       have H := HA.out
       clear HA
       simp only [impl_Store_writeCode.j2] at H
       by_cases c29 : x33_22 = true
       ·subst c29
        have H1 : (some 2) = some r := by rw [if_pos rfl] at H; exact H
        clear H
        have H := H1
        clear H1
        obtain rfl := Option.some.inj H
        go_wp2
        go_ret
        exact QT (BT HB.out)
       replace c29 := Bool.eq_false_iff.mpr c29
       subst c29
       have H1 : (if a2_1 = 4 then (if t4 > a2_3 then (some 3) else (some 0)) else (some 0)) = some r := by rw [if_neg (show ¬ (false = true) by decide)] at H; exact H
       clear H
       have H := H1
       clear H1
       by_cases c30 : a2_1 = 4
       rotate_left
       ·rw [if_neg c30] at H
        have c30b0 : (a2_1 == 4) = false := beq_eq_false_iff_ne.mpr c30
        have c30b1 : (a2_1 != 4) = true := bne_iff_ne.mpr c30
        obtain rfl := Option.some.inj H
        try go_wp2
        replace BK260 := AM_ (blk_drew BK260.out)
        replace BK261 := AM_ (blk_drew BK261.out)
        replace HB := AM_ (below_drew1 HB.out)
        refine start_ (n := 13) (S := fun w' => w'.cell? ⟨gb261, 0, none⟩ = some (.int .i64 a2_0) ∧ w'.cell? ⟨gb261, 1, none⟩ = some (.int .i64 a2_1) ∧ w'.cell? ⟨gb261, 2, none⟩ = some (.int .i64 a2_2) ∧ w'.cell? ⟨gb261, 3, none⟩ = some (.int .i64 a2_3) ∧ w'.cell? ⟨gb261, 4, none⟩ = some (.int .i64 a2_4) ∧ w'.cell? ⟨gb261, 5, none⟩ = some (.int .i64 a2_5) ∧ w'.cell? ⟨gb261, 6, none⟩ = some (.int .i64 a2_6) ∧ w'.cell? ⟨gb261, 7, none⟩ = some (.slice A2_7 l2_7.length c2_7) ∧ w'.cell? ⟨gb261, 8, none⟩ = some (.slice A2_8 l2_8.length c2_8) ∧ w'.cell? ⟨(adI.add (ji.toNat * 5)).block, (adI.add (ji.toNat * 5)).off + 2, none⟩ = some (.int .i64 t3) ∧ w'.cell? ⟨(adI.add (ji.toNat * 5)).block, (adI.add (ji.toNat * 5)).off + 3, none⟩ = some (.int .i64 t4)) (ds := []) (bs 0 13) (by kernel_rfl) rfl rfl ⟨bc BK261.out 0, bc BK261.out 1, bc BK261.out 2, bc BK261.out 3, bc BK261.out 4, bc BK261.out 5, bc BK261.out 6, bc BK261.out 7, bc BK261.out 8, (HB.out.cell (World.block_lt_of_cell? w _ HX2.out)).trans HX2.out, (HB.out.cell (World.block_lt_of_cell? w _ HX3.out)).trans HX3.out⟩ (fun hHeld => ?_); refine with_tabW impl_Store_writeCode.tab7 impl_Store_writeCode.bits7 (fun HT_ HW_ => ?_)
        generalize wc.drew = w34 at BK260 BK261 HB hHeld ⊢
        refine pu (i := 0) (N := some 50) (v := ?_) (a' := ?_) (bs 1 13) rfl rfl HT_ ?_ ?_ ?_
        rotate_left
        ·intro w'
         go_simp
         with_reducible rfl
        rotate_left
        ·simp only [pA, pS, pZ, pK, i64_w, i32_w]
         rfl
        refine tk (i := 1) (N := some 51) (v := ?_) (a' := ?_) (bs 3 13) rfl rfl HT_ HW_ ?_ hHeld ?_ ?_
        rotate_left
        ·rintro w' ⟨s0, s1, s2, s3, s4, s5, s6, s7, s8, s9, s10⟩
         go_simp
         with_reducible rfl
        rotate_left
        ·simp only [pA, pS, pZ, pK, i64_w, i32_w]
         rfl
        refine pu (i := 2) (N := some 52) (v := ?_) (a' := ?_) (bs 7 13) rfl rfl HT_ ?_ ?_ ?_
        rotate_left
        ·intro w'
         go_simp
         with_reducible rfl
        rotate_left
        ·simp only [pA, pS, pZ, pK, i64_w, i32_w]
         rfl
        refine pu (i := 3) (N := some 53) (v := ?_) (a' := ?_) (bs 15 13) rfl rfl HT_ ?_ ?_ ?_
        rotate_left
        ·intro w'
         go_simp
         with_reducible rfl
        rotate_left
        ·simp only [pA, pS, pZ, pK, i64_w, i32_w]
         rfl
        refine pn (i := 4) (N := some 54) (v := undef) (a' := ?_) (bs 31 13) rfl rfl HT_ ?_ ?_
        rotate_left
        ·simp only [pA, pS, pZ, pK, i64_w, i32_w]
         rfl
        refine pn (i := 5) (N := some 55) (v := undef) (a' := ?_) (bs 63 13) rfl rfl HT_ ?_ ?_
        rotate_left
        ·simp only [pA, pS, pZ, pK, i64_w, i32_w]
         rfl
        refine pn (i := 6) (N := some 56) (v := undef) (a' := ?_) (bs 127 13) rfl rfl HT_ ?_ ?_
        rotate_left
        ·simp only [pA, pS, pZ, pK, i64_w, i32_w]
         rfl
        refine pn (i := 7) (N := some 57) (v := undef) (a' := ?_) (bs 255 13) rfl rfl HT_ ?_ ?_
        rotate_left
        ·simp only [pA, pS, pZ, pK, i64_w, i32_w]
         rfl
        refine pn (i := 8) (N := some 58) (v := undef) (a' := ?_) (bs 511 13) rfl rfl HT_ ?_ ?_
        rotate_left
        ·simp only [pA, pS, pZ, pK, i64_w, i32_w]
         rfl
        refine pn (i := 9) (N := some 59) (v := undef) (a' := ?_) (bs 1023 13) rfl rfl HT_ ?_ ?_
        rotate_left
        ·simp only [pA, pS, pZ, pK, i64_w, i32_w]
         rfl
        refine pn (i := 10) (N := some 60) (v := undef) (a' := ?_) (bs 2047 13) rfl rfl HT_ ?_ ?_
        rotate_left
        ·simp only [pA, pS, pZ, pK, i64_w, i32_w]
         rfl
        refine pu (i := 11) (N := some 61) (v := ?_) (a' := ?_) (bs 4095 13) rfl rfl HT_ ?_ ?_ ?_
        rotate_left
        ·intro w'
         go_simp
         with_reducible rfl
        rotate_left
        ·simp only [pA, pS, pZ, pK, i64_w, i32_w]
         rfl
        refine pu (i := 12) (N := some 49) (v := ?_) (a' := ?_) (bs 8191 13) rfl rfl HT_ ?_ ?_ ?_
        rotate_left
        ·intro w'
         go_simp
         with_reducible rfl
        rotate_left
        ·simp only [pA, pS, pZ, pK, i64_w, i32_w]
         rfl
        refine done_ (done_of HT_.out (by kernel_rfl)) ?_
        try go_wp2
        go_ret
        exact QT (BT HB.out)
       rw [if_pos c30] at H
       have c30b0 : (a2_1 == 4) = true := beq_iff_eq.mpr c30
       have c30b1 : (a2_1 != 4) = false := bne_eq_false_iff_eq.mpr c30
       clear c30
       by_cases c31 : t4 > a2_3
       ·rw [if_pos c31] at H
        have c31b0 : decide (a2_3 < t4) = true := decide_eq_true c31
        clear c31
        obtain rfl := Option.some.inj H
        try go_wp2
        replace BK260 := AM_ (blk_drew BK260.out)
        replace BK261 := AM_ (blk_drew BK261.out)
        replace HB := AM_ (below_drew1 HB.out)
        refine start_ (n := 13) (S := fun w' => w'.cell? ⟨gb261, 0, none⟩ = some (.int .i64 a2_0) ∧ w'.cell? ⟨gb261, 1, none⟩ = some (.int .i64 a2_1) ∧ w'.cell? ⟨gb261, 2, none⟩ = some (.int .i64 a2_2) ∧ w'.cell? ⟨gb261, 3, none⟩ = some (.int .i64 a2_3) ∧ w'.cell? ⟨gb261, 4, none⟩ = some (.int .i64 a2_4) ∧ w'.cell? ⟨gb261, 5, none⟩ = some (.int .i64 a2_5) ∧ w'.cell? ⟨gb261, 6, none⟩ = some (.int .i64 a2_6) ∧ w'.cell? ⟨gb261, 7, none⟩ = some (.slice A2_7 l2_7.length c2_7) ∧ w'.cell? ⟨gb261, 8, none⟩ = some (.slice A2_8 l2_8.length c2_8) ∧ w'.cell? ⟨(adI.add (ji.toNat * 5)).block, (adI.add (ji.toNat * 5)).off + 2, none⟩ = some (.int .i64 t3) ∧ w'.cell? ⟨(adI.add (ji.toNat * 5)).block, (adI.add (ji.toNat * 5)).off + 3, none⟩ = some (.int .i64 t4)) (ds := []) (bs 0 13) (by kernel_rfl) rfl rfl ⟨bc BK261.out 0, bc BK261.out 1, bc BK261.out 2, bc BK261.out 3, bc BK261.out 4, bc BK261.out 5, bc BK261.out 6, bc BK261.out 7, bc BK261.out 8, (HB.out.cell (World.block_lt_of_cell? w _ HX2.out)).trans HX2.out, (HB.out.cell (World.block_lt_of_cell? w _ HX3.out)).trans HX3.out⟩ (fun hHeld => ?_); refine with_tabW impl_Store_writeCode.tab7 impl_Store_writeCode.bits7 (fun HT_ HW_ => ?_)
        generalize wc.drew = w32 at BK260 BK261 HB hHeld ⊢
        refine pu (i := 0) (N := some 50) (v := ?_) (a' := ?_) (bs 1 13) rfl rfl HT_ ?_ ?_ ?_
        rotate_left
        ·intro w'
         go_simp
         with_reducible rfl
        rotate_left
        ·simp only [pA, pS, pZ, pK, i64_w, i32_w]
         rfl
        refine tk (i := 1) (N := some 51) (v := ?_) (a' := ?_) (bs 3 13) rfl rfl HT_ HW_ ?_ hHeld ?_ ?_
        rotate_left
        ·rintro w' ⟨s0, s1, s2, s3, s4, s5, s6, s7, s8, s9, s10⟩
         go_simp
         with_reducible rfl
        rotate_left
        ·simp only [pA, pS, pZ, pK, i64_w, i32_w]
         rfl
        refine pu (i := 2) (N := some 52) (v := ?_) (a' := ?_) (bs 7 13) rfl rfl HT_ ?_ ?_ ?_
        rotate_left
        ·intro w'
         go_simp
         with_reducible rfl
        rotate_left
        ·simp only [pA, pS, pZ, pK, i64_w, i32_w]
         rfl
        refine pu (i := 3) (N := some 53) (v := ?_) (a' := ?_) (bs 15 13) rfl rfl HT_ ?_ ?_ ?_
        rotate_left
        ·intro w'
         go_simp
         with_reducible rfl
        rotate_left
        ·simp only [pA, pS, pZ, pK, i64_w, i32_w]
         rfl
        refine pu (i := 4) (N := some 54) (v := ?_) (a' := ?_) (bs 31 13) rfl rfl HT_ ?_ ?_ ?_
        rotate_left
        ·intro w'
         go_simp
         with_reducible rfl
        rotate_left
        ·simp only [pA, pS, pZ, pK, i64_w, i32_w]
         rfl
        refine pu (i := 5) (N := some 55) (v := ?_) (a' := ?_) (bs 63 13) rfl rfl HT_ ?_ ?_ ?_
        rotate_left
        ·intro w'
         go_simp
         with_reducible rfl
        rotate_left
        ·simp only [pA, pS, pZ, pK, i64_w, i32_w]
         rfl
        refine pu (i := 6) (N := some 56) (v := ?_) (a' := ?_) (bs 127 13) rfl rfl HT_ ?_ ?_ ?_
        rotate_left
        ·intro w'
         go_simp
         with_reducible rfl
        rotate_left
        ·simp only [pA, pS, pZ, pK, i64_w, i32_w]
         rfl
        refine tk (i := 7) (N := some 57) (v := ?_) (a' := ?_) (bs 255 13) rfl rfl HT_ HW_ ?_ hHeld ?_ ?_
        rotate_left
        ·rintro w' ⟨s0, s1, s2, s3, s4, s5, s6, s7, s8, s9, s10⟩
         go_simp
         with_reducible rfl
        rotate_left
        ·simp only [pA, pS, pZ, pK, i64_w, i32_w]
         rfl
        refine pu (i := 8) (N := some 58) (v := ?_) (a' := ?_) (bs 511 13) rfl rfl HT_ ?_ ?_ ?_
        rotate_left
        ·intro w'
         go_simp
         with_reducible rfl
        rotate_left
        ·simp only [pA, pS, pZ, pK, i64_w, i32_w]
         rfl
        refine tk (i := 9) (N := some 59) (v := ?_) (a' := ?_) (bs 1023 13) rfl rfl HT_ HW_ ?_ hHeld ?_ ?_
        rotate_left
        ·rintro w' ⟨s0, s1, s2, s3, s4, s5, s6, s7, s8, s9, s10⟩
         go_simp
         with_reducible rfl
        rotate_left
        ·simp only [pA, pS, pZ, pK, i64_w, i32_w]
         rfl
        refine pu (i := 10) (N := some 60) (v := ?_) (a' := ?_) (bs 2047 13) rfl rfl HT_ ?_ ?_ ?_
        rotate_left
        ·intro w'
         go_simp
         with_reducible rfl
        rotate_left
        ·simp only [pA, pS, pZ, pK, i64_w, i32_w]
         rfl
        refine pu (i := 11) (N := some 61) (v := ?_) (a' := ?_) (bs 4095 13) rfl rfl HT_ ?_ ?_ ?_
        rotate_left
        ·intro w'
         go_simp
         with_reducible rfl
        rotate_left
        ·simp only [pA, pS, pZ, pK, i64_w, i32_w]
         rfl
        refine pu (i := 12) (N := some 49) (v := ?_) (a' := ?_) (bs 8191 13) rfl rfl HT_ ?_ ?_ ?_
        rotate_left
        ·intro w'
         go_simp
         with_reducible rfl
        rotate_left
        ·simp only [pA, pS, pZ, pK, i64_w, i32_w]
         rfl
        refine done_ (done_of HT_.out (by kernel_rfl)) ?_
        try go_wp2
        go_ret
        exact QT (BT HB.out)
       rw [if_neg c31] at H
       have c31b0 : decide (a2_3 < t4) = false := decide_eq_false c31
       clear c31
       obtain rfl := Option.some.inj H
       try go_wp2
       replace BK260 := AM_ (blk_drew BK260.out)
       replace BK261 := AM_ (blk_drew BK261.out)
       replace HB := AM_ (below_drew1 HB.out)
       refine start_ (n := 13) (S := fun w' => w'.cell? ⟨gb261, 0, none⟩ = some (.int .i64 a2_0) ∧ w'.cell? ⟨gb261, 1, none⟩ = some (.int .i64 a2_1) ∧ w'.cell? ⟨gb261, 2, none⟩ = some (.int .i64 a2_2) ∧ w'.cell? ⟨gb261, 3, none⟩ = some (.int .i64 a2_3) ∧ w'.cell? ⟨gb261, 4, none⟩ = some (.int .i64 a2_4) ∧ w'.cell? ⟨gb261, 5, none⟩ = some (.int .i64 a2_5) ∧ w'.cell? ⟨gb261, 6, none⟩ = some (.int .i64 a2_6) ∧ w'.cell? ⟨gb261, 7, none⟩ = some (.slice A2_7 l2_7.length c2_7) ∧ w'.cell? ⟨gb261, 8, none⟩ = some (.slice A2_8 l2_8.length c2_8) ∧ w'.cell? ⟨(adI.add (ji.toNat * 5)).block, (adI.add (ji.toNat * 5)).off + 2, none⟩ = some (.int .i64 t3) ∧ w'.cell? ⟨(adI.add (ji.toNat * 5)).block, (adI.add (ji.toNat * 5)).off + 3, none⟩ = some (.int .i64 t4)) (ds := []) (bs 0 13) (by kernel_rfl) rfl rfl ⟨bc BK261.out 0, bc BK261.out 1, bc BK261.out 2, bc BK261.out 3, bc BK261.out 4, bc BK261.out 5, bc BK261.out 6, bc BK261.out 7, bc BK261.out 8, (HB.out.cell (World.block_lt_of_cell? w _ HX2.out)).trans HX2.out, (HB.out.cell (World.block_lt_of_cell? w _ HX3.out)).trans HX3.out⟩ (fun hHeld => ?_); refine with_tabW impl_Store_writeCode.tab7 impl_Store_writeCode.bits7 (fun HT_ HW_ => ?_)
       generalize wc.drew = w33 at BK260 BK261 HB hHeld ⊢
       refine pu (i := 0) (N := some 50) (v := ?_) (a' := ?_) (bs 1 13) rfl rfl HT_ ?_ ?_ ?_
       rotate_left
       ·intro w'
        go_simp
        with_reducible rfl
       rotate_left
       ·simp only [pA, pS, pZ, pK, i64_w, i32_w]
        rfl
       refine tk (i := 1) (N := some 51) (v := ?_) (a' := ?_) (bs 3 13) rfl rfl HT_ HW_ ?_ hHeld ?_ ?_
       rotate_left
       ·rintro w' ⟨s0, s1, s2, s3, s4, s5, s6, s7, s8, s9, s10⟩
        go_simp
        with_reducible rfl
       rotate_left
       ·simp only [pA, pS, pZ, pK, i64_w, i32_w]
        rfl
       refine pu (i := 2) (N := some 52) (v := ?_) (a' := ?_) (bs 7 13) rfl rfl HT_ ?_ ?_ ?_
       rotate_left
       ·intro w'
        go_simp
        with_reducible rfl
       rotate_left
       ·simp only [pA, pS, pZ, pK, i64_w, i32_w]
        rfl
       refine pu (i := 3) (N := some 53) (v := ?_) (a' := ?_) (bs 15 13) rfl rfl HT_ ?_ ?_ ?_
       rotate_left
       ·intro w'
        go_simp
        with_reducible rfl
       rotate_left
       ·simp only [pA, pS, pZ, pK, i64_w, i32_w]
        rfl
       refine pu (i := 4) (N := some 54) (v := ?_) (a' := ?_) (bs 31 13) rfl rfl HT_ ?_ ?_ ?_
       rotate_left
       ·intro w'
        go_simp
        with_reducible rfl
       rotate_left
       ·simp only [pA, pS, pZ, pK, i64_w, i32_w]
        rfl
       refine pu (i := 5) (N := some 55) (v := ?_) (a' := ?_) (bs 63 13) rfl rfl HT_ ?_ ?_ ?_
       rotate_left
       ·intro w'
        go_simp
        with_reducible rfl
       rotate_left
       ·simp only [pA, pS, pZ, pK, i64_w, i32_w]
        rfl
       refine pu (i := 6) (N := some 56) (v := ?_) (a' := ?_) (bs 127 13) rfl rfl HT_ ?_ ?_ ?_
       rotate_left
       ·intro w'
        go_simp
        with_reducible rfl
       rotate_left
       ·simp only [pA, pS, pZ, pK, i64_w, i32_w]
        rfl
       refine tk (i := 7) (N := some 57) (v := ?_) (a' := ?_) (bs 255 13) rfl rfl HT_ HW_ ?_ hHeld ?_ ?_
       rotate_left
       ·rintro w' ⟨s0, s1, s2, s3, s4, s5, s6, s7, s8, s9, s10⟩
        go_simp
        with_reducible rfl
       rotate_left
       ·simp only [pA, pS, pZ, pK, i64_w, i32_w]
        rfl
       refine pu (i := 8) (N := some 58) (v := ?_) (a' := ?_) (bs 511 13) rfl rfl HT_ ?_ ?_ ?_
       rotate_left
       ·intro w'
        go_simp
        with_reducible rfl
       rotate_left
       ·simp only [pA, pS, pZ, pK, i64_w, i32_w]
        rfl
       refine tk (i := 9) (N := some 59) (v := ?_) (a' := ?_) (bs 1023 13) rfl rfl HT_ HW_ ?_ hHeld ?_ ?_
       rotate_left
       ·rintro w' ⟨s0, s1, s2, s3, s4, s5, s6, s7, s8, s9, s10⟩
        go_simp
        with_reducible rfl
       rotate_left
       ·simp only [pA, pS, pZ, pK, i64_w, i32_w]
        rfl
       refine pu (i := 10) (N := some 60) (v := ?_) (a' := ?_) (bs 2047 13) rfl rfl HT_ ?_ ?_ ?_
       rotate_left
       ·intro w'
        go_simp
        with_reducible rfl
       rotate_left
       ·simp only [pA, pS, pZ, pK, i64_w, i32_w]
        rfl
       refine pu (i := 11) (N := some 61) (v := ?_) (a' := ?_) (bs 4095 13) rfl rfl HT_ ?_ ?_ ?_
       rotate_left
       ·intro w'
        go_simp
        with_reducible rfl
       rotate_left
       ·simp only [pA, pS, pZ, pK, i64_w, i32_w]
        rfl
       refine pu (i := 12) (N := some 49) (v := ?_) (a' := ?_) (bs 8191 13) rfl rfl HT_ ?_ ?_ ?_
       rotate_left
       ·intro w'
        go_simp
        with_reducible rfl
       rotate_left
       ·simp only [pA, pS, pZ, pK, i64_w, i32_w]
        rfl
       refine done_ (done_of HT_.out (by kernel_rfl)) ?_
       try go_wp2
       go_ret
       exact QT (BT HB.out)


end Go.Proofs.Ytakpkmlbklahhaa.PFnExactWriteCode
