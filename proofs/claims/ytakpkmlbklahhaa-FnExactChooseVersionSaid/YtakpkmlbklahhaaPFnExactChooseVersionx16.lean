-- Printed by a program of mine (wip/myprint.py), which runs the printer of the kit with contracts of mine beside it.
import Derived.Test.YtakpkmlbklahhaaPFnExactChooseVersionx0
import Derived.Test.YtakpkmlbklahhaaPFnExactChooseVersionx1
import Derived.Test.YtakpkmlbklahhaaPFnExactChooseVersionx2
import Derived.Test.YtakpkmlbklahhaaPFnExactChooseVersionx3
import Derived.Test.YtakpkmlbklahhaaPFnExactChooseVersionx4
import Derived.Test.YtakpkmlbklahhaaPFnExactChooseVersionx7
import Derived.Test.YtakpkmlbklahhaaPFnExactChooseVersionx15
namespace Go.Proofs.Ytakpkmlbklahhaa.PFnExactChooseVersion
open Go.RowKit Go.Proofs.YtakpkmlbklahhaaW.PrintWords Go.Proofs.YtakpkmlbklahhaaW.PrintLast Go.Proofs.YtakpkmlbklahhaaW.PrintMore
attribute [local go_sem] max2_int min2_int max_two min_two max_three min_three max_four min_four   -- for this text's walks alone
set_option linter.unusedVariables false
set_option linter.unusedSimpArgs false

/-! ### laws_FnExactChooseVersion: function 7 -/
def laws_FnExactChooseVersion.j0 : Nat → Bool → List (List (S207)) → Int → Int → Int → Int → Int → Int → Int → List (S189) → List (S191) → List (List (S76)) → Int → Int → Int → Int → Int → Int → Int → List (S165) → List (S133) → Option (Bool)
 | 0, _, _, _, _, _, _, _, _, _, _, _, _, _, _, _, _, _, _, _, _, _ => none
 | k + 1, x52, x345000, x346000, x346001, x346002, x346003, x346004, x346005, x346006, x346007, x346008, x375000, x389000, x389001, x389002, x389003, x389004, x389005, x389006, x389007, x389008 => if x52 = true then (some false) else ((laws_toStore.f k x345000).bind fun t397 => ((laws_eqStore.f k x375000 t397).bind fun t400 => (if t400 = true then ((laws_toTransaction.f k x346000 x346001 x346002 x346003 x346004 x346005 x346006 x346007 x346008).bind fun bt401 => ((laws_eqTransaction.f k x389000 x389001 x389002 x389003 x389004 x389005 x389006 x389007 x389008 bt401.1 bt401.2.1 bt401.2.2.1 bt401.2.2.2.1 bt401.2.2.2.2.1 bt401.2.2.2.2.2.1 bt401.2.2.2.2.2.2.1 bt401.2.2.2.2.2.2.2.1 bt401.2.2.2.2.2.2.2.2).bind fun t414 => (if t414 = true then (some true) else (some false)))) else (some false))))
def laws_FnExactChooseVersion.f (k : Nat) (l0_0 : List (List (S207))) (a1_0 : Int) (a1_1 : Int) (a1_2 : Int) (a1_3 : Int) (a1_4 : Int) (a1_5 : Int) (a1_6 : Int) (l1_7 : List (S189)) (l1_8 : List (S191)) (a2 : Int) : Option (Bool) := (laws_szStore.f k l0_0 1048576).bind fun t346 => (if t346 < 0 then (some true) else ((laws_szTransaction.f a1_0 a1_1 a1_2 a1_3 a1_4 a1_5 a1_6 l1_7 l1_8 t346).bind fun t347 => (if t347 < 0 then (some true) else ((laws_toStore.f k l0_0).bind fun t348 => ((laws_toTransaction.f k a1_0 a1_1 a1_2 a1_3 a1_4 a1_5 a1_6 l1_7 l1_8).bind fun bt351 => ((spec_ChooseVersion.f k t348 bt351.1 bt351.2.1 bt351.2.2.1 bt351.2.2.2.1 bt351.2.2.2.2.1 bt351.2.2.2.2.2.1 bt351.2.2.2.2.2.2.1 bt351.2.2.2.2.2.2.2.1 bt351.2.2.2.2.2.2.2.2 a2).bind fun bt364 => ((laws_toStore.f k l0_0).bind fun t371 => ((laws_toTransaction.f k a1_0 a1_1 a1_2 a1_3 a1_4 a1_5 a1_6 l1_7 l1_8).bind fun bt375 => ((impl_ChooseVersion.f k t371 bt375.1 bt375.2.1 bt375.2.2.1 bt375.2.2.2.1 bt375.2.2.2.2.1 bt375.2.2.2.2.2.1 bt375.2.2.2.2.2.2.1 bt375.2.2.2.2.2.2.2.1 bt375.2.2.2.2.2.2.2.2 a2).bind fun bt389 => ((laws_eqVersion.f bt389.1 bt389.2.1 bt389.2.2.1 bt389.2.2.2.1 bt389.2.2.2.2.1 bt364.1 bt364.2.1 bt364.2.2.1 bt364.2.2.2.1 bt364.2.2.2.2.1).bind fun t396 => (if t396 = true then (laws_FnExactChooseVersion.j0 k (bt389.2.2.2.2.2 != bt364.2.2.2.2.2) l0_0 a1_0 a1_1 a1_2 a1_3 a1_4 a1_5 a1_6 l1_7 l1_8 t371 bt375.1 bt375.2.1 bt375.2.2.1 bt375.2.2.2.1 bt375.2.2.2.2.1 bt375.2.2.2.2.2.1 bt375.2.2.2.2.2.2.1 bt375.2.2.2.2.2.2.2.1 bt375.2.2.2.2.2.2.2.2) else (laws_FnExactChooseVersion.j0 k true l0_0 a1_0 a1_1 a1_2 a1_3 a1_4 a1_5 a1_6 l1_7 l1_8 t371 bt375.1 bt375.2.1 bt375.2.2.1 bt375.2.2.2.1 bt375.2.2.2.2.1 bt375.2.2.2.2.2.1 bt375.2.2.2.2.2.2.1 bt375.2.2.2.2.2.2.2.1 bt375.2.2.2.2.2.2.2.2))))))))))))
theorem laws_FnExactChooseVersion.mono_l : ∀ k, (∀ y0 y1 y2 y3 y4 y5 y6 y7 y8 y9 y10 y11 y12 y13 y14 y15 y16 y17 y18 y19 y20, LeO (laws_FnExactChooseVersion.j0 k y0 y1 y2 y3 y4 y5 y6 y7 y8 y9 y10 y11 y12 y13 y14 y15 y16 y17 y18 y19 y20) (laws_FnExactChooseVersion.j0 (k + 1) y0 y1 y2 y3 y4 y5 y6 y7 y8 y9 y10 y11 y12 y13 y14 y15 y16 y17 y18 y19 y20))
 | 0 => fun _ _ _ _ _ _ _ _ _ _ _ _ _ _ _ _ _ _ _ _ _ r h => by simp [laws_FnExactChooseVersion.j0] at h
 | k + 1 => by
  have ih0 := laws_FnExactChooseVersion.mono_l k
  ·intro y0 y1 y2 y3 y4 y5 y6 y7 y8 y9 y10 y11 y12 y13 y14 y15 y16 y17 y18 y19 y20
   unfold laws_FnExactChooseVersion.j0
   repeat' first
   | (with_reducible exact ih0 _ _ _ _ _ _ _ _ _ _ _ _ _ _ _ _ _ _ _ _ _)
   | (with_reducible exact impl_ChooseVersion.mono _ _ _ _ _ _ _ _ _ _ _ _)
   | (with_reducible exact laws_eqStore.mono _ _ _)
   | (with_reducible exact laws_eqTransaction.mono _ _ _ _ _ _ _ _ _ _ _ _ _ _ _ _ _ _ _)
   | (with_reducible exact laws_szStore.mono _ _ _)
   | (with_reducible exact laws_toStore.mono _ _)
   | (with_reducible exact laws_toTransaction.mono _ _ _ _ _ _ _ _ _ _)
   | (with_reducible exact spec_ChooseVersion.mono _ _ _ _ _ _ _ _ _ _ _ _)
   | (with_reducible exact LeO.refl _)
   | (with_reducible exact LeO.none _)
   | (with_reducible refine LeO.ite ?_ ?_)
   | (with_reducible refine LeO.bind ?_ (fun _ => ?_))
   | exact ih0 _ _ _ _ _ _ _ _ _ _ _ _ _ _ _ _ _ _ _ _ _
   | exact impl_ChooseVersion.mono _ _ _ _ _ _ _ _ _ _ _ _
   | exact laws_eqStore.mono _ _ _
   | exact laws_eqTransaction.mono _ _ _ _ _ _ _ _ _ _ _ _ _ _ _ _ _ _ _
   | exact laws_szStore.mono _ _ _
   | exact laws_toStore.mono _ _
   | exact laws_toTransaction.mono _ _ _ _ _ _ _ _ _ _
   | exact spec_ChooseVersion.mono _ _ _ _ _ _ _ _ _ _ _ _
   | exact LeO.none _
   | refine LeO.ite ?_ ?_
   | refine LeO.bind ?_ (fun _ => ?_)
theorem laws_FnExactChooseVersion.mono : ∀ a0 a1 a2 a3 a4 a5 a6 a7 a8 a9 a10 k, LeO (laws_FnExactChooseVersion.f k a0 a1 a2 a3 a4 a5 a6 a7 a8 a9 a10) (laws_FnExactChooseVersion.f (k + 1) a0 a1 a2 a3 a4 a5 a6 a7 a8 a9 a10) := by
 intro a0 a1 a2 a3 a4 a5 a6 a7 a8 a9 a10 k
 have ih0 := laws_FnExactChooseVersion.mono_l k
 unfold laws_FnExactChooseVersion.f
 repeat' first
   | (with_reducible exact ih0 _ _ _ _ _ _ _ _ _ _ _ _ _ _ _ _ _ _ _ _ _)
   | (with_reducible exact impl_ChooseVersion.mono _ _ _ _ _ _ _ _ _ _ _ _)
   | (with_reducible exact laws_eqStore.mono _ _ _)
   | (with_reducible exact laws_eqTransaction.mono _ _ _ _ _ _ _ _ _ _ _ _ _ _ _ _ _ _ _)
   | (with_reducible exact laws_szStore.mono _ _ _)
   | (with_reducible exact laws_toStore.mono _ _)
   | (with_reducible exact laws_toTransaction.mono _ _ _ _ _ _ _ _ _ _)
   | (with_reducible exact spec_ChooseVersion.mono _ _ _ _ _ _ _ _ _ _ _ _)
   | (with_reducible exact LeO.refl _)
   | (with_reducible exact LeO.none _)
   | (with_reducible refine LeO.ite ?_ ?_)
   | (with_reducible refine LeO.bind ?_ (fun _ => ?_))
   | exact ih0 _ _ _ _ _ _ _ _ _ _ _ _ _ _ _ _ _ _ _ _ _
   | exact impl_ChooseVersion.mono _ _ _ _ _ _ _ _ _ _ _ _
   | exact laws_eqStore.mono _ _ _
   | exact laws_eqTransaction.mono _ _ _ _ _ _ _ _ _ _ _ _ _ _ _ _ _ _ _
   | exact laws_szStore.mono _ _ _
   | exact laws_toStore.mono _ _
   | exact laws_toTransaction.mono _ _ _ _ _ _ _ _ _ _
   | exact spec_ChooseVersion.mono _ _ _ _ _ _ _ _ _ _ _ _
   | exact LeO.none _
   | refine LeO.ite ?_ ?_
   | refine LeO.bind ?_ (fun _ => ?_)
def laws_FnExactChooseVersion.T8 : Bool × List (List Nat × List Nat) := (true, [([], []), ([0], [0]), ([], []), ([2, 1], [2]), ([], []), ([1, 3, 4, 3], [1, 3, 4]), ([5], [5]), ([6], [6]), ([6], [6]), ([], []), ([9, 7, 5, 0, 1, 2, 3, 4, 5, 6, 7, 9], [7, 9]), ([8, 10, 0, 1, 2, 3, 4, 5, 6, 7, 8, 9, 10], [8])])
def laws_FnExactChooseVersion.B8 : List Nat := [0, 1, 0, 7, 0, 31, 63, 127, 127, 0, 767, 2047]
theorem laws_FnExactChooseVersion.tab8 : rtab .any (opsOf Try.f7 8) = laws_FnExactChooseVersion.T8 := by kernel_rfl
theorem laws_FnExactChooseVersion.bits8 : waitsOk laws_FnExactChooseVersion.T8.2 laws_FnExactChooseVersion.B8 = true := by kernel_rfl
set_option maxHeartbeats 8000000 in
set_option maxRecDepth 100000 in
theorem laws_FnExactChooseVersion.calls (k : Nat) (A0_0 : Option Addr) (c0_0 : Nat) (l0_0 : List (List (S207))) (a1_0 : Int) (a1_1 : Int) (a1_2 : Int) (a1_3 : Int) (a1_4 : Int) (a1_5 : Int) (a1_6 : Int) (A1_7 : Option Addr) (c1_7 : Nat) (l1_7 : List (S189)) (A1_8 : Option Addr) (c1_8 : Nat) (l1_8 : List (S191)) (a2 : Int) (r : Bool) (w : World) (hr0_0 : Kd.C (Kd.slice 207 k207) w A0_0 l0_0.length l0_0) (hc0_0 : l0_0.length ≤ c0_0) (hr1_7 : Kd.C k189 w A1_7 l1_7.length l1_7) (hc1_7 : l1_7.length ≤ c1_7) (hr1_8 : Kd.C k191 w A1_8 l1_8.length l1_8) (hc1_8 : l1_8.length ≤ c1_8) (h : laws_FnExactChooseVersion.f k l0_0 a1_0 a1_1 a1_2 a1_3 a1_4 a1_5 a1_6 l1_7 l1_8 a2 = some r) :
  Calls Try.prog 7 #[.agg #[.slice A0_0 l0_0.length c0_0], .agg #[.int .i64 a1_0, .int .i64 a1_1, .int .i64 a1_2, .int .i64 a1_3, .int .i64 a1_4, .int .i64 a1_5, .int .i64 a1_6, .slice A1_7 l1_7.length c1_7, .slice A1_8 l1_8.length c1_8], .int .i64 a2] w fun e w' => e = .returned (.bool r) ∧ Below w.heap.size w w' := by
 have hu39 := Try.underlying39
 have hu60 := Try.underlying60
 have hu76 := Try.underlying76
 have hu49 := Try.underlying49
 have hu68 := Try.underlying68
 have HR0_0 := AM_ hr0_0
 have HC0_0 := AM_ hc0_0
 clear hr0_0 hc0_0
 have HR1_7 := AM_ hr1_7
 have HC1_7 := AM_ hc1_7
 clear hr1_7 hc1_7
 have HR1_8 := AM_ hr1_8
 have HC1_8 := AM_ hc1_8
 clear hr1_8 hc1_8
 have HB := AM_ (Below.refl w.heap.size w)
 have H : ((laws_szStore.f k l0_0 1048576).bind fun t346 => (if t346 < 0 then (some true) else ((laws_szTransaction.f a1_0 a1_1 a1_2 a1_3 a1_4 a1_5 a1_6 l1_7 l1_8 t346).bind fun t347 => (if t347 < 0 then (some true) else ((laws_toStore.f k l0_0).bind fun t348 => ((laws_toTransaction.f k a1_0 a1_1 a1_2 a1_3 a1_4 a1_5 a1_6 l1_7 l1_8).bind fun bt351 => ((spec_ChooseVersion.f k t348 bt351.1 bt351.2.1 bt351.2.2.1 bt351.2.2.2.1 bt351.2.2.2.2.1 bt351.2.2.2.2.2.1 bt351.2.2.2.2.2.2.1 bt351.2.2.2.2.2.2.2.1 bt351.2.2.2.2.2.2.2.2 a2).bind fun bt364 => ((laws_toStore.f k l0_0).bind fun t371 => ((laws_toTransaction.f k a1_0 a1_1 a1_2 a1_3 a1_4 a1_5 a1_6 l1_7 l1_8).bind fun bt375 => ((impl_ChooseVersion.f k t371 bt375.1 bt375.2.1 bt375.2.2.1 bt375.2.2.2.1 bt375.2.2.2.2.1 bt375.2.2.2.2.2.1 bt375.2.2.2.2.2.2.1 bt375.2.2.2.2.2.2.2.1 bt375.2.2.2.2.2.2.2.2 a2).bind fun bt389 => ((laws_eqVersion.f bt389.1 bt389.2.1 bt389.2.2.1 bt389.2.2.2.1 bt389.2.2.2.2.1 bt364.1 bt364.2.1 bt364.2.2.1 bt364.2.2.2.1 bt364.2.2.2.2.1).bind fun t396 => (if t396 = true then (laws_FnExactChooseVersion.j0 k (bt389.2.2.2.2.2 != bt364.2.2.2.2.2) l0_0 a1_0 a1_1 a1_2 a1_3 a1_4 a1_5 a1_6 l1_7 l1_8 t371 bt375.1 bt375.2.1 bt375.2.2.1 bt375.2.2.2.1 bt375.2.2.2.2.1 bt375.2.2.2.2.2.1 bt375.2.2.2.2.2.2.1 bt375.2.2.2.2.2.2.2.1 bt375.2.2.2.2.2.2.2.2) else (laws_FnExactChooseVersion.j0 k true l0_0 a1_0 a1_1 a1_2 a1_3 a1_4 a1_5 a1_6 l1_7 l1_8 t371 bt375.1 bt375.2.1 bt375.2.2.1 bt375.2.2.2.1 bt375.2.2.2.2.1 bt375.2.2.2.2.2.1 bt375.2.2.2.2.2.2.1 bt375.2.2.2.2.2.2.2.1 bt375.2.2.2.2.2.2.2.2))))))))))))) = some r := h
 clear h
 replace H := Option.bind_eq_some_iff.mp H
 obtain ⟨t346, A40, H⟩ := H
 replace H : (if t346 < 0 then (some true) else ((laws_szTransaction.f a1_0 a1_1 a1_2 a1_3 a1_4 a1_5 a1_6 l1_7 l1_8 t346).bind fun t347 => (if t347 < 0 then (some true) else ((laws_toStore.f k l0_0).bind fun t348 => ((laws_toTransaction.f k a1_0 a1_1 a1_2 a1_3 a1_4 a1_5 a1_6 l1_7 l1_8).bind fun bt351 => ((spec_ChooseVersion.f k t348 bt351.1 bt351.2.1 bt351.2.2.1 bt351.2.2.2.1 bt351.2.2.2.2.1 bt351.2.2.2.2.2.1 bt351.2.2.2.2.2.2.1 bt351.2.2.2.2.2.2.2.1 bt351.2.2.2.2.2.2.2.2 a2).bind fun bt364 => ((laws_toStore.f k l0_0).bind fun t371 => ((laws_toTransaction.f k a1_0 a1_1 a1_2 a1_3 a1_4 a1_5 a1_6 l1_7 l1_8).bind fun bt375 => ((impl_ChooseVersion.f k t371 bt375.1 bt375.2.1 bt375.2.2.1 bt375.2.2.2.1 bt375.2.2.2.2.1 bt375.2.2.2.2.2.1 bt375.2.2.2.2.2.2.1 bt375.2.2.2.2.2.2.2.1 bt375.2.2.2.2.2.2.2.2 a2).bind fun bt389 => ((laws_eqVersion.f bt389.1 bt389.2.1 bt389.2.2.1 bt389.2.2.2.1 bt389.2.2.2.2.1 bt364.1 bt364.2.1 bt364.2.2.1 bt364.2.2.2.1 bt364.2.2.2.2.1).bind fun t396 => (if t396 = true then (laws_FnExactChooseVersion.j0 k (bt389.2.2.2.2.2 != bt364.2.2.2.2.2) l0_0 a1_0 a1_1 a1_2 a1_3 a1_4 a1_5 a1_6 l1_7 l1_8 t371 bt375.1 bt375.2.1 bt375.2.2.1 bt375.2.2.2.1 bt375.2.2.2.2.1 bt375.2.2.2.2.2.1 bt375.2.2.2.2.2.2.1 bt375.2.2.2.2.2.2.2.1 bt375.2.2.2.2.2.2.2.2) else (laws_FnExactChooseVersion.j0 k true l0_0 a1_0 a1_1 a1_2 a1_3 a1_4 a1_5 a1_6 l1_7 l1_8 t371 bt375.1 bt375.2.1 bt375.2.2.1 bt375.2.2.2.1 bt375.2.2.2.2.1 bt375.2.2.2.2.2.1 bt375.2.2.2.2.2.2.1 bt375.2.2.2.2.2.2.2.1 bt375.2.2.2.2.2.2.2.2)))))))))))) = some r := H
 have A4 := AM_ A40
 clear A40
 by_cases c5 : t346 < 0
 ·rw [if_pos c5] at H
  have c5b0 : decide (t346 < 0) = true := decide_eq_true c5
  clear c5
  obtain rfl := Option.some.inj H
  go_enter Try.func7, Try.ntmps7
  go_wp2_with (first | ((with_reducible refine gate_dst (N := 3) rfl ?_); refine box_event ?hg (N := 3) ?hd (cs := #[.slice A0_0 l0_0.length c0_0]) (t := 39) ?hr ?_; (case hd => rfl); (case hg => rfl); (case hr => first | (go_simp; done) | (go_simp; rfl)); intro gb344 hg w6 hbox hb; have n0_ := AM_ (below_step (BT HB.out) hb); have n1_ := AM_ (hbox); have n2_ := AM_ ((GS HB.out hg)); have n3_ := AM_ ((GS HB.out hg)); clear HB; have HB := n0_; have BK344 := n1_; have GW344 := n2_; have GE344 := n3_; clear n0_ n1_ n2_ n3_; clear hb hbox hg) | ((with_reducible refine gate_dst (N := 4) rfl ?_); refine box_event ?hg (N := 4) ?hd (cs := #[.int .i64 a1_0, .int .i64 a1_1, .int .i64 a1_2, .int .i64 a1_3, .int .i64 a1_4, .int .i64 a1_5, .int .i64 a1_6, .slice A1_7 l1_7.length c1_7, .slice A1_8 l1_8.length c1_8]) (t := 60) ?hr ?_; (case hd => rfl); (case hg => rfl); (case hr => first | (go_simp; done) | (go_simp; rfl)); intro gb345 hg w7 hbox hb; have n0_ := AM_ (BB BK344.out hb); have n1_ := AM_ (below_step (BT HB.out) hb); have n2_ := AM_ (hbox); have n3_ := AM_ ((GS HB.out hg)); have n4_ := AM_ ((GS HB.out hg)); have n5_ := AM_ ((NL BK344.out hg)); have n6_ := AM_ ((NG BK344.out hg)); clear BK344; clear HB; have BK344 := n0_; have HB := n1_; have BK345 := n2_; have GW345 := n3_; have GE345 := n4_; have NB344_345 := n5_; have NB345_344 := n6_; clear n0_ n1_ n2_ n3_ n4_ n5_ n6_; clear hb hbox hg; have hnb8 := NB344_345.out; have hnc8 := NB345_344.out; obtain ⟨hcz9_0, hfz9_0⟩ := bk1 BK344.out) | ((with_reducible refine gate_callee (f := 32) rfl ?_); refine goesL_ (some 16) rfl rfl Try.func32 (by kernel_rfl) rfl #[.agg #[.slice A0_0 l0_0.length c0_0], .int .i64 1048576] rfl (by (try simp only [List.map_toArray, List.map_cons, List.map_nil]); first | done | rfl | (simp only [List.length_drop, List.length_take]; rfl)) ?_; (with_reducible refine (laws_szStore.calls k _ _ l0_0 1048576 t346 _ ?side1 ?side2 A4.out).mono ?_); (case side1 => exact CB HR0_0.out HB.out); (case side2 => exact HC0_0.out); rintro e w10 ⟨rfl, hb⟩; refine ⟨_, rfl, ?_⟩; have n0_ := AM_ (BB BK344.out hb); have n1_ := AM_ (BB BK345.out hb); have n2_ := AM_ (below_step (BT HB.out) hb); clear BK344; clear BK345; clear HB; have BK344 := n0_; have BK345 := n1_; have HB := n2_; clear n0_ n1_ n2_; (try clear hb); (try clear hb2); (try clear hk); (try clear hi)))
  go_ret
  exact QT (BT HB.out)
 rw [if_neg c5] at H
 have c5b0 : decide (t346 < 0) = false := decide_eq_false c5
 clear c5
 replace H := Option.bind_eq_some_iff.mp H
 obtain ⟨t347, A110, H⟩ := H
 replace H : (if t347 < 0 then (some true) else ((laws_toStore.f k l0_0).bind fun t348 => ((laws_toTransaction.f k a1_0 a1_1 a1_2 a1_3 a1_4 a1_5 a1_6 l1_7 l1_8).bind fun bt351 => ((spec_ChooseVersion.f k t348 bt351.1 bt351.2.1 bt351.2.2.1 bt351.2.2.2.1 bt351.2.2.2.2.1 bt351.2.2.2.2.2.1 bt351.2.2.2.2.2.2.1 bt351.2.2.2.2.2.2.2.1 bt351.2.2.2.2.2.2.2.2 a2).bind fun bt364 => ((laws_toStore.f k l0_0).bind fun t371 => ((laws_toTransaction.f k a1_0 a1_1 a1_2 a1_3 a1_4 a1_5 a1_6 l1_7 l1_8).bind fun bt375 => ((impl_ChooseVersion.f k t371 bt375.1 bt375.2.1 bt375.2.2.1 bt375.2.2.2.1 bt375.2.2.2.2.1 bt375.2.2.2.2.2.1 bt375.2.2.2.2.2.2.1 bt375.2.2.2.2.2.2.2.1 bt375.2.2.2.2.2.2.2.2 a2).bind fun bt389 => ((laws_eqVersion.f bt389.1 bt389.2.1 bt389.2.2.1 bt389.2.2.2.1 bt389.2.2.2.2.1 bt364.1 bt364.2.1 bt364.2.2.1 bt364.2.2.2.1 bt364.2.2.2.2.1).bind fun t396 => (if t396 = true then (laws_FnExactChooseVersion.j0 k (bt389.2.2.2.2.2 != bt364.2.2.2.2.2) l0_0 a1_0 a1_1 a1_2 a1_3 a1_4 a1_5 a1_6 l1_7 l1_8 t371 bt375.1 bt375.2.1 bt375.2.2.1 bt375.2.2.2.1 bt375.2.2.2.2.1 bt375.2.2.2.2.2.1 bt375.2.2.2.2.2.2.1 bt375.2.2.2.2.2.2.2.1 bt375.2.2.2.2.2.2.2.2) else (laws_FnExactChooseVersion.j0 k true l0_0 a1_0 a1_1 a1_2 a1_3 a1_4 a1_5 a1_6 l1_7 l1_8 t371 bt375.1 bt375.2.1 bt375.2.2.1 bt375.2.2.2.1 bt375.2.2.2.2.1 bt375.2.2.2.2.2.1 bt375.2.2.2.2.2.2.1 bt375.2.2.2.2.2.2.2.1 bt375.2.2.2.2.2.2.2.2)))))))))) = some r := H
 have A11 := AM_ A110
 clear A110
 by_cases c12 : t347 < 0
 ·rw [if_pos c12] at H
  have c12b0 : decide (t347 < 0) = true := decide_eq_true c12
  clear c12
  obtain rfl := Option.some.inj H
  go_enter Try.func7, Try.ntmps7
  go_wp2_with (first | ((with_reducible refine gate_dst (N := 3) rfl ?_); refine box_event ?hg (N := 3) ?hd (cs := #[.slice A0_0 l0_0.length c0_0]) (t := 39) ?hr ?_; (case hd => rfl); (case hg => rfl); (case hr => first | (go_simp; done) | (go_simp; rfl)); intro gb344 hg w13 hbox hb; have n0_ := AM_ (below_step (BT HB.out) hb); have n1_ := AM_ (hbox); have n2_ := AM_ ((GS HB.out hg)); have n3_ := AM_ ((GS HB.out hg)); clear HB; have HB := n0_; have BK344 := n1_; have GW344 := n2_; have GE344 := n3_; clear n0_ n1_ n2_ n3_; clear hb hbox hg) | ((with_reducible refine gate_dst (N := 4) rfl ?_); refine box_event ?hg (N := 4) ?hd (cs := #[.int .i64 a1_0, .int .i64 a1_1, .int .i64 a1_2, .int .i64 a1_3, .int .i64 a1_4, .int .i64 a1_5, .int .i64 a1_6, .slice A1_7 l1_7.length c1_7, .slice A1_8 l1_8.length c1_8]) (t := 60) ?hr ?_; (case hd => rfl); (case hg => rfl); (case hr => first | (go_simp; done) | (go_simp; rfl)); intro gb345 hg w14 hbox hb; have n0_ := AM_ (BB BK344.out hb); have n1_ := AM_ (below_step (BT HB.out) hb); have n2_ := AM_ (hbox); have n3_ := AM_ ((GS HB.out hg)); have n4_ := AM_ ((GS HB.out hg)); have n5_ := AM_ ((NL BK344.out hg)); have n6_ := AM_ ((NG BK344.out hg)); clear BK344; clear HB; have BK344 := n0_; have HB := n1_; have BK345 := n2_; have GW345 := n3_; have GE345 := n4_; have NB344_345 := n5_; have NB345_344 := n6_; clear n0_ n1_ n2_ n3_ n4_ n5_ n6_; clear hb hbox hg; have hnb15 := NB344_345.out; have hnc15 := NB345_344.out; obtain ⟨hcz16_0, hfz16_0⟩ := bk1 BK344.out) | ((with_reducible refine gate_callee (f := 32) rfl ?_); refine goesL_ (some 16) rfl rfl Try.func32 (by kernel_rfl) rfl #[.agg #[.slice A0_0 l0_0.length c0_0], .int .i64 1048576] rfl (by (try simp only [List.map_toArray, List.map_cons, List.map_nil]); first | done | rfl | (simp only [List.length_drop, List.length_take]; rfl)) ?_; (with_reducible refine (laws_szStore.calls k _ _ l0_0 1048576 t346 _ ?side1 ?side2 A4.out).mono ?_); (case side1 => exact CB HR0_0.out HB.out); (case side2 => exact HC0_0.out); rintro e w17 ⟨rfl, hb⟩; refine ⟨_, rfl, ?_⟩; have n0_ := AM_ (BB BK344.out hb); have n1_ := AM_ (BB BK345.out hb); have n2_ := AM_ (below_step (BT HB.out) hb); clear BK344; clear BK345; clear HB; have BK344 := n0_; have BK345 := n1_; have HB := n2_; clear n0_ n1_ n2_; (try clear hb); (try clear hb2); (try clear hk); (try clear hi); obtain ⟨hcz18_0, hcz18_1, hcz18_2, hcz18_3, hcz18_4, hcz18_5, hcz18_6, hcz18_7, hcz18_8, hfz18_0, hfz18_1, hfz18_2, hfz18_3, hfz18_4, hfz18_5, hfz18_6, hfz18_7, hfz18_8⟩ := bk9 BK345.out) | ((with_reducible refine gate_callee (f := 33) rfl ?_); refine goesL_ (some 21) rfl rfl Try.func33 (by kernel_rfl) rfl #[.agg #[.int .i64 a1_0, .int .i64 a1_1, .int .i64 a1_2, .int .i64 a1_3, .int .i64 a1_4, .int .i64 a1_5, .int .i64 a1_6, .slice A1_7 l1_7.length c1_7, .slice A1_8 l1_8.length c1_8], .int .i64 t346] rfl (by (try simp only [List.map_toArray, List.map_cons, List.map_nil]); first | done | rfl | (simp only [List.length_drop, List.length_take]; rfl)) ?_; (with_reducible refine (laws_szTransaction.calls a1_0 a1_1 a1_2 a1_3 a1_4 a1_5 a1_6 _ _ l1_7 _ _ l1_8 t346 t347 _ ?side1 ?side2 ?side3 ?side4 A11.out).mono ?_); (case side1 => exact CB HR1_7.out HB.out); (case side2 => exact HC1_7.out); (case side3 => exact CB HR1_8.out HB.out); (case side4 => exact HC1_8.out); rintro e w19 ⟨rfl, hb⟩; refine ⟨_, rfl, ?_⟩; have n0_ := AM_ (BB BK344.out hb); have n1_ := AM_ (BB BK345.out hb); have n2_ := AM_ (below_step (BT HB.out) hb); clear BK344; clear BK345; clear HB; have BK344 := n0_; have BK345 := n1_; have HB := n2_; clear n0_ n1_ n2_; (try clear hb); (try clear hb2); (try clear hk); (try clear hi)))
  go_ret
  exact QT (BT HB.out)
 rw [if_neg c12] at H
 have c12b0 : decide (t347 < 0) = false := decide_eq_false c12
 clear c12
 replace H := Option.bind_eq_some_iff.mp H
 obtain ⟨t348, A200, H⟩ := H
 replace H : ((laws_toTransaction.f k a1_0 a1_1 a1_2 a1_3 a1_4 a1_5 a1_6 l1_7 l1_8).bind fun bt351 => ((spec_ChooseVersion.f k t348 bt351.1 bt351.2.1 bt351.2.2.1 bt351.2.2.2.1 bt351.2.2.2.2.1 bt351.2.2.2.2.2.1 bt351.2.2.2.2.2.2.1 bt351.2.2.2.2.2.2.2.1 bt351.2.2.2.2.2.2.2.2 a2).bind fun bt364 => ((laws_toStore.f k l0_0).bind fun t371 => ((laws_toTransaction.f k a1_0 a1_1 a1_2 a1_3 a1_4 a1_5 a1_6 l1_7 l1_8).bind fun bt375 => ((impl_ChooseVersion.f k t371 bt375.1 bt375.2.1 bt375.2.2.1 bt375.2.2.2.1 bt375.2.2.2.2.1 bt375.2.2.2.2.2.1 bt375.2.2.2.2.2.2.1 bt375.2.2.2.2.2.2.2.1 bt375.2.2.2.2.2.2.2.2 a2).bind fun bt389 => ((laws_eqVersion.f bt389.1 bt389.2.1 bt389.2.2.1 bt389.2.2.2.1 bt389.2.2.2.2.1 bt364.1 bt364.2.1 bt364.2.2.1 bt364.2.2.2.1 bt364.2.2.2.2.1).bind fun t396 => (if t396 = true then (laws_FnExactChooseVersion.j0 k (bt389.2.2.2.2.2 != bt364.2.2.2.2.2) l0_0 a1_0 a1_1 a1_2 a1_3 a1_4 a1_5 a1_6 l1_7 l1_8 t371 bt375.1 bt375.2.1 bt375.2.2.1 bt375.2.2.2.1 bt375.2.2.2.2.1 bt375.2.2.2.2.2.1 bt375.2.2.2.2.2.2.1 bt375.2.2.2.2.2.2.2.1 bt375.2.2.2.2.2.2.2.2) else (laws_FnExactChooseVersion.j0 k true l0_0 a1_0 a1_1 a1_2 a1_3 a1_4 a1_5 a1_6 l1_7 l1_8 t371 bt375.1 bt375.2.1 bt375.2.2.1 bt375.2.2.2.1 bt375.2.2.2.2.1 bt375.2.2.2.2.2.1 bt375.2.2.2.2.2.2.1 bt375.2.2.2.2.2.2.2.1 bt375.2.2.2.2.2.2.2.2)))))))) = some r := H
 have A20 := AM_ A200
 clear A200
 replace H := Option.bind_eq_some_iff.mp H
 obtain ⟨⟨t351, t352, t353, t354, t355, t356, t357, t358, t361⟩, A210, H⟩ := H
 replace H : ((spec_ChooseVersion.f k t348 t351 t352 t353 t354 t355 t356 t357 t358 t361 a2).bind fun bt364 => ((laws_toStore.f k l0_0).bind fun t371 => ((laws_toTransaction.f k a1_0 a1_1 a1_2 a1_3 a1_4 a1_5 a1_6 l1_7 l1_8).bind fun bt375 => ((impl_ChooseVersion.f k t371 bt375.1 bt375.2.1 bt375.2.2.1 bt375.2.2.2.1 bt375.2.2.2.2.1 bt375.2.2.2.2.2.1 bt375.2.2.2.2.2.2.1 bt375.2.2.2.2.2.2.2.1 bt375.2.2.2.2.2.2.2.2 a2).bind fun bt389 => ((laws_eqVersion.f bt389.1 bt389.2.1 bt389.2.2.1 bt389.2.2.2.1 bt389.2.2.2.2.1 bt364.1 bt364.2.1 bt364.2.2.1 bt364.2.2.2.1 bt364.2.2.2.2.1).bind fun t396 => (if t396 = true then (laws_FnExactChooseVersion.j0 k (bt389.2.2.2.2.2 != bt364.2.2.2.2.2) l0_0 a1_0 a1_1 a1_2 a1_3 a1_4 a1_5 a1_6 l1_7 l1_8 t371 bt375.1 bt375.2.1 bt375.2.2.1 bt375.2.2.2.1 bt375.2.2.2.2.1 bt375.2.2.2.2.2.1 bt375.2.2.2.2.2.2.1 bt375.2.2.2.2.2.2.2.1 bt375.2.2.2.2.2.2.2.2) else (laws_FnExactChooseVersion.j0 k true l0_0 a1_0 a1_1 a1_2 a1_3 a1_4 a1_5 a1_6 l1_7 l1_8 t371 bt375.1 bt375.2.1 bt375.2.2.1 bt375.2.2.2.1 bt375.2.2.2.2.1 bt375.2.2.2.2.2.1 bt375.2.2.2.2.2.2.1 bt375.2.2.2.2.2.2.2.1 bt375.2.2.2.2.2.2.2.2))))))) = some r := H
 have A21 := AM_ A210
 clear A210
 replace H := Option.bind_eq_some_iff.mp H
 obtain ⟨⟨t364, t365, t366, t367, t368, t369⟩, A220, H⟩ := H
 replace H : ((laws_toStore.f k l0_0).bind fun t371 => ((laws_toTransaction.f k a1_0 a1_1 a1_2 a1_3 a1_4 a1_5 a1_6 l1_7 l1_8).bind fun bt375 => ((impl_ChooseVersion.f k t371 bt375.1 bt375.2.1 bt375.2.2.1 bt375.2.2.2.1 bt375.2.2.2.2.1 bt375.2.2.2.2.2.1 bt375.2.2.2.2.2.2.1 bt375.2.2.2.2.2.2.2.1 bt375.2.2.2.2.2.2.2.2 a2).bind fun bt389 => ((laws_eqVersion.f bt389.1 bt389.2.1 bt389.2.2.1 bt389.2.2.2.1 bt389.2.2.2.2.1 t364 t365 t366 t367 t368).bind fun t396 => (if t396 = true then (laws_FnExactChooseVersion.j0 k (bt389.2.2.2.2.2 != t369) l0_0 a1_0 a1_1 a1_2 a1_3 a1_4 a1_5 a1_6 l1_7 l1_8 t371 bt375.1 bt375.2.1 bt375.2.2.1 bt375.2.2.2.1 bt375.2.2.2.2.1 bt375.2.2.2.2.2.1 bt375.2.2.2.2.2.2.1 bt375.2.2.2.2.2.2.2.1 bt375.2.2.2.2.2.2.2.2) else (laws_FnExactChooseVersion.j0 k true l0_0 a1_0 a1_1 a1_2 a1_3 a1_4 a1_5 a1_6 l1_7 l1_8 t371 bt375.1 bt375.2.1 bt375.2.2.1 bt375.2.2.2.1 bt375.2.2.2.2.1 bt375.2.2.2.2.2.1 bt375.2.2.2.2.2.2.1 bt375.2.2.2.2.2.2.2.1 bt375.2.2.2.2.2.2.2.2)))))) = some r := H
 have A22 := AM_ A220
 clear A220
 replace H := Option.bind_eq_some_iff.mp H
 obtain ⟨t371, A230, H⟩ := H
 replace H : ((laws_toTransaction.f k a1_0 a1_1 a1_2 a1_3 a1_4 a1_5 a1_6 l1_7 l1_8).bind fun bt375 => ((impl_ChooseVersion.f k t371 bt375.1 bt375.2.1 bt375.2.2.1 bt375.2.2.2.1 bt375.2.2.2.2.1 bt375.2.2.2.2.2.1 bt375.2.2.2.2.2.2.1 bt375.2.2.2.2.2.2.2.1 bt375.2.2.2.2.2.2.2.2 a2).bind fun bt389 => ((laws_eqVersion.f bt389.1 bt389.2.1 bt389.2.2.1 bt389.2.2.2.1 bt389.2.2.2.2.1 t364 t365 t366 t367 t368).bind fun t396 => (if t396 = true then (laws_FnExactChooseVersion.j0 k (bt389.2.2.2.2.2 != t369) l0_0 a1_0 a1_1 a1_2 a1_3 a1_4 a1_5 a1_6 l1_7 l1_8 t371 bt375.1 bt375.2.1 bt375.2.2.1 bt375.2.2.2.1 bt375.2.2.2.2.1 bt375.2.2.2.2.2.1 bt375.2.2.2.2.2.2.1 bt375.2.2.2.2.2.2.2.1 bt375.2.2.2.2.2.2.2.2) else (laws_FnExactChooseVersion.j0 k true l0_0 a1_0 a1_1 a1_2 a1_3 a1_4 a1_5 a1_6 l1_7 l1_8 t371 bt375.1 bt375.2.1 bt375.2.2.1 bt375.2.2.2.1 bt375.2.2.2.2.1 bt375.2.2.2.2.2.1 bt375.2.2.2.2.2.2.1 bt375.2.2.2.2.2.2.2.1 bt375.2.2.2.2.2.2.2.2))))) = some r := H
 have A23 := AM_ A230
 clear A230
 replace H := Option.bind_eq_some_iff.mp H
 obtain ⟨⟨t375, t376, t377, t378, t379, t380, t381, t382, t385⟩, A240, H⟩ := H
 replace H : ((impl_ChooseVersion.f k t371 t375 t376 t377 t378 t379 t380 t381 t382 t385 a2).bind fun bt389 => ((laws_eqVersion.f bt389.1 bt389.2.1 bt389.2.2.1 bt389.2.2.2.1 bt389.2.2.2.2.1 t364 t365 t366 t367 t368).bind fun t396 => (if t396 = true then (laws_FnExactChooseVersion.j0 k (bt389.2.2.2.2.2 != t369) l0_0 a1_0 a1_1 a1_2 a1_3 a1_4 a1_5 a1_6 l1_7 l1_8 t371 t375 t376 t377 t378 t379 t380 t381 t382 t385) else (laws_FnExactChooseVersion.j0 k true l0_0 a1_0 a1_1 a1_2 a1_3 a1_4 a1_5 a1_6 l1_7 l1_8 t371 t375 t376 t377 t378 t379 t380 t381 t382 t385)))) = some r := H
 have A24 := AM_ A240
 clear A240
 replace H := Option.bind_eq_some_iff.mp H
 obtain ⟨⟨t389, t390, t391, t392, t393, t394⟩, A250, H⟩ := H
 replace H : ((laws_eqVersion.f t389 t390 t391 t392 t393 t364 t365 t366 t367 t368).bind fun t396 => (if t396 = true then (laws_FnExactChooseVersion.j0 k (t394 != t369) l0_0 a1_0 a1_1 a1_2 a1_3 a1_4 a1_5 a1_6 l1_7 l1_8 t371 t375 t376 t377 t378 t379 t380 t381 t382 t385) else (laws_FnExactChooseVersion.j0 k true l0_0 a1_0 a1_1 a1_2 a1_3 a1_4 a1_5 a1_6 l1_7 l1_8 t371 t375 t376 t377 t378 t379 t380 t381 t382 t385))) = some r := H
 have A25 := AM_ A250
 clear A250
 have HC26 := AM_ H
 clear H
 go_enter Try.func7, Try.ntmps7
 try go_wp2_with (first | ((with_reducible refine gate_dst (N := 3) rfl ?_); refine box_event ?hg (N := 3) ?hd (cs := #[.slice A0_0 l0_0.length c0_0]) (t := 39) ?hr ?_; (case hd => rfl); (case hg => rfl); (case hr => first | (go_simp; done) | (go_simp; rfl)); intro gb344 hg w27 hbox hb; have n0_ := AM_ (below_step (BT HB.out) hb); have n1_ := AM_ (hbox); have n2_ := AM_ ((GS HB.out hg)); have n3_ := AM_ ((GS HB.out hg)); clear HB; have HB := n0_; have BK344 := n1_; have GW344 := n2_; have GE344 := n3_; clear n0_ n1_ n2_ n3_; clear hb hbox hg) | ((with_reducible refine gate_dst (N := 4) rfl ?_); refine box_event ?hg (N := 4) ?hd (cs := #[.int .i64 a1_0, .int .i64 a1_1, .int .i64 a1_2, .int .i64 a1_3, .int .i64 a1_4, .int .i64 a1_5, .int .i64 a1_6, .slice A1_7 l1_7.length c1_7, .slice A1_8 l1_8.length c1_8]) (t := 60) ?hr ?_; (case hd => rfl); (case hg => rfl); (case hr => first | (go_simp; done) | (go_simp; rfl)); intro gb345 hg w28 hbox hb; have n0_ := AM_ (BB BK344.out hb); have n1_ := AM_ (below_step (BT HB.out) hb); have n2_ := AM_ (hbox); have n3_ := AM_ ((GS HB.out hg)); have n4_ := AM_ ((GS HB.out hg)); have n5_ := AM_ ((NL BK344.out hg)); have n6_ := AM_ ((NG BK344.out hg)); clear BK344; clear HB; have BK344 := n0_; have HB := n1_; have BK345 := n2_; have GW345 := n3_; have GE345 := n4_; have NB344_345 := n5_; have NB345_344 := n6_; clear n0_ n1_ n2_ n3_ n4_ n5_ n6_; clear hb hbox hg; have hnb29 := NB344_345.out; have hnc29 := NB345_344.out; obtain ⟨hcz30_0, hfz30_0⟩ := bk1 BK344.out) | ((with_reducible refine gate_callee (f := 32) rfl ?_); refine goesL_ (some 16) rfl rfl Try.func32 (by kernel_rfl) rfl #[.agg #[.slice A0_0 l0_0.length c0_0], .int .i64 1048576] rfl (by (try simp only [List.map_toArray, List.map_cons, List.map_nil]); first | done | rfl | (simp only [List.length_drop, List.length_take]; rfl)) ?_; (with_reducible refine (laws_szStore.calls k _ _ l0_0 1048576 t346 _ ?side1 ?side2 A4.out).mono ?_); (case side1 => exact CB HR0_0.out HB.out); (case side2 => exact HC0_0.out); rintro e w31 ⟨rfl, hb⟩; refine ⟨_, rfl, ?_⟩; have n0_ := AM_ (BB BK344.out hb); have n1_ := AM_ (BB BK345.out hb); have n2_ := AM_ (below_step (BT HB.out) hb); clear BK344; clear BK345; clear HB; have BK344 := n0_; have BK345 := n1_; have HB := n2_; clear n0_ n1_ n2_; (try clear hb); (try clear hb2); (try clear hk); (try clear hi); obtain ⟨hcz32_0, hcz32_1, hcz32_2, hcz32_3, hcz32_4, hcz32_5, hcz32_6, hcz32_7, hcz32_8, hfz32_0, hfz32_1, hfz32_2, hfz32_3, hfz32_4, hfz32_5, hfz32_6, hfz32_7, hfz32_8⟩ := bk9 BK345.out) | ((with_reducible refine gate_callee (f := 33) rfl ?_); refine goesL_ (some 21) rfl rfl Try.func33 (by kernel_rfl) rfl #[.agg #[.int .i64 a1_0, .int .i64 a1_1, .int .i64 a1_2, .int .i64 a1_3, .int .i64 a1_4, .int .i64 a1_5, .int .i64 a1_6, .slice A1_7 l1_7.length c1_7, .slice A1_8 l1_8.length c1_8], .int .i64 t346] rfl (by (try simp only [List.map_toArray, List.map_cons, List.map_nil]); first | done | rfl | (simp only [List.length_drop, List.length_take]; rfl)) ?_; (with_reducible refine (laws_szTransaction.calls a1_0 a1_1 a1_2 a1_3 a1_4 a1_5 a1_6 _ _ l1_7 _ _ l1_8 t346 t347 _ ?side1 ?side2 ?side3 ?side4 A11.out).mono ?_); (case side1 => exact CB HR1_7.out HB.out); (case side2 => exact HC1_7.out); (case side3 => exact CB HR1_8.out HB.out); (case side4 => exact HC1_8.out); rintro e w33 ⟨rfl, hb⟩; refine ⟨_, rfl, ?_⟩; have n0_ := AM_ (BB BK344.out hb); have n1_ := AM_ (BB BK345.out hb); have n2_ := AM_ (below_step (BT HB.out) hb); clear BK344; clear BK345; clear HB; have BK344 := n0_; have BK345 := n1_; have HB := n2_; clear n0_ n1_ n2_; (try clear hb); (try clear hb2); (try clear hk); (try clear hi)))
 have n0_ := AM_ (blk_drew BK344.out)
 have n1_ := AM_ (blk_drew BK345.out)
 have n2_ := AM_ (below_drew1 HB.out)
 clear BK344
 clear BK345
 clear HB
 have BK344 := n0_
 have BK345 := n1_
 have HB := n2_
 clear n0_ n1_ n2_
 refine start_ (n := 12) (S := fun w' => w'.cell? ⟨gb344, 0, none⟩ = some (.slice A0_0 l0_0.length c0_0) ∧ w'.cell? ⟨gb345, 0, none⟩ = some (.int .i64 a1_0) ∧ w'.cell? ⟨gb345, 1, none⟩ = some (.int .i64 a1_1) ∧ w'.cell? ⟨gb345, 2, none⟩ = some (.int .i64 a1_2) ∧ w'.cell? ⟨gb345, 3, none⟩ = some (.int .i64 a1_3) ∧ w'.cell? ⟨gb345, 4, none⟩ = some (.int .i64 a1_4) ∧ w'.cell? ⟨gb345, 5, none⟩ = some (.int .i64 a1_5) ∧ w'.cell? ⟨gb345, 6, none⟩ = some (.int .i64 a1_6) ∧ w'.cell? ⟨gb345, 7, none⟩ = some (.slice A1_7 l1_7.length c1_7) ∧ w'.cell? ⟨gb345, 8, none⟩ = some (.slice A1_8 l1_8.length c1_8)) (ds := []) (bs 0 12) (by kernel_rfl) rfl rfl ⟨bc BK344.out 0, bc BK345.out 0, bc BK345.out 1, bc BK345.out 2, bc BK345.out 3, bc BK345.out 4, bc BK345.out 5, bc BK345.out 6, bc BK345.out 7, bc BK345.out 8⟩ (fun hHeld => ?_); refine with_tabW laws_FnExactChooseVersion.tab8 laws_FnExactChooseVersion.bits8 (fun HT_ HW_ => ?_)
 generalize w33.drew = w34 at BK344 BK345 HB hHeld ⊢
 refine pu (i := 4) (N := some 29) (v := ?_) (a' := ?_) (bs 16 12) rfl rfl HT_ ?_ ?_ ?_
 rotate_left
 ·intro w'
  go_simp
  with_reducible rfl
 rotate_left
 ·simp only [pA, pS, pZ, pK, i64_w, i32_w]
  rfl
 refine tk (i := 0) (N := some 25) (v := ?_) (a' := ?_) (bs 17 12) rfl rfl HT_ HW_ ?_ hHeld ?_ ?_
 rotate_left
 ·rintro w' ⟨s0, s1, s2, s3, s4, s5, s6, s7, s8, s9⟩
  go_simp
  with_reducible rfl
 rotate_left
 ·simp only [pA, pS, pZ, pK, i64_w, i32_w]
  rfl
 refine tk (i := 2) (N := some 27) (v := ?_) (a' := ?_) (bs 21 12) rfl rfl HT_ HW_ ?_ hHeld ?_ ?_
 rotate_left
 ·rintro w' ⟨s0, s1, s2, s3, s4, s5, s6, s7, s8, s9⟩
  go_simp
  with_reducible rfl
 rotate_left
 ·simp only [pA, pS, pZ, pK, i64_w, i32_w]
  rfl
 refine join_ (σ := Value × Value × Value × Nat) 2 (bs 1023 12) (fun s_ => [(26, .agg #[s_.1]), (28, .agg #[.int .i64 t351, .int .i64 t352, .int .i64 t353, .int .i64 t354, .int .i64 t355, .int .i64 t356, .int .i64 t357, s_.2.1, s_.2.2.1]), (30, .tuple #[.agg #[.int .i64 t364, .int .i64 t365, .int .i64 t366, .int .i64 t367, .int .i64 t368], .int .i64 t369]), (8, .pointer (some ⟨s_.2.2.2, 0, none⟩)), (24, .tuple #[.agg #[.int .i64 t364, .int .i64 t365, .int .i64 t366, .int .i64 t367, .int .i64 t368], .int .i64 t369]), (31, .agg #[.int .i64 t364, .int .i64 t365, .int .i64 t366, .int .i64 t367, .int .i64 t368]), (32, .int .i64 t369)]) (fun s_ w' => (w'.cell? ⟨gb344, 0, none⟩ = some (.slice A0_0 l0_0.length c0_0) ∧ w'.cell? ⟨gb345, 0, none⟩ = some (.int .i64 a1_0) ∧ w'.cell? ⟨gb345, 1, none⟩ = some (.int .i64 a1_1) ∧ w'.cell? ⟨gb345, 2, none⟩ = some (.int .i64 a1_2) ∧ w'.cell? ⟨gb345, 3, none⟩ = some (.int .i64 a1_3) ∧ w'.cell? ⟨gb345, 4, none⟩ = some (.int .i64 a1_4) ∧ w'.cell? ⟨gb345, 5, none⟩ = some (.int .i64 a1_5) ∧ w'.cell? ⟨gb345, 6, none⟩ = some (.int .i64 a1_6) ∧ w'.cell? ⟨gb345, 7, none⟩ = some (.slice A1_7 l1_7.length c1_7) ∧ w'.cell? ⟨gb345, 8, none⟩ = some (.slice A1_8 l1_8.length c1_8)) ∧ (Kd.S (Kd.slice 76 k76) 90 w' w.heap.size (fun k_ => k_ ≠ s_.2.2.2) s_.1 t348) ∧ (Kd.R k165 165 w' w.heap.size (fun _ => True) s_.2.1 t358) ∧ (Kd.R k133 133 w' w.heap.size (fun _ => True) s_.2.2.1 t361) ∧ (w'.heap[gb344]? = some (.cells #[.slice A0_0 l0_0.length c0_0] 39 (0, 0))) ∧ (w'.heap[gb345]? = some (.cells #[.int .i64 a1_0, .int .i64 a1_1, .int .i64 a1_2, .int .i64 a1_3, .int .i64 a1_4, .int .i64 a1_5, .int .i64 a1_6, .slice A1_7 l1_7.length c1_7, .slice A1_8 l1_8.length c1_8] 60 (0, 0))) ∧ (w'.heap[s_.2.2.2]? = some (.cells #[.int .i64 0, .int .i64 0, .int .i64 0, .int .i64 0, .int .i64 0] 76 (0, 0))) ∧ (w.heap.size ≤ s_.2.2.2) ∧ (w.heap.size ≤ s_.2.2.2) ∧ (gb344 ≠ s_.2.2.2) ∧ (s_.2.2.2 ≠ gb344) ∧ (gb345 ≠ s_.2.2.2) ∧ (s_.2.2.2 ≠ gb345) ∧ (Below w.heap.size w w')) ?_ ?_
 rotate_left
 ·intro hCont
  refine two_ (i := 1) (j := 9) (Ni := some 26) (Nj := some 8) (bs 23 12) (bs 533 12) rfl rfl rfl rfl (two_of HT_.out (by kernel_rfl)) (by decide) (by decide) (fun K hK => ?_) (fun K hK => ?_)
  ·skip
   refine goes_ Try.func35 (by kernel_rfl) rfl #[.agg #[.slice A0_0 l0_0.length c0_0]] (by rfl) rfl rfl (by (try simp only [List.map_toArray, List.map_cons, List.map_nil]); first | done | rfl | (simp only [List.length_drop, List.length_take]; rfl)) ?_
   with_reducible refine (laws_toStore.calls k _ _ l0_0 t348 _ ?side1 ?side2 A20.out).mono ?_
   (case side1 => exact CB HR0_0.out HB.out)
   (case side2 => exact HC0_0.out)
   rintro e w35 ⟨v349, rfl, ho0, hb⟩
   refine ⟨_, rfl, ?_⟩
   have n0_ := AM_ (Kd.S_lower ho0 (below_size (BT HB.out)))
   have n1_ := AM_ (BB BK344.out hb)
   have n2_ := AM_ (BB BK345.out hb)
   have n3_ := AM_ (below_step (BT HB.out) hb)
   clear BK344
   clear BK345
   clear HB
   have HO350 := n0_
   have BK344 := n1_
   have BK345 := n2_
   have HB := n3_
   clear n0_ n1_ n2_ n3_
   (try clear hb)
   (try clear hb2)
   (try clear hk)
   (try clear hi)
   (try clear ho0)
   refine hK.out _ _ ⟨bc BK344.out 0, bc BK345.out 0, bc BK345.out 1, bc BK345.out 2, bc BK345.out 3, bc BK345.out 4, bc BK345.out 5, bc BK345.out 6, bc BK345.out 7, bc BK345.out 8⟩ (fun hHeld => ?_)
   clear hK K
   refine norm_ (a' := ?_) ?_ ?_
   rotate_left
   ·show Act.put _ (some 26) _ = _
    simp only [pA, pS, pZ, pK, i64_w, i32_w]
    rfl
   refine two_ (i := 3) (j := 9) (Ni := some 28) (Nj := some 8) (bs 31 12) (bs 535 12) rfl rfl rfl rfl (two_of HT_.out (by kernel_rfl)) (by decide) (by decide) (fun K hK => ?_) (fun K hK => ?_)
   ·skip
    refine goes_ Try.func36 (by kernel_rfl) rfl #[.agg #[.int .i64 a1_0, .int .i64 a1_1, .int .i64 a1_2, .int .i64 a1_3, .int .i64 a1_4, .int .i64 a1_5, .int .i64 a1_6, .slice A1_7 l1_7.length c1_7, .slice A1_8 l1_8.length c1_8]] (by rfl) rfl rfl (by (try simp only [List.map_toArray, List.map_cons, List.map_nil]); first | done | rfl | (simp only [List.length_drop, List.length_take]; rfl)) ?_
    with_reducible refine (laws_toTransaction.calls k a1_0 a1_1 a1_2 a1_3 a1_4 a1_5 a1_6 _ _ l1_7 _ _ l1_8 t351 t352 t353 t354 t355 t356 t357 t358 t361 _ ?side1 ?side2 ?side3 ?side4 A21.out).mono ?_
    (case side1 => exact CB HR1_7.out HB.out)
    (case side2 => exact HC1_7.out)
    (case side3 => exact CB HR1_8.out HB.out)
    (case side4 => exact HC1_8.out)
    rintro e w36 ⟨v359, v362, rfl, ho0, ho1, hb⟩
    refine ⟨_, rfl, ?_⟩
    have n0_ := AM_ (Kd.S_below (by exact SL HO350.out rfl) hb)
    have n1_ := AM_ (Kd.R_lower ho0 (below_size (BT HB.out)))
    have n2_ := AM_ (Kd.R_lower ho1 (below_size (BT HB.out)))
    have n3_ := AM_ (BB BK344.out hb)
    have n4_ := AM_ (BB BK345.out hb)
    have n5_ := AM_ (below_step (BT HB.out) hb)
    clear HO350
    clear BK344
    clear BK345
    clear HB
    have HO350 := n0_
    have HO360 := n1_
    have HO363 := n2_
    have BK344 := n3_
    have BK345 := n4_
    have HB := n5_
    clear n0_ n1_ n2_ n3_ n4_ n5_
    (try clear hb)
    (try clear hb2)
    (try clear hk)
    (try clear hi)
    (try clear ho0)
    (try clear ho1)
    obtain ⟨Ao37, co37, eo37⟩ := Kd.S_slice HO350.out
    (first | subst eo37 | (injection eo37 with f1_ f2_ f3_; have f4_ := f1_.symm; have f5_ := f3_.symm; clear f1_ f2_ f3_; subst f4_; subst f5_))
    obtain ⟨Ao38, co38, eo38⟩ := Kd.R_slice HO360.out
    (first | subst eo38 | (injection eo38 with f1_ f2_ f3_; have f4_ := f1_.symm; have f5_ := f3_.symm; clear f1_ f2_ f3_; subst f4_; subst f5_))
    obtain ⟨Ao39, co39, eo39⟩ := Kd.R_slice HO363.out
    (first | subst eo39 | (injection eo39 with f1_ f2_ f3_; have f4_ := f1_.symm; have f5_ := f3_.symm; clear f1_ f2_ f3_; subst f4_; subst f5_))
    refine hK.out _ _ ⟨bc BK344.out 0, bc BK345.out 0, bc BK345.out 1, bc BK345.out 2, bc BK345.out 3, bc BK345.out 4, bc BK345.out 5, bc BK345.out 6, bc BK345.out 7, bc BK345.out 8⟩ (fun hHeld => ?_)
    clear hK K
    refine norm_ (a' := ?_) ?_ ?_
    rotate_left
    ·show Act.put _ (some 28) _ = _
     simp only [pA, pS, pZ, pK, i64_w, i32_w]
     rfl
    refine two_ (i := 5) (j := 9) (Ni := some 30) (Nj := some 8) (bs 63 12) (bs 543 12) rfl rfl rfl rfl (two_of HT_.out (by kernel_rfl)) (by decide) (by decide) (fun K hK => ?_) (fun K hK => ?_)
    ·skip
     refine goes_ Try.func44 (by kernel_rfl) rfl #[.agg #[.slice Ao37 t348.length co37], .agg #[.int .i64 t351, .int .i64 t352, .int .i64 t353, .int .i64 t354, .int .i64 t355, .int .i64 t356, .int .i64 t357, .slice Ao38 t358.length co38, .slice Ao39 t361.length co39], .int .i64 a2] (by rfl) rfl rfl (by (try simp only [List.map_toArray, List.map_cons, List.map_nil]); first | done | rfl | (simp only [List.length_drop, List.length_take]; rfl)) ?_
     with_reducible refine (spec_ChooseVersion.calls k _ _ t348 t351 t352 t353 t354 t355 t356 t357 _ _ t358 _ _ t361 a2 t364 t365 t366 t367 t368 t369 _ ?side1 ?side2 ?side3 ?side4 ?side5 ?side6 A22.out).mono ?_
     (case side1 => exact Kd.C_below (Kd.S_reads' HO350.out).2.2 (BL (Below.refl _ _) rfl rfl rfl rfl))
     (case side2 => exact (Kd.S_reads' HO350.out).2.1)
     (case side3 => exact Kd.C_below (Kd.R_reads' HO360.out).2.2 (BL (Below.refl _ _) rfl rfl rfl rfl))
     (case side4 => exact (Kd.R_reads' HO360.out).2.1)
     (case side5 => exact Kd.C_below (Kd.R_reads' HO363.out).2.2 (BL (Below.refl _ _) rfl rfl rfl rfl))
     (case side6 => exact (Kd.R_reads' HO363.out).2.1)
     rintro e w40 ⟨rfl, hb⟩
     refine ⟨_, rfl, ?_⟩
     have n0_ := AM_ (Kd.S_below (by exact SL HO350.out rfl) hb)
     have n1_ := AM_ (Kd.R_below (RT HO360.out) hb)
     have n2_ := AM_ (Kd.R_below (RT HO363.out) hb)
     have n3_ := AM_ (BB BK344.out hb)
     have n4_ := AM_ (BB BK345.out hb)
     have n5_ := AM_ (below_step (BT HB.out) hb)
     clear HO350
     clear HO360
     clear HO363
     clear BK344
     clear BK345
     clear HB
     have HO350 := n0_
     have HO360 := n1_
     have HO363 := n2_
     have BK344 := n3_
     have BK345 := n4_
     have HB := n5_
     clear n0_ n1_ n2_ n3_ n4_ n5_
     (try clear hb)
     (try clear hb2)
     (try clear hk)
     (try clear hi)
     refine hK.out _ _ ⟨bc BK344.out 0, bc BK345.out 0, bc BK345.out 1, bc BK345.out 2, bc BK345.out 3, bc BK345.out 4, bc BK345.out 5, bc BK345.out 6, bc BK345.out 7, bc BK345.out 8⟩ (fun hHeld => ?_)
     clear hK K
     refine norm_ (a' := ?_) ?_ ?_
     rotate_left
     ·show Act.put _ (some 30) _ = _
      simp only [pA, pS, pZ, pK, i64_w, i32_w]
      rfl
     refine pu (i := 6) (N := some 24) (v := ?_) (a' := ?_) (bs 127 12) rfl rfl HT_ ?_ ?_ ?_
     rotate_left
     ·intro w'
      go_simp
      with_reducible rfl
     rotate_left
     ·simp only [pA, pS, pZ, pK, i64_w, i32_w]
      rfl
     refine pu (i := 7) (N := some 31) (v := ?_) (a' := ?_) (bs 255 12) rfl rfl HT_ ?_ ?_ ?_
     rotate_left
     ·intro w'
      go_simp
      with_reducible rfl
     rotate_left
     ·simp only [pA, pS, pZ, pK, i64_w, i32_w]
      rfl
     refine pu (i := 8) (N := some 32) (v := ?_) (a' := ?_) (bs 511 12) rfl rfl HT_ ?_ ?_ ?_
     rotate_left
     ·intro w'
      go_simp
      with_reducible rfl
     rotate_left
     ·simp only [pA, pS, pZ, pK, i64_w, i32_w]
      rfl
     refine one_ (i := 9) (N := some 8) (bs 1023 12) rfl rfl (one_of HT_.out (by kernel_rfl)) (by decide) (fun K hK => ?_)
     refine box_step ?hg (N := 8) ?hd (cs := #[.int .i64 0, .int .i64 0, .int .i64 0, .int .i64 0, .int .i64 0]) (t := 76) ?hr ?_; (case hd => rfl); (case hg => rfl); (case hr => first | (go_simp; done) | (go_simp; rfl))
     intro gb370 hg w41 hbox hb
     have n0_ := AM_ (Kd.S_below (Kd.S_elderB (by exact SL HO350.out rfl) gb370 (Nat.le_of_eq hg.symm)) hb)
     have n1_ := AM_ (Kd.R_below (RT HO360.out) hb)
     have n2_ := AM_ (Kd.R_below (RT HO363.out) hb)
     have n3_ := AM_ (BB BK344.out hb)
     have n4_ := AM_ (BB BK345.out hb)
     have n5_ := AM_ (below_step (BT HB.out) hb)
     have n6_ := AM_ (hbox)
     have n7_ := AM_ ((GS HB.out hg))
     have n8_ := AM_ ((GS HB.out hg))
     have n9_ := AM_ ((NL BK344.out hg))
     have n10_ := AM_ ((NG BK344.out hg))
     have n11_ := AM_ ((NL BK345.out hg))
     have n12_ := AM_ ((NG BK345.out hg))
     clear HO350
     clear HO360
     clear HO363
     clear BK344
     clear BK345
     clear HB
     have HO350 := n0_
     have HO360 := n1_
     have HO363 := n2_
     have BK344 := n3_
     have BK345 := n4_
     have HB := n5_
     have BK370 := n6_
     have GW370 := n7_
     have GE370 := n8_
     have NB344_370 := n9_
     have NB370_344 := n10_
     have NB345_370 := n11_
     have NB370_345 := n12_
     clear n0_ n1_ n2_ n3_ n4_ n5_ n6_ n7_ n8_ n9_ n10_ n11_ n12_
     clear hb hbox hg
     refine hK.out _ _ ⟨bc BK344.out 0, bc BK345.out 0, bc BK345.out 1, bc BK345.out 2, bc BK345.out 3, bc BK345.out 4, bc BK345.out 5, bc BK345.out 6, bc BK345.out 7, bc BK345.out 8⟩ (fun hHeld => ?_)
     clear hK K
     refine norm_ (a' := ?_) ?_ ?_
     rotate_left
     ·show Act.put _ (some 8) _ = _
      simp only [pA, pS, pZ, pK, i64_w, i32_w]
      rfl
     exact norm_ (by simp only [putAll, Act.put, List.setIfInBounds_toArray, List.set_cons_zero, List.set_cons_succ]) (hCont (.slice Ao37 t348.length co37, .slice Ao38 t358.length co38, .slice Ao39 t361.length co39, gb370) _ ⟨hHeld, (by (with_reducible repeat (first | apply Kd.S_alloc | apply Kd.S_drewN | apply Kd.S_drew)); exact Kd.S_mono HO350.out (fun _ hk => hk.2)), (RT HO360.out), (RT HO363.out), (by (with_reducible repeat (first | refine blk_drewN ?_ _ | refine blk_drew ?_ | refine blk_alloc ?_ _)); exact BK344.out), (by (with_reducible repeat (first | refine blk_drewN ?_ _ | refine blk_drew ?_ | refine blk_alloc ?_ _)); exact BK345.out), (by (with_reducible repeat (first | refine blk_drewN ?_ _ | refine blk_drew ?_ | refine blk_alloc ?_ _)); exact BK370.out), GW370.out, GE370.out, NB344_370.out, NB370_344.out, NB345_370.out, NB370_345.out, (BT HB.out)⟩)
    ·skip
     refine box_step ?hg (N := 8) ?hd (cs := #[.int .i64 0, .int .i64 0, .int .i64 0, .int .i64 0, .int .i64 0]) (t := 76) ?hr ?_; (case hd => rfl); (case hg => rfl); (case hr => first | (go_simp; done) | (go_simp; rfl))
     intro gb370 hg w37 hbox hb
     have n0_ := AM_ (Kd.S_below (Kd.S_elderB (by exact SL HO350.out rfl) gb370 (Nat.le_of_eq hg.symm)) hb)
     have n1_ := AM_ (Kd.R_below (RT HO360.out) hb)
     have n2_ := AM_ (Kd.R_below (RT HO363.out) hb)
     have n3_ := AM_ (BB BK344.out hb)
     have n4_ := AM_ (BB BK345.out hb)
     have n5_ := AM_ (below_step (BT HB.out) hb)
     have n6_ := AM_ (hbox)
     have n7_ := AM_ ((GS HB.out hg))
     have n8_ := AM_ ((GS HB.out hg))
     have n9_ := AM_ ((NL BK344.out hg))
     have n10_ := AM_ ((NG BK344.out hg))
     have n11_ := AM_ ((NL BK345.out hg))
     have n12_ := AM_ ((NG BK345.out hg))
     clear HO350
     clear HO360
     clear HO363
     clear BK344
     clear BK345
     clear HB
     have HO350 := n0_
     have HO360 := n1_
     have HO363 := n2_
     have BK344 := n3_
     have BK345 := n4_
     have HB := n5_
     have BK370 := n6_
     have GW370 := n7_
     have GE370 := n8_
     have NB344_370 := n9_
     have NB370_344 := n10_
     have NB345_370 := n11_
     have NB370_345 := n12_
     clear n0_ n1_ n2_ n3_ n4_ n5_ n6_ n7_ n8_ n9_ n10_ n11_ n12_
     clear hb hbox hg
     obtain ⟨Ao38, co38, eo38⟩ := Kd.S_slice HO350.out
     (first | subst eo38 | (injection eo38 with f1_ f2_ f3_; have f4_ := f1_.symm; have f5_ := f3_.symm; clear f1_ f2_ f3_; subst f4_; subst f5_))
     obtain ⟨Ao39, co39, eo39⟩ := Kd.R_slice HO360.out
     (first | subst eo39 | (injection eo39 with f1_ f2_ f3_; have f4_ := f1_.symm; have f5_ := f3_.symm; clear f1_ f2_ f3_; subst f4_; subst f5_))
     obtain ⟨Ao40, co40, eo40⟩ := Kd.R_slice HO363.out
     (first | subst eo40 | (injection eo40 with f1_ f2_ f3_; have f4_ := f1_.symm; have f5_ := f3_.symm; clear f1_ f2_ f3_; subst f4_; subst f5_))
     refine hK.out _ _ ⟨bc BK344.out 0, bc BK345.out 0, bc BK345.out 1, bc BK345.out 2, bc BK345.out 3, bc BK345.out 4, bc BK345.out 5, bc BK345.out 6, bc BK345.out 7, bc BK345.out 8⟩ (fun hHeld => ?_)
     clear hK K
     refine norm_ (a' := ?_) ?_ ?_
     rotate_left
     ·show Act.put _ (some 8) _ = _
      simp only [pA, pS, pZ, pK, i64_w, i32_w]
      rfl
     refine one_ (i := 5) (N := some 30) (bs 575 12) rfl rfl (one_of HT_.out (by kernel_rfl)) (by decide) (fun K hK => ?_)
     refine goes_ Try.func44 (by kernel_rfl) rfl #[.agg #[.slice Ao38 t348.length co38], .agg #[.int .i64 t351, .int .i64 t352, .int .i64 t353, .int .i64 t354, .int .i64 t355, .int .i64 t356, .int .i64 t357, .slice Ao39 t358.length co39, .slice Ao40 t361.length co40], .int .i64 a2] (by rfl) rfl rfl (by (try simp only [List.map_toArray, List.map_cons, List.map_nil]); first | done | rfl | (simp only [List.length_drop, List.length_take]; rfl)) ?_
     with_reducible refine (spec_ChooseVersion.calls k _ _ t348 t351 t352 t353 t354 t355 t356 t357 _ _ t358 _ _ t361 a2 t364 t365 t366 t367 t368 t369 _ ?side1 ?side2 ?side3 ?side4 ?side5 ?side6 A22.out).mono ?_
     (case side1 => exact Kd.C_below (Kd.S_reads' HO350.out).2.2 (BL (Below.refl _ _) rfl rfl rfl rfl))
     (case side2 => exact (Kd.S_reads' HO350.out).2.1)
     (case side3 => exact Kd.C_below (Kd.R_reads' HO360.out).2.2 (BL (Below.refl _ _) rfl rfl rfl rfl))
     (case side4 => exact (Kd.R_reads' HO360.out).2.1)
     (case side5 => exact Kd.C_below (Kd.R_reads' HO363.out).2.2 (BL (Below.refl _ _) rfl rfl rfl rfl))
     (case side6 => exact (Kd.R_reads' HO363.out).2.1)
     rintro e w41 ⟨rfl, hb⟩
     refine ⟨_, rfl, ?_⟩
     have n0_ := AM_ (Kd.S_below (by exact SL HO350.out rfl) hb)
     have n1_ := AM_ (Kd.R_below (RT HO360.out) hb)
     have n2_ := AM_ (Kd.R_below (RT HO363.out) hb)
     have n3_ := AM_ (BB BK344.out hb)
     have n4_ := AM_ (BB BK345.out hb)
     have n5_ := AM_ (BB BK370.out hb)
     have n6_ := AM_ (below_step (BT HB.out) hb)
     clear HO350
     clear HO360
     clear HO363
     clear BK344
     clear BK345
     clear BK370
     clear HB
     have HO350 := n0_
     have HO360 := n1_
     have HO363 := n2_
     have BK344 := n3_
     have BK345 := n4_
     have BK370 := n5_
     have HB := n6_
     clear n0_ n1_ n2_ n3_ n4_ n5_ n6_
     (try clear hb)
     (try clear hb2)
     (try clear hk)
     (try clear hi)
     refine hK.out _ _ ⟨bc BK344.out 0, bc BK345.out 0, bc BK345.out 1, bc BK345.out 2, bc BK345.out 3, bc BK345.out 4, bc BK345.out 5, bc BK345.out 6, bc BK345.out 7, bc BK345.out 8⟩ (fun hHeld => ?_)
     clear hK K
     refine norm_ (a' := ?_) ?_ ?_
     rotate_left
     ·show Act.put _ (some 30) _ = _
      simp only [pA, pS, pZ, pK, i64_w, i32_w]
      rfl
     refine pu (i := 6) (N := some 24) (v := ?_) (a' := ?_) (bs 639 12) rfl rfl HT_ ?_ ?_ ?_
     rotate_left
     ·intro w'
      go_simp
      with_reducible rfl
     rotate_left
     ·simp only [pA, pS, pZ, pK, i64_w, i32_w]
      rfl
     refine pu (i := 7) (N := some 31) (v := ?_) (a' := ?_) (bs 767 12) rfl rfl HT_ ?_ ?_ ?_
     rotate_left
     ·intro w'
      go_simp
      with_reducible rfl
     rotate_left
     ·simp only [pA, pS, pZ, pK, i64_w, i32_w]
      rfl
     refine pu (i := 8) (N := some 32) (v := ?_) (a' := ?_) (bs 1023 12) rfl rfl HT_ ?_ ?_ ?_
     rotate_left
     ·intro w'
      go_simp
      with_reducible rfl
     rotate_left
     ·simp only [pA, pS, pZ, pK, i64_w, i32_w]
      rfl
     exact norm_ (by simp only [putAll, Act.put, List.setIfInBounds_toArray, List.set_cons_zero, List.set_cons_succ]) (hCont (.slice Ao38 t348.length co38, .slice Ao39 t358.length co39, .slice Ao40 t361.length co40, gb370) _ ⟨hHeld, (by (with_reducible repeat (first | apply Kd.S_alloc | apply Kd.S_drewN | apply Kd.S_drew)); exact Kd.S_mono HO350.out (fun _ hk => hk.2)), (RT HO360.out), (RT HO363.out), (by (with_reducible repeat (first | refine blk_drewN ?_ _ | refine blk_drew ?_ | refine blk_alloc ?_ _)); exact BK344.out), (by (with_reducible repeat (first | refine blk_drewN ?_ _ | refine blk_drew ?_ | refine blk_alloc ?_ _)); exact BK345.out), (by (with_reducible repeat (first | refine blk_drewN ?_ _ | refine blk_drew ?_ | refine blk_alloc ?_ _)); exact BK370.out), GW370.out, GE370.out, NB344_370.out, NB370_344.out, NB345_370.out, NB370_345.out, (BT HB.out)⟩)
   ·skip
    refine box_step ?hg (N := 8) ?hd (cs := #[.int .i64 0, .int .i64 0, .int .i64 0, .int .i64 0, .int .i64 0]) (t := 76) ?hr ?_; (case hd => rfl); (case hg => rfl); (case hr => first | (go_simp; done) | (go_simp; rfl))
    intro gb370 hg w36 hbox hb
    have n0_ := AM_ (Kd.S_below (Kd.S_elderB (by exact SL HO350.out rfl) gb370 (Nat.le_of_eq hg.symm)) hb)
    have n1_ := AM_ (BB BK344.out hb)
    have n2_ := AM_ (BB BK345.out hb)
    have n3_ := AM_ (below_step (BT HB.out) hb)
    have n4_ := AM_ (hbox)
    have n5_ := AM_ ((GS HB.out hg))
    have n6_ := AM_ ((GS HB.out hg))
    have n7_ := AM_ ((NL BK344.out hg))
    have n8_ := AM_ ((NG BK344.out hg))
    have n9_ := AM_ ((NL BK345.out hg))
    have n10_ := AM_ ((NG BK345.out hg))
    clear HO350
    clear BK344
    clear BK345
    clear HB
    have HO350 := n0_
    have BK344 := n1_
    have BK345 := n2_
    have HB := n3_
    have BK370 := n4_
    have GW370 := n5_
    have GE370 := n6_
    have NB344_370 := n7_
    have NB370_344 := n8_
    have NB345_370 := n9_
    have NB370_345 := n10_
    clear n0_ n1_ n2_ n3_ n4_ n5_ n6_ n7_ n8_ n9_ n10_
    clear hb hbox hg
    refine hK.out _ _ ⟨bc BK344.out 0, bc BK345.out 0, bc BK345.out 1, bc BK345.out 2, bc BK345.out 3, bc BK345.out 4, bc BK345.out 5, bc BK345.out 6, bc BK345.out 7, bc BK345.out 8⟩ (fun hHeld => ?_)
    clear hK K
    refine norm_ (a' := ?_) ?_ ?_
    rotate_left
    ·show Act.put _ (some 8) _ = _
     simp only [pA, pS, pZ, pK, i64_w, i32_w]
     rfl
    refine one_ (i := 3) (N := some 28) (bs 543 12) rfl rfl (one_of HT_.out (by kernel_rfl)) (by decide) (fun K hK => ?_)
    refine goes_ Try.func36 (by kernel_rfl) rfl #[.agg #[.int .i64 a1_0, .int .i64 a1_1, .int .i64 a1_2, .int .i64 a1_3, .int .i64 a1_4, .int .i64 a1_5, .int .i64 a1_6, .slice A1_7 l1_7.length c1_7, .slice A1_8 l1_8.length c1_8]] (by rfl) rfl rfl (by (try simp only [List.map_toArray, List.map_cons, List.map_nil]); first | done | rfl | (simp only [List.length_drop, List.length_take]; rfl)) ?_
    with_reducible refine (laws_toTransaction.calls k a1_0 a1_1 a1_2 a1_3 a1_4 a1_5 a1_6 _ _ l1_7 _ _ l1_8 t351 t352 t353 t354 t355 t356 t357 t358 t361 _ ?side1 ?side2 ?side3 ?side4 A21.out).mono ?_
    (case side1 => exact CB HR1_7.out HB.out)
    (case side2 => exact HC1_7.out)
    (case side3 => exact CB HR1_8.out HB.out)
    (case side4 => exact HC1_8.out)
    rintro e w37 ⟨v359, v362, rfl, ho0, ho1, hb⟩
    refine ⟨_, rfl, ?_⟩
    have n0_ := AM_ (Kd.S_below (by exact SL HO350.out rfl) hb)
    have n1_ := AM_ (Kd.R_lower ho0 (below_size (BT HB.out)))
    have n2_ := AM_ (Kd.R_lower ho1 (below_size (BT HB.out)))
    have n3_ := AM_ (BB BK344.out hb)
    have n4_ := AM_ (BB BK345.out hb)
    have n5_ := AM_ (BB BK370.out hb)
    have n6_ := AM_ (below_step (BT HB.out) hb)
    clear HO350
    clear BK344
    clear BK345
    clear BK370
    clear HB
    have HO350 := n0_
    have HO360 := n1_
    have HO363 := n2_
    have BK344 := n3_
    have BK345 := n4_
    have BK370 := n5_
    have HB := n6_
    clear n0_ n1_ n2_ n3_ n4_ n5_ n6_
    (try clear hb)
    (try clear hb2)
    (try clear hk)
    (try clear hi)
    (try clear ho0)
    (try clear ho1)
    obtain ⟨Ao38, co38, eo38⟩ := Kd.S_slice HO350.out
    (first | subst eo38 | (injection eo38 with f1_ f2_ f3_; have f4_ := f1_.symm; have f5_ := f3_.symm; clear f1_ f2_ f3_; subst f4_; subst f5_))
    obtain ⟨Ao39, co39, eo39⟩ := Kd.R_slice HO360.out
    (first | subst eo39 | (injection eo39 with f1_ f2_ f3_; have f4_ := f1_.symm; have f5_ := f3_.symm; clear f1_ f2_ f3_; subst f4_; subst f5_))
    obtain ⟨Ao40, co40, eo40⟩ := Kd.R_slice HO363.out
    (first | subst eo40 | (injection eo40 with f1_ f2_ f3_; have f4_ := f1_.symm; have f5_ := f3_.symm; clear f1_ f2_ f3_; subst f4_; subst f5_))
    refine hK.out _ _ ⟨bc BK344.out 0, bc BK345.out 0, bc BK345.out 1, bc BK345.out 2, bc BK345.out 3, bc BK345.out 4, bc BK345.out 5, bc BK345.out 6, bc BK345.out 7, bc BK345.out 8⟩ (fun hHeld => ?_)
    clear hK K
    refine norm_ (a' := ?_) ?_ ?_
    rotate_left
    ·show Act.put _ (some 28) _ = _
     simp only [pA, pS, pZ, pK, i64_w, i32_w]
     rfl
    refine one_ (i := 5) (N := some 30) (bs 575 12) rfl rfl (one_of HT_.out (by kernel_rfl)) (by decide) (fun K hK => ?_)
    refine goes_ Try.func44 (by kernel_rfl) rfl #[.agg #[.slice Ao38 t348.length co38], .agg #[.int .i64 t351, .int .i64 t352, .int .i64 t353, .int .i64 t354, .int .i64 t355, .int .i64 t356, .int .i64 t357, .slice Ao39 t358.length co39, .slice Ao40 t361.length co40], .int .i64 a2] (by rfl) rfl rfl (by (try simp only [List.map_toArray, List.map_cons, List.map_nil]); first | done | rfl | (simp only [List.length_drop, List.length_take]; rfl)) ?_
    with_reducible refine (spec_ChooseVersion.calls k _ _ t348 t351 t352 t353 t354 t355 t356 t357 _ _ t358 _ _ t361 a2 t364 t365 t366 t367 t368 t369 _ ?side1 ?side2 ?side3 ?side4 ?side5 ?side6 A22.out).mono ?_
    (case side1 => exact Kd.C_below (Kd.S_reads' HO350.out).2.2 (BL (Below.refl _ _) rfl rfl rfl rfl))
    (case side2 => exact (Kd.S_reads' HO350.out).2.1)
    (case side3 => exact Kd.C_below (Kd.R_reads' HO360.out).2.2 (BL (Below.refl _ _) rfl rfl rfl rfl))
    (case side4 => exact (Kd.R_reads' HO360.out).2.1)
    (case side5 => exact Kd.C_below (Kd.R_reads' HO363.out).2.2 (BL (Below.refl _ _) rfl rfl rfl rfl))
    (case side6 => exact (Kd.R_reads' HO363.out).2.1)
    rintro e w41 ⟨rfl, hb⟩
    refine ⟨_, rfl, ?_⟩
    have n0_ := AM_ (Kd.S_below (by exact SL HO350.out rfl) hb)
    have n1_ := AM_ (Kd.R_below (RT HO360.out) hb)
    have n2_ := AM_ (Kd.R_below (RT HO363.out) hb)
    have n3_ := AM_ (BB BK344.out hb)
    have n4_ := AM_ (BB BK345.out hb)
    have n5_ := AM_ (BB BK370.out hb)
    have n6_ := AM_ (below_step (BT HB.out) hb)
    clear HO350
    clear HO360
    clear HO363
    clear BK344
    clear BK345
    clear BK370
    clear HB
    have HO350 := n0_
    have HO360 := n1_
    have HO363 := n2_
    have BK344 := n3_
    have BK345 := n4_
    have BK370 := n5_
    have HB := n6_
    clear n0_ n1_ n2_ n3_ n4_ n5_ n6_
    (try clear hb)
    (try clear hb2)
    (try clear hk)
    (try clear hi)
    refine hK.out _ _ ⟨bc BK344.out 0, bc BK345.out 0, bc BK345.out 1, bc BK345.out 2, bc BK345.out 3, bc BK345.out 4, bc BK345.out 5, bc BK345.out 6, bc BK345.out 7, bc BK345.out 8⟩ (fun hHeld => ?_)
    clear hK K
    refine norm_ (a' := ?_) ?_ ?_
    rotate_left
    ·show Act.put _ (some 30) _ = _
     simp only [pA, pS, pZ, pK, i64_w, i32_w]
     rfl
    refine pu (i := 6) (N := some 24) (v := ?_) (a' := ?_) (bs 639 12) rfl rfl HT_ ?_ ?_ ?_
    rotate_left
    ·intro w'
     go_simp
     with_reducible rfl
    rotate_left
    ·simp only [pA, pS, pZ, pK, i64_w, i32_w]
     rfl
    refine pu (i := 7) (N := some 31) (v := ?_) (a' := ?_) (bs 767 12) rfl rfl HT_ ?_ ?_ ?_
    rotate_left
    ·intro w'
     go_simp
     with_reducible rfl
    rotate_left
    ·simp only [pA, pS, pZ, pK, i64_w, i32_w]
     rfl
    refine pu (i := 8) (N := some 32) (v := ?_) (a' := ?_) (bs 1023 12) rfl rfl HT_ ?_ ?_ ?_
    rotate_left
    ·intro w'
     go_simp
     with_reducible rfl
    rotate_left
    ·simp only [pA, pS, pZ, pK, i64_w, i32_w]
     rfl
    exact norm_ (by simp only [putAll, Act.put, List.setIfInBounds_toArray, List.set_cons_zero, List.set_cons_succ]) (hCont (.slice Ao38 t348.length co38, .slice Ao39 t358.length co39, .slice Ao40 t361.length co40, gb370) _ ⟨hHeld, (by (with_reducible repeat (first | apply Kd.S_alloc | apply Kd.S_drewN | apply Kd.S_drew)); exact Kd.S_mono HO350.out (fun _ hk => hk.2)), (RT HO360.out), (RT HO363.out), (by (with_reducible repeat (first | refine blk_drewN ?_ _ | refine blk_drew ?_ | refine blk_alloc ?_ _)); exact BK344.out), (by (with_reducible repeat (first | refine blk_drewN ?_ _ | refine blk_drew ?_ | refine blk_alloc ?_ _)); exact BK345.out), (by (with_reducible repeat (first | refine blk_drewN ?_ _ | refine blk_drew ?_ | refine blk_alloc ?_ _)); exact BK370.out), GW370.out, GE370.out, NB344_370.out, NB370_344.out, NB345_370.out, NB370_345.out, (BT HB.out)⟩)
  ·skip
   refine box_step ?hg (N := 8) ?hd (cs := #[.int .i64 0, .int .i64 0, .int .i64 0, .int .i64 0, .int .i64 0]) (t := 76) ?hr ?_; (case hd => rfl); (case hg => rfl); (case hr => first | (go_simp; done) | (go_simp; rfl))
   intro gb370 hg w35 hbox hb
   have n0_ := AM_ (BB BK344.out hb)
   have n1_ := AM_ (BB BK345.out hb)
   have n2_ := AM_ (below_step (BT HB.out) hb)
   have n3_ := AM_ (hbox)
   have n4_ := AM_ ((GS HB.out hg))
   have n5_ := AM_ ((GS HB.out hg))
   have n6_ := AM_ ((NL BK344.out hg))
   have n7_ := AM_ ((NG BK344.out hg))
   have n8_ := AM_ ((NL BK345.out hg))
   have n9_ := AM_ ((NG BK345.out hg))
   clear BK344
   clear BK345
   clear HB
   have BK344 := n0_
   have BK345 := n1_
   have HB := n2_
   have BK370 := n3_
   have GW370 := n4_
   have GE370 := n5_
   have NB344_370 := n6_
   have NB370_344 := n7_
   have NB345_370 := n8_
   have NB370_345 := n9_
   clear n0_ n1_ n2_ n3_ n4_ n5_ n6_ n7_ n8_ n9_
   clear hb hbox hg
   refine hK.out _ _ ⟨bc BK344.out 0, bc BK345.out 0, bc BK345.out 1, bc BK345.out 2, bc BK345.out 3, bc BK345.out 4, bc BK345.out 5, bc BK345.out 6, bc BK345.out 7, bc BK345.out 8⟩ (fun hHeld => ?_)
   clear hK K
   refine norm_ (a' := ?_) ?_ ?_
   rotate_left
   ·show Act.put _ (some 8) _ = _
    simp only [pA, pS, pZ, pK, i64_w, i32_w]
    rfl
   refine one_ (i := 1) (N := some 26) (bs 535 12) rfl rfl (one_of HT_.out (by kernel_rfl)) (by decide) (fun K hK => ?_)
   refine goes_ Try.func35 (by kernel_rfl) rfl #[.agg #[.slice A0_0 l0_0.length c0_0]] (by rfl) rfl rfl (by (try simp only [List.map_toArray, List.map_cons, List.map_nil]); first | done | rfl | (simp only [List.length_drop, List.length_take]; rfl)) ?_
   with_reducible refine (laws_toStore.calls k _ _ l0_0 t348 _ ?side1 ?side2 A20.out).mono ?_
   (case side1 => exact CB HR0_0.out HB.out)
   (case side2 => exact HC0_0.out)
   rintro e w36 ⟨v349, rfl, ho0, hb⟩
   refine ⟨_, rfl, ?_⟩
   have n0_ := AM_ (Kd.S_lower (Kd.S_newB ho0 (g := gb370) (o := .cells #[.int .i64 0, .int .i64 0, .int .i64 0, .int .i64 0, .int .i64 0] 76 (0, 0)) (by (with_reducible repeat (first | refine blk_drewN ?_ _ | refine blk_drew ?_ | refine blk_alloc ?_ _)); exact BK370.out)) (below_size (BT HB.out)))
   have n1_ := AM_ (BB BK344.out hb)
   have n2_ := AM_ (BB BK345.out hb)
   have n3_ := AM_ (BB BK370.out hb)
   have n4_ := AM_ (below_step (BT HB.out) hb)
   clear BK344
   clear BK345
   clear BK370
   clear HB
   have HO350 := n0_
   have BK344 := n1_
   have BK345 := n2_
   have BK370 := n3_
   have HB := n4_
   clear n0_ n1_ n2_ n3_ n4_
   (try clear hb)
   (try clear hb2)
   (try clear hk)
   (try clear hi)
   (try clear ho0)
   refine hK.out _ _ ⟨bc BK344.out 0, bc BK345.out 0, bc BK345.out 1, bc BK345.out 2, bc BK345.out 3, bc BK345.out 4, bc BK345.out 5, bc BK345.out 6, bc BK345.out 7, bc BK345.out 8⟩ (fun hHeld => ?_)
   clear hK K
   refine norm_ (a' := ?_) ?_ ?_
   rotate_left
   ·show Act.put _ (some 26) _ = _
    simp only [pA, pS, pZ, pK, i64_w, i32_w]
    rfl
   refine one_ (i := 3) (N := some 28) (bs 543 12) rfl rfl (one_of HT_.out (by kernel_rfl)) (by decide) (fun K hK => ?_)
   refine goes_ Try.func36 (by kernel_rfl) rfl #[.agg #[.int .i64 a1_0, .int .i64 a1_1, .int .i64 a1_2, .int .i64 a1_3, .int .i64 a1_4, .int .i64 a1_5, .int .i64 a1_6, .slice A1_7 l1_7.length c1_7, .slice A1_8 l1_8.length c1_8]] (by rfl) rfl rfl (by (try simp only [List.map_toArray, List.map_cons, List.map_nil]); first | done | rfl | (simp only [List.length_drop, List.length_take]; rfl)) ?_
   with_reducible refine (laws_toTransaction.calls k a1_0 a1_1 a1_2 a1_3 a1_4 a1_5 a1_6 _ _ l1_7 _ _ l1_8 t351 t352 t353 t354 t355 t356 t357 t358 t361 _ ?side1 ?side2 ?side3 ?side4 A21.out).mono ?_
   (case side1 => exact CB HR1_7.out HB.out)
   (case side2 => exact HC1_7.out)
   (case side3 => exact CB HR1_8.out HB.out)
   (case side4 => exact HC1_8.out)
   rintro e w37 ⟨v359, v362, rfl, ho0, ho1, hb⟩
   refine ⟨_, rfl, ?_⟩
   have n0_ := AM_ (Kd.S_below (by exact SL HO350.out rfl) hb)
   have n1_ := AM_ (Kd.R_lower ho0 (below_size (BT HB.out)))
   have n2_ := AM_ (Kd.R_lower ho1 (below_size (BT HB.out)))
   have n3_ := AM_ (BB BK344.out hb)
   have n4_ := AM_ (BB BK345.out hb)
   have n5_ := AM_ (BB BK370.out hb)
   have n6_ := AM_ (below_step (BT HB.out) hb)
   clear HO350
   clear BK344
   clear BK345
   clear BK370
   clear HB
   have HO350 := n0_
   have HO360 := n1_
   have HO363 := n2_
   have BK344 := n3_
   have BK345 := n4_
   have BK370 := n5_
   have HB := n6_
   clear n0_ n1_ n2_ n3_ n4_ n5_ n6_
   (try clear hb)
   (try clear hb2)
   (try clear hk)
   (try clear hi)
   (try clear ho0)
   (try clear ho1)
   obtain ⟨Ao38, co38, eo38⟩ := Kd.S_slice HO350.out
   (first | subst eo38 | (injection eo38 with f1_ f2_ f3_; have f4_ := f1_.symm; have f5_ := f3_.symm; clear f1_ f2_ f3_; subst f4_; subst f5_))
   obtain ⟨Ao39, co39, eo39⟩ := Kd.R_slice HO360.out
   (first | subst eo39 | (injection eo39 with f1_ f2_ f3_; have f4_ := f1_.symm; have f5_ := f3_.symm; clear f1_ f2_ f3_; subst f4_; subst f5_))
   obtain ⟨Ao40, co40, eo40⟩ := Kd.R_slice HO363.out
   (first | subst eo40 | (injection eo40 with f1_ f2_ f3_; have f4_ := f1_.symm; have f5_ := f3_.symm; clear f1_ f2_ f3_; subst f4_; subst f5_))
   refine hK.out _ _ ⟨bc BK344.out 0, bc BK345.out 0, bc BK345.out 1, bc BK345.out 2, bc BK345.out 3, bc BK345.out 4, bc BK345.out 5, bc BK345.out 6, bc BK345.out 7, bc BK345.out 8⟩ (fun hHeld => ?_)
   clear hK K
   refine norm_ (a' := ?_) ?_ ?_
   rotate_left
   ·show Act.put _ (some 28) _ = _
    simp only [pA, pS, pZ, pK, i64_w, i32_w]
    rfl
   refine one_ (i := 5) (N := some 30) (bs 575 12) rfl rfl (one_of HT_.out (by kernel_rfl)) (by decide) (fun K hK => ?_)
   refine goes_ Try.func44 (by kernel_rfl) rfl #[.agg #[.slice Ao38 t348.length co38], .agg #[.int .i64 t351, .int .i64 t352, .int .i64 t353, .int .i64 t354, .int .i64 t355, .int .i64 t356, .int .i64 t357, .slice Ao39 t358.length co39, .slice Ao40 t361.length co40], .int .i64 a2] (by rfl) rfl rfl (by (try simp only [List.map_toArray, List.map_cons, List.map_nil]); first | done | rfl | (simp only [List.length_drop, List.length_take]; rfl)) ?_
   with_reducible refine (spec_ChooseVersion.calls k _ _ t348 t351 t352 t353 t354 t355 t356 t357 _ _ t358 _ _ t361 a2 t364 t365 t366 t367 t368 t369 _ ?side1 ?side2 ?side3 ?side4 ?side5 ?side6 A22.out).mono ?_
   (case side1 => exact Kd.C_below (Kd.S_reads' HO350.out).2.2 (BL (Below.refl _ _) rfl rfl rfl rfl))
   (case side2 => exact (Kd.S_reads' HO350.out).2.1)
   (case side3 => exact Kd.C_below (Kd.R_reads' HO360.out).2.2 (BL (Below.refl _ _) rfl rfl rfl rfl))
   (case side4 => exact (Kd.R_reads' HO360.out).2.1)
   (case side5 => exact Kd.C_below (Kd.R_reads' HO363.out).2.2 (BL (Below.refl _ _) rfl rfl rfl rfl))
   (case side6 => exact (Kd.R_reads' HO363.out).2.1)
   rintro e w41 ⟨rfl, hb⟩
   refine ⟨_, rfl, ?_⟩
   have n0_ := AM_ (Kd.S_below (by exact SL HO350.out rfl) hb)
   have n1_ := AM_ (Kd.R_below (RT HO360.out) hb)
   have n2_ := AM_ (Kd.R_below (RT HO363.out) hb)
   have n3_ := AM_ (BB BK344.out hb)
   have n4_ := AM_ (BB BK345.out hb)
   have n5_ := AM_ (BB BK370.out hb)
   have n6_ := AM_ (below_step (BT HB.out) hb)
   clear HO350
   clear HO360
   clear HO363
   clear BK344
   clear BK345
   clear BK370
   clear HB
   have HO350 := n0_
   have HO360 := n1_
   have HO363 := n2_
   have BK344 := n3_
   have BK345 := n4_
   have BK370 := n5_
   have HB := n6_
   clear n0_ n1_ n2_ n3_ n4_ n5_ n6_
   (try clear hb)
   (try clear hb2)
   (try clear hk)
   (try clear hi)
   refine hK.out _ _ ⟨bc BK344.out 0, bc BK345.out 0, bc BK345.out 1, bc BK345.out 2, bc BK345.out 3, bc BK345.out 4, bc BK345.out 5, bc BK345.out 6, bc BK345.out 7, bc BK345.out 8⟩ (fun hHeld => ?_)
   clear hK K
   refine norm_ (a' := ?_) ?_ ?_
   rotate_left
   ·show Act.put _ (some 30) _ = _
    simp only [pA, pS, pZ, pK, i64_w, i32_w]
    rfl
   refine pu (i := 6) (N := some 24) (v := ?_) (a' := ?_) (bs 639 12) rfl rfl HT_ ?_ ?_ ?_
   rotate_left
   ·intro w'
    go_simp
    with_reducible rfl
   rotate_left
   ·simp only [pA, pS, pZ, pK, i64_w, i32_w]
    rfl
   refine pu (i := 7) (N := some 31) (v := ?_) (a' := ?_) (bs 767 12) rfl rfl HT_ ?_ ?_ ?_
   rotate_left
   ·intro w'
    go_simp
    with_reducible rfl
   rotate_left
   ·simp only [pA, pS, pZ, pK, i64_w, i32_w]
    rfl
   refine pu (i := 8) (N := some 32) (v := ?_) (a' := ?_) (bs 1023 12) rfl rfl HT_ ?_ ?_ ?_
   rotate_left
   ·intro w'
    go_simp
    with_reducible rfl
   rotate_left
   ·simp only [pA, pS, pZ, pK, i64_w, i32_w]
    rfl
   exact norm_ (by simp only [putAll, Act.put, List.setIfInBounds_toArray, List.set_cons_zero, List.set_cons_succ]) (hCont (.slice Ao38 t348.length co38, .slice Ao39 t358.length co39, .slice Ao40 t361.length co40, gb370) _ ⟨hHeld, (by (with_reducible repeat (first | apply Kd.S_alloc | apply Kd.S_drewN | apply Kd.S_drew)); exact Kd.S_mono HO350.out (fun _ hk => hk.2)), (RT HO360.out), (RT HO363.out), (by (with_reducible repeat (first | refine blk_drewN ?_ _ | refine blk_drew ?_ | refine blk_alloc ?_ _)); exact BK344.out), (by (with_reducible repeat (first | refine blk_drewN ?_ _ | refine blk_drew ?_ | refine blk_alloc ?_ _)); exact BK345.out), (by (with_reducible repeat (first | refine blk_drewN ?_ _ | refine blk_drew ?_ | refine blk_alloc ?_ _)); exact BK370.out), GW370.out, GE370.out, NB344_370.out, NB370_344.out, NB345_370.out, NB370_345.out, (BT HB.out)⟩)
 rintro ⟨v349, v359, v362, gb370⟩ w42 ⟨hS_, h0_, h1_, h2_, h3_, h4_, h5_, h6_, h7_, h8_, h9_, h10_, h11_, h12_⟩
 have n0_ : Aside0 (Kd.S (Kd.slice 76 k76) 90 w42 w.heap.size (fun k_ => k_ ≠ gb370) v349 t348) := ⟨h0_⟩
 have n1_ : Aside0 (Kd.R k165 165 w42 w.heap.size (fun _ => True) v359 t358) := ⟨h1_⟩
 have n2_ : Aside0 (Kd.R k133 133 w42 w.heap.size (fun _ => True) v362 t361) := ⟨h2_⟩
 have n3_ : Aside0 (w42.heap[gb344]? = some (.cells #[.slice A0_0 l0_0.length c0_0] 39 (0, 0))) := ⟨h3_⟩
 have n4_ : Aside0 (w42.heap[gb345]? = some (.cells #[.int .i64 a1_0, .int .i64 a1_1, .int .i64 a1_2, .int .i64 a1_3, .int .i64 a1_4, .int .i64 a1_5, .int .i64 a1_6, .slice A1_7 l1_7.length c1_7, .slice A1_8 l1_8.length c1_8] 60 (0, 0))) := ⟨h4_⟩
 have n5_ : Aside0 (w42.heap[gb370]? = some (.cells #[.int .i64 0, .int .i64 0, .int .i64 0, .int .i64 0, .int .i64 0] 76 (0, 0))) := ⟨h5_⟩
 have n6_ : Aside0 (w.heap.size ≤ gb370) := ⟨h6_⟩
 have n7_ : Aside0 (w.heap.size ≤ gb370) := ⟨h7_⟩
 have n8_ : Aside0 (gb344 ≠ gb370) := ⟨h8_⟩
 have n9_ : Aside0 (gb370 ≠ gb344) := ⟨h9_⟩
 have n10_ : Aside0 (gb345 ≠ gb370) := ⟨h10_⟩
 have n11_ : Aside0 (gb370 ≠ gb345) := ⟨h11_⟩
 have n12_ : Aside0 (Below w.heap.size w w42) := ⟨h12_⟩
 clear BK344
 clear BK345
 clear HB
 clear h0_ h1_ h2_ h3_ h4_ h5_ h6_ h7_ h8_ h9_ h10_ h11_ h12_
 have HO350 := n0_
 have HO360 := n1_
 have HO363 := n2_
 have BK344 := n3_
 have BK345 := n4_
 have BK370 := n5_
 have GW370 := n6_
 have GE370 := n7_
 have NB344_370 := n8_
 have NB370_344 := n9_
 have NB345_370 := n10_
 have NB370_345 := n11_
 have HB := n12_
 clear n0_ n1_ n2_ n3_ n4_ n5_ n6_ n7_ n8_ n9_ n10_ n11_ n12_
 have hHeld : w42.cell? ⟨gb344, 0, none⟩ = some (.slice A0_0 l0_0.length c0_0) ∧ w42.cell? ⟨gb345, 0, none⟩ = some (.int .i64 a1_0) ∧ w42.cell? ⟨gb345, 1, none⟩ = some (.int .i64 a1_1) ∧ w42.cell? ⟨gb345, 2, none⟩ = some (.int .i64 a1_2) ∧ w42.cell? ⟨gb345, 3, none⟩ = some (.int .i64 a1_3) ∧ w42.cell? ⟨gb345, 4, none⟩ = some (.int .i64 a1_4) ∧ w42.cell? ⟨gb345, 5, none⟩ = some (.int .i64 a1_5) ∧ w42.cell? ⟨gb345, 6, none⟩ = some (.int .i64 a1_6) ∧ w42.cell? ⟨gb345, 7, none⟩ = some (.slice A1_7 l1_7.length c1_7) ∧ w42.cell? ⟨gb345, 8, none⟩ = some (.slice A1_8 l1_8.length c1_8) := hS_
 refine norm_ (a' := ?_) ?_ ?_
 rotate_left
 ·simp only [putAll, Act.put, List.setIfInBounds_toArray, List.set_cons_zero, List.set_cons_succ]
  rfl
 refine one_ (i := 10) (N := none) (bs 2047 12) rfl rfl (one_of HT_.out (by kernel_rfl)) (by decide) (fun K hK => ?_)
 have hs43 : w42.cell? ⟨gb370, 0, none⟩ = some (.int .i64 0) := (blk_cell BK370.out 0).trans rfl
 have hfs43 := blk_frozen BK370.out 0
 have hns43_0 := NB344_370.out
 have hns43_1 := NB345_370.out
 have hms43_0 := NB370_344.out
 have hms43_1 := NB370_345.out
 have hs44 : w42.cell? ⟨gb370, 1, none⟩ = some (.int .i64 0) := (blk_cell BK370.out 1).trans rfl
 have hfs44 := blk_frozen BK370.out 1
 have hns44_0 := NB344_370.out
 have hns44_1 := NB345_370.out
 have hms44_0 := NB370_344.out
 have hms44_1 := NB370_345.out
 have hs45 : w42.cell? ⟨gb370, 2, none⟩ = some (.int .i64 0) := (blk_cell BK370.out 2).trans rfl
 have hfs45 := blk_frozen BK370.out 2
 have hns45_0 := NB344_370.out
 have hns45_1 := NB345_370.out
 have hms45_0 := NB370_344.out
 have hms45_1 := NB370_345.out
 have hs46 : w42.cell? ⟨gb370, 3, none⟩ = some (.int .i64 0) := (blk_cell BK370.out 3).trans rfl
 have hfs46 := blk_frozen BK370.out 3
 have hns46_0 := NB344_370.out
 have hns46_1 := NB345_370.out
 have hms46_0 := NB370_344.out
 have hms46_1 := NB370_345.out
 have hs47 : w42.cell? ⟨gb370, 4, none⟩ = some (.int .i64 0) := (blk_cell BK370.out 4).trans rfl
 have hfs47 := blk_frozen BK370.out 4
 have hns47_0 := NB344_370.out
 have hns47_1 := NB345_370.out
 have hms47_0 := NB370_344.out
 have hms47_1 := NB370_345.out
 refine skip_ (w1 := ?_) (by rfl) rfl ?_ ?_
 rotate_left
 ·go_simp
  rfl
 refine hK.out _ _ ⟨((cell_far (p := ⟨gb370, _, none⟩) NB344_370.out _).trans (((cell_far (p := ⟨gb370, _, none⟩) NB344_370.out _).trans (((cell_far (p := ⟨gb370, _, none⟩) NB344_370.out _).trans (((cell_far (p := ⟨gb370, _, none⟩) NB344_370.out _).trans (((cell_far (p := ⟨gb370, _, none⟩) NB344_370.out _).trans (hHeld.1)))))))))), ((cell_far (p := ⟨gb370, _, none⟩) NB345_370.out _).trans (((cell_far (p := ⟨gb370, _, none⟩) NB345_370.out _).trans (((cell_far (p := ⟨gb370, _, none⟩) NB345_370.out _).trans (((cell_far (p := ⟨gb370, _, none⟩) NB345_370.out _).trans (((cell_far (p := ⟨gb370, _, none⟩) NB345_370.out _).trans (hHeld.2.1)))))))))), ((cell_far (p := ⟨gb370, _, none⟩) NB345_370.out _).trans (((cell_far (p := ⟨gb370, _, none⟩) NB345_370.out _).trans (((cell_far (p := ⟨gb370, _, none⟩) NB345_370.out _).trans (((cell_far (p := ⟨gb370, _, none⟩) NB345_370.out _).trans (((cell_far (p := ⟨gb370, _, none⟩) NB345_370.out _).trans (hHeld.2.2.1)))))))))), ((cell_far (p := ⟨gb370, _, none⟩) NB345_370.out _).trans (((cell_far (p := ⟨gb370, _, none⟩) NB345_370.out _).trans (((cell_far (p := ⟨gb370, _, none⟩) NB345_370.out _).trans (((cell_far (p := ⟨gb370, _, none⟩) NB345_370.out _).trans (((cell_far (p := ⟨gb370, _, none⟩) NB345_370.out _).trans (hHeld.2.2.2.1)))))))))), ((cell_far (p := ⟨gb370, _, none⟩) NB345_370.out _).trans (((cell_far (p := ⟨gb370, _, none⟩) NB345_370.out _).trans (((cell_far (p := ⟨gb370, _, none⟩) NB345_370.out _).trans (((cell_far (p := ⟨gb370, _, none⟩) NB345_370.out _).trans (((cell_far (p := ⟨gb370, _, none⟩) NB345_370.out _).trans (hHeld.2.2.2.2.1)))))))))), ((cell_far (p := ⟨gb370, _, none⟩) NB345_370.out _).trans (((cell_far (p := ⟨gb370, _, none⟩) NB345_370.out _).trans (((cell_far (p := ⟨gb370, _, none⟩) NB345_370.out _).trans (((cell_far (p := ⟨gb370, _, none⟩) NB345_370.out _).trans (((cell_far (p := ⟨gb370, _, none⟩) NB345_370.out _).trans (hHeld.2.2.2.2.2.1)))))))))), ((cell_far (p := ⟨gb370, _, none⟩) NB345_370.out _).trans (((cell_far (p := ⟨gb370, _, none⟩) NB345_370.out _).trans (((cell_far (p := ⟨gb370, _, none⟩) NB345_370.out _).trans (((cell_far (p := ⟨gb370, _, none⟩) NB345_370.out _).trans (((cell_far (p := ⟨gb370, _, none⟩) NB345_370.out _).trans (hHeld.2.2.2.2.2.2.1)))))))))), ((cell_far (p := ⟨gb370, _, none⟩) NB345_370.out _).trans (((cell_far (p := ⟨gb370, _, none⟩) NB345_370.out _).trans (((cell_far (p := ⟨gb370, _, none⟩) NB345_370.out _).trans (((cell_far (p := ⟨gb370, _, none⟩) NB345_370.out _).trans (((cell_far (p := ⟨gb370, _, none⟩) NB345_370.out _).trans (hHeld.2.2.2.2.2.2.2.1)))))))))), ((cell_far (p := ⟨gb370, _, none⟩) NB345_370.out _).trans (((cell_far (p := ⟨gb370, _, none⟩) NB345_370.out _).trans (((cell_far (p := ⟨gb370, _, none⟩) NB345_370.out _).trans (((cell_far (p := ⟨gb370, _, none⟩) NB345_370.out _).trans (((cell_far (p := ⟨gb370, _, none⟩) NB345_370.out _).trans (hHeld.2.2.2.2.2.2.2.2.1)))))))))), ((cell_far (p := ⟨gb370, _, none⟩) NB345_370.out _).trans (((cell_far (p := ⟨gb370, _, none⟩) NB345_370.out _).trans (((cell_far (p := ⟨gb370, _, none⟩) NB345_370.out _).trans (((cell_far (p := ⟨gb370, _, none⟩) NB345_370.out _).trans (((cell_far (p := ⟨gb370, _, none⟩) NB345_370.out _).trans (hHeld.2.2.2.2.2.2.2.2.2))))))))))⟩ (fun hHeld => ?_)
 clear hK K
 refine pu (i := 11) (N := some 9) (v := ?_) (a' := ?_) (bs 4095 12) rfl rfl HT_ ?_ ?_ ?_
 rotate_left
 ·intro w'
  go_simp
  with_reducible rfl
 rotate_left
 ·simp only [pA, pS, pZ, pK, i64_w, i32_w]
  rfl
 refine done_ (done_of HT_.out (by kernel_rfl)) ?_
 have hnb48 := NB344_370.out
 have hnc48 := NB370_344.out
 obtain ⟨hcz49_0, hfz49_0⟩ := bk1 BK344.out
 go_upto_region 12 with (first | ((with_reducible refine gate_callee (f := 35) rfl ?_); refine goesL_ (some 34) rfl rfl Try.func35 (by kernel_rfl) rfl #[.agg #[.slice A0_0 l0_0.length c0_0]] rfl (by (try simp only [List.map_toArray, List.map_cons, List.map_nil]); first | done | rfl | (simp only [List.length_drop, List.length_take]; rfl)) ?_; (with_reducible refine (laws_toStore.calls k _ _ l0_0 t371 _ ?side1 ?side2 A23.out).mono ?_); (case side1 => exact Kd.C_below HR0_0.out (BT HB.out)); (case side2 => exact HC0_0.out); rintro e w50 ⟨v372, rfl, ho0, hb⟩; refine ⟨_, rfl, ?_⟩; have n0_ := AM_ (Kd.S_elder' (by (with_reducible repeat (first | apply Kd.S_alloc | apply Kd.S_drewN | apply Kd.S_drew)); exact (Kd.S_mono (Kd.S_far (p := ⟨gb370, 4, none⟩) (Kd.S_far (p := ⟨gb370, 3, none⟩) (Kd.S_far (p := ⟨gb370, 2, none⟩) (Kd.S_far (p := ⟨gb370, 1, none⟩) (Kd.S_far (p := ⟨gb370, 0, none⟩) (Kd.S_mono HO350.out (fun k_ hk => (⟨hk, hk⟩ : _ ∧ k_ ≠ gb370))) (fun _ hk => hk.2) (.int .i64 t364)) (fun _ hk => hk.2) (.int .i64 t365)) (fun _ hk => hk.2) (.int .i64 t366)) (fun _ hk => hk.2) (.int .i64 t367)) (fun _ hk => hk.2) (.int .i64 t368)) (fun _ h_ => h_.1))) (Kd.S_base ho0) hb); have n1_ := AM_ (Kd.R_below (by (with_reducible repeat (first | apply Kd.R_alloc | apply Kd.R_drewN | apply Kd.R_drew)); exact (Kd.R_mono (Kd.R_far (p := ⟨gb370, 4, none⟩) (Kd.R_far (p := ⟨gb370, 3, none⟩) (Kd.R_far (p := ⟨gb370, 2, none⟩) (Kd.R_far (p := ⟨gb370, 1, none⟩) (Kd.R_far (p := ⟨gb370, 0, none⟩) (Kd.R_types HO360.out BK370.out (by decide)) (fun _ hk => hk.2) (.int .i64 t364)) (fun _ hk => hk.2) (.int .i64 t365)) (fun _ hk => hk.2) (.int .i64 t366)) (fun _ hk => hk.2) (.int .i64 t367)) (fun _ hk => hk.2) (.int .i64 t368)) (fun _ h_ => h_.1))) hb); have n2_ := AM_ (Kd.R_below (by (with_reducible repeat (first | apply Kd.R_alloc | apply Kd.R_drewN | apply Kd.R_drew)); exact (Kd.R_mono (Kd.R_far (p := ⟨gb370, 4, none⟩) (Kd.R_far (p := ⟨gb370, 3, none⟩) (Kd.R_far (p := ⟨gb370, 2, none⟩) (Kd.R_far (p := ⟨gb370, 1, none⟩) (Kd.R_far (p := ⟨gb370, 0, none⟩) (Kd.R_types HO363.out BK370.out (by decide)) (fun _ hk => hk.2) (.int .i64 t364)) (fun _ hk => hk.2) (.int .i64 t365)) (fun _ hk => hk.2) (.int .i64 t366)) (fun _ hk => hk.2) (.int .i64 t367)) (fun _ hk => hk.2) (.int .i64 t368)) (fun _ h_ => h_.1))) hb); have n3_ := AM_ (Kd.S_lower (Kd.S_newB (Kd.S_new' ho0 (Kd.S_lt (by (with_reducible repeat (first | apply Kd.S_alloc | apply Kd.S_drewN | apply Kd.S_drew)); exact (Kd.S_mono (Kd.S_far (p := ⟨gb370, 4, none⟩) (Kd.S_far (p := ⟨gb370, 3, none⟩) (Kd.S_far (p := ⟨gb370, 2, none⟩) (Kd.S_far (p := ⟨gb370, 1, none⟩) (Kd.S_far (p := ⟨gb370, 0, none⟩) (Kd.S_mono HO350.out (fun k_ hk => (⟨hk, hk⟩ : _ ∧ k_ ≠ gb370))) (fun _ hk => hk.2) (.int .i64 t364)) (fun _ hk => hk.2) (.int .i64 t365)) (fun _ hk => hk.2) (.int .i64 t366)) (fun _ hk => hk.2) (.int .i64 t367)) (fun _ hk => hk.2) (.int .i64 t368)) (fun _ h_ => h_.1))))) (g := gb370) (o := .cells #[.int .i64 t364, .int .i64 t365, .int .i64 t366, .int .i64 t367, .int .i64 t368] 76 (0, 0)) (by (with_reducible repeat (first | refine blk_drewN ?_ _ | refine blk_drew ?_ | refine blk_alloc ?_ _)); refine blk_put (cs := #[.int .i64 t364, .int .i64 t365, .int .i64 t366, .int .i64 t367, .int .i64 0]) ?_ 4 _ rfl; (with_reducible repeat (first | refine blk_drewN ?_ _ | refine blk_drew ?_ | refine blk_alloc ?_ _)); refine blk_put (cs := #[.int .i64 t364, .int .i64 t365, .int .i64 t366, .int .i64 0, .int .i64 0]) ?_ 3 _ rfl; (with_reducible repeat (first | refine blk_drewN ?_ _ | refine blk_drew ?_ | refine blk_alloc ?_ _)); refine blk_put (cs := #[.int .i64 t364, .int .i64 t365, .int .i64 0, .int .i64 0, .int .i64 0]) ?_ 2 _ rfl; (with_reducible repeat (first | refine blk_drewN ?_ _ | refine blk_drew ?_ | refine blk_alloc ?_ _)); refine blk_put (cs := #[.int .i64 t364, .int .i64 0, .int .i64 0, .int .i64 0, .int .i64 0]) ?_ 1 _ rfl; (with_reducible repeat (first | refine blk_drewN ?_ _ | refine blk_drew ?_ | refine blk_alloc ?_ _)); refine blk_put (cs := #[.int .i64 0, .int .i64 0, .int .i64 0, .int .i64 0, .int .i64 0]) ?_ 0 _ rfl; (with_reducible repeat (first | refine blk_drewN ?_ _ | refine blk_drew ?_ | refine blk_alloc ?_ _)); exact BK370.out)) (below_size (BT HB.out))); have n4_ := AM_ (blk_below (g := gb344) (o := .cells #[.slice A0_0 l0_0.length c0_0] 39 (0, 0)) (by (with_reducible repeat (first | refine blk_drewN ?_ _ | refine blk_drew ?_ | refine blk_alloc ?_ _)); refine blk_far ?_ NB344_370.out _; (with_reducible repeat (first | refine blk_drewN ?_ _ | refine blk_drew ?_ | refine blk_alloc ?_ _)); refine blk_far ?_ NB344_370.out _; (with_reducible repeat (first | refine blk_drewN ?_ _ | refine blk_drew ?_ | refine blk_alloc ?_ _)); refine blk_far ?_ NB344_370.out _; (with_reducible repeat (first | refine blk_drewN ?_ _ | refine blk_drew ?_ | refine blk_alloc ?_ _)); refine blk_far ?_ NB344_370.out _; (with_reducible repeat (first | refine blk_drewN ?_ _ | refine blk_drew ?_ | refine blk_alloc ?_ _)); refine blk_far ?_ NB344_370.out _; (with_reducible repeat (first | refine blk_drewN ?_ _ | refine blk_drew ?_ | refine blk_alloc ?_ _)); exact BK344.out) hb); have n5_ := AM_ (blk_below (g := gb345) (o := .cells #[.int .i64 a1_0, .int .i64 a1_1, .int .i64 a1_2, .int .i64 a1_3, .int .i64 a1_4, .int .i64 a1_5, .int .i64 a1_6, .slice A1_7 l1_7.length c1_7, .slice A1_8 l1_8.length c1_8] 60 (0, 0)) (by (with_reducible repeat (first | refine blk_drewN ?_ _ | refine blk_drew ?_ | refine blk_alloc ?_ _)); refine blk_far ?_ NB345_370.out _; (with_reducible repeat (first | refine blk_drewN ?_ _ | refine blk_drew ?_ | refine blk_alloc ?_ _)); refine blk_far ?_ NB345_370.out _; (with_reducible repeat (first | refine blk_drewN ?_ _ | refine blk_drew ?_ | refine blk_alloc ?_ _)); refine blk_far ?_ NB345_370.out _; (with_reducible repeat (first | refine blk_drewN ?_ _ | refine blk_drew ?_ | refine blk_alloc ?_ _)); refine blk_far ?_ NB345_370.out _; (with_reducible repeat (first | refine blk_drewN ?_ _ | refine blk_drew ?_ | refine blk_alloc ?_ _)); refine blk_far ?_ NB345_370.out _; (with_reducible repeat (first | refine blk_drewN ?_ _ | refine blk_drew ?_ | refine blk_alloc ?_ _)); exact BK345.out) hb); have n6_ := AM_ (blk_below (g := gb370) (o := .cells #[.int .i64 t364, .int .i64 t365, .int .i64 t366, .int .i64 t367, .int .i64 t368] 76 (0, 0)) (by (with_reducible repeat (first | refine blk_drewN ?_ _ | refine blk_drew ?_ | refine blk_alloc ?_ _)); refine blk_put (cs := #[.int .i64 t364, .int .i64 t365, .int .i64 t366, .int .i64 t367, .int .i64 0]) ?_ 4 _ rfl; (with_reducible repeat (first | refine blk_drewN ?_ _ | refine blk_drew ?_ | refine blk_alloc ?_ _)); refine blk_put (cs := #[.int .i64 t364, .int .i64 t365, .int .i64 t366, .int .i64 0, .int .i64 0]) ?_ 3 _ rfl; (with_reducible repeat (first | refine blk_drewN ?_ _ | refine blk_drew ?_ | refine blk_alloc ?_ _)); refine blk_put (cs := #[.int .i64 t364, .int .i64 t365, .int .i64 0, .int .i64 0, .int .i64 0]) ?_ 2 _ rfl; (with_reducible repeat (first | refine blk_drewN ?_ _ | refine blk_drew ?_ | refine blk_alloc ?_ _)); refine blk_put (cs := #[.int .i64 t364, .int .i64 0, .int .i64 0, .int .i64 0, .int .i64 0]) ?_ 1 _ rfl; (with_reducible repeat (first | refine blk_drewN ?_ _ | refine blk_drew ?_ | refine blk_alloc ?_ _)); refine blk_put (cs := #[.int .i64 0, .int .i64 0, .int .i64 0, .int .i64 0, .int .i64 0]) ?_ 0 _ rfl; (with_reducible repeat (first | refine blk_drewN ?_ _ | refine blk_drew ?_ | refine blk_alloc ?_ _)); exact BK370.out) hb); have n7_ := AM_ (below_step (BT HB.out) hb); clear HO350; clear HO360; clear HO363; clear BK344; clear BK345; clear BK370; clear HB; have HO350 := n0_; have HO360 := n1_; have HO363 := n2_; have HO373 := n3_; have BK344 := n4_; have BK345 := n5_; have BK370 := n6_; have HB := n7_; clear n0_ n1_ n2_ n3_ n4_ n5_ n6_ n7_; (try clear hb); (try clear hb2); (try clear hk); (try clear hi); (try clear ho0)) | ((with_reducible refine gate_dst (N := 10) rfl ?_); refine box_event ?hg (N := 10) ?hd (cs := #[.slice none 0 0]) (t := 49) ?hr ?_; (case hd => rfl); (case hg => rfl); (case hr => first | (go_simp; done) | (go_simp; rfl)); intro gb374 hg w51 hbox hb; have n0_ := AM_ (Kd.S_below (by exact SL HO350.out rfl) hb); have n1_ := AM_ (Kd.R_below (RT HO360.out) hb); have n2_ := AM_ (Kd.R_below (RT HO363.out) hb); have n3_ := AM_ (Kd.S_below (by exact SL HO373.out rfl) hb); have n4_ := AM_ (BB BK344.out hb); have n5_ := AM_ (BB BK345.out hb); have n6_ := AM_ (BB BK370.out hb); have n7_ := AM_ (below_step (BT HB.out) hb); have n8_ := AM_ (hbox); have n9_ := AM_ ((GS HB.out hg)); have n10_ := AM_ ((GS HB.out hg)); have n11_ := AM_ ((NL BK344.out hg)); have n12_ := AM_ ((NG BK344.out hg)); have n13_ := AM_ ((NL BK345.out hg)); have n14_ := AM_ ((NG BK345.out hg)); have n15_ := AM_ ((NL BK370.out hg)); have n16_ := AM_ ((NG BK370.out hg)); clear HO350; clear HO360; clear HO363; clear HO373; clear BK344; clear BK345; clear BK370; clear HB; have HO350 := n0_; have HO360 := n1_; have HO363 := n2_; have HO373 := n3_; have BK344 := n4_; have BK345 := n5_; have BK370 := n6_; have HB := n7_; have BK374 := n8_; have GW374 := n9_; have GE374 := n10_; have NB344_374 := n11_; have NB374_344 := n12_; have NB345_374 := n13_; have NB374_345 := n14_; have NB370_374 := n15_; have NB374_370 := n16_; clear n0_ n1_ n2_ n3_ n4_ n5_ n6_ n7_ n8_ n9_ n10_ n11_ n12_ n13_ n14_ n15_ n16_; clear hb hbox hg; obtain ⟨Ao52, co52, eo52⟩ := Kd.S_slice HO373.out; subst eo52; have hnb53 := NB374_344.out; have hnc53 := NB344_374.out; have hnb54 := NB374_345.out; have hnc54 := NB345_374.out; have hnb55 := NB374_370.out; have hnc55 := NB370_374.out; obtain ⟨hcz56_0, hfz56_0⟩ := bk1 BK374.out; have hnb57 := NB345_370.out; have hnc57 := NB370_345.out; obtain ⟨hcz58_0, hcz58_1, hcz58_2, hcz58_3, hcz58_4, hcz58_5, hcz58_6, hcz58_7, hcz58_8, hfz58_0, hfz58_1, hfz58_2, hfz58_3, hfz58_4, hfz58_5, hfz58_6, hfz58_7, hfz58_8⟩ := bk9 BK345.out) | ((with_reducible refine gate_callee (f := 36) rfl ?_); refine goesL_ (some 36) rfl rfl Try.func36 (by kernel_rfl) rfl #[.agg #[.int .i64 a1_0, .int .i64 a1_1, .int .i64 a1_2, .int .i64 a1_3, .int .i64 a1_4, .int .i64 a1_5, .int .i64 a1_6, .slice A1_7 l1_7.length c1_7, .slice A1_8 l1_8.length c1_8]] rfl (by (try simp only [List.map_toArray, List.map_cons, List.map_nil]); first | done | rfl | (simp only [List.length_drop, List.length_take]; rfl)) ?_; (with_reducible refine (laws_toTransaction.calls k a1_0 a1_1 a1_2 a1_3 a1_4 a1_5 a1_6 _ _ l1_7 _ _ l1_8 t375 t376 t377 t378 t379 t380 t381 t382 t385 _ ?side1 ?side2 ?side3 ?side4 A24.out).mono ?_); (case side1 => exact Kd.C_below HR1_7.out (BT HB.out)); (case side2 => exact HC1_7.out); (case side3 => exact Kd.C_below HR1_8.out (BT HB.out)); (case side4 => exact HC1_8.out); rintro e w59 ⟨v383, v386, rfl, ho0, ho1, hb⟩; refine ⟨_, rfl, ?_⟩; have n0_ := AM_ (Kd.S_below (by (with_reducible repeat (first | apply Kd.S_alloc | apply Kd.S_drewN | apply Kd.S_drew)); exact (Kd.S_mono (Kd.S_far (p := ⟨gb374, 0, none⟩) (Kd.S_types HO350.out BK374.out (by decide)) (fun _ hk => hk.2) (.slice Ao52 t371.length co52)) (fun _ h_ => h_.1))) hb); have n1_ := AM_ (Kd.R_elder' (by (with_reducible repeat (first | apply Kd.R_alloc | apply Kd.R_drewN | apply Kd.R_drew)); exact (Kd.R_mono (Kd.R_far (p := ⟨gb374, 0, none⟩) (Kd.R_types HO360.out BK374.out (by decide)) (fun _ hk => hk.2) (.slice Ao52 t371.length co52)) (fun _ h_ => h_.1))) (Kd.R_base ho0) hb); have n2_ := AM_ (Kd.R_elder' (by (with_reducible repeat (first | apply Kd.R_alloc | apply Kd.R_drewN | apply Kd.R_drew)); exact (Kd.R_mono (Kd.R_far (p := ⟨gb374, 0, none⟩) (Kd.R_types HO363.out BK374.out (by decide)) (fun _ hk => hk.2) (.slice Ao52 t371.length co52)) (fun _ h_ => h_.1))) (Kd.R_base ho1) hb); have n3_ := AM_ (Kd.S_below (by (with_reducible repeat (first | apply Kd.S_alloc | apply Kd.S_drewN | apply Kd.S_drew)); exact (Kd.S_mono (Kd.S_far (p := ⟨gb374, 0, none⟩) (Kd.S_types HO373.out BK374.out (by decide)) (fun _ hk => hk.2) (.slice Ao52 t371.length co52)) (fun _ h_ => h_.1))) hb); have n4_ := AM_ (Kd.R_lower (Kd.R_new' ho0 (Kd.R_lt (by (with_reducible repeat (first | apply Kd.R_alloc | apply Kd.R_drewN | apply Kd.R_drew)); exact (Kd.R_mono (Kd.R_far (p := ⟨gb374, 0, none⟩) (Kd.R_types HO360.out BK374.out (by decide)) (fun _ hk => hk.2) (.slice Ao52 t371.length co52)) (fun _ h_ => h_.1))))) (below_size (BT HB.out))); have n5_ := AM_ (Kd.R_lower (Kd.R_new' ho1 (Kd.R_lt (by (with_reducible repeat (first | apply Kd.R_alloc | apply Kd.R_drewN | apply Kd.R_drew)); exact (Kd.R_mono (Kd.R_far (p := ⟨gb374, 0, none⟩) (Kd.R_types HO363.out BK374.out (by decide)) (fun _ hk => hk.2) (.slice Ao52 t371.length co52)) (fun _ h_ => h_.1))))) (below_size (BT HB.out))); have n6_ := AM_ (blk_below (g := gb344) (o := .cells #[.slice A0_0 l0_0.length c0_0] 39 (0, 0)) (by (with_reducible repeat (first | refine blk_drewN ?_ _ | refine blk_drew ?_ | refine blk_alloc ?_ _)); refine blk_far ?_ NB344_374.out _; (with_reducible repeat (first | refine blk_drewN ?_ _ | refine blk_drew ?_ | refine blk_alloc ?_ _)); exact BK344.out) hb); have n7_ := AM_ (blk_below (g := gb345) (o := .cells #[.int .i64 a1_0, .int .i64 a1_1, .int .i64 a1_2, .int .i64 a1_3, .int .i64 a1_4, .int .i64 a1_5, .int .i64 a1_6, .slice A1_7 l1_7.length c1_7, .slice A1_8 l1_8.length c1_8] 60 (0, 0)) (by (with_reducible repeat (first | refine blk_drewN ?_ _ | refine blk_drew ?_ | refine blk_alloc ?_ _)); refine blk_far ?_ NB345_374.out _; (with_reducible repeat (first | refine blk_drewN ?_ _ | refine blk_drew ?_ | refine blk_alloc ?_ _)); exact BK345.out) hb); have n8_ := AM_ (blk_below (g := gb370) (o := .cells #[.int .i64 t364, .int .i64 t365, .int .i64 t366, .int .i64 t367, .int .i64 t368] 76 (0, 0)) (by (with_reducible repeat (first | refine blk_drewN ?_ _ | refine blk_drew ?_ | refine blk_alloc ?_ _)); refine blk_far ?_ NB370_374.out _; (with_reducible repeat (first | refine blk_drewN ?_ _ | refine blk_drew ?_ | refine blk_alloc ?_ _)); exact BK370.out) hb); have n9_ := AM_ (blk_below (g := gb374) (o := .cells #[.slice Ao52 t371.length co52] 49 (0, 0)) (by (with_reducible repeat (first | refine blk_drewN ?_ _ | refine blk_drew ?_ | refine blk_alloc ?_ _)); refine blk_put (cs := #[.slice none 0 0]) ?_ 0 _ rfl; (with_reducible repeat (first | refine blk_drewN ?_ _ | refine blk_drew ?_ | refine blk_alloc ?_ _)); exact BK374.out) hb); have n10_ := AM_ (below_step (BT HB.out) hb); clear HO350; clear HO360; clear HO363; clear HO373; clear BK344; clear BK345; clear BK370; clear BK374; clear HB; have HO350 := n0_; have HO360 := n1_; have HO363 := n2_; have HO373 := n3_; have HO384 := n4_; have HO387 := n5_; have BK344 := n6_; have BK345 := n7_; have BK370 := n8_; have BK374 := n9_; have HB := n10_; clear n0_ n1_ n2_ n3_ n4_ n5_ n6_ n7_ n8_ n9_ n10_; (try clear hb); (try clear hb2); (try clear hk); (try clear hi); (try clear ho0); (try clear ho1)) | ((with_reducible refine gate_dst (N := 11) rfl ?_); refine box_event ?hg (N := 11) ?hd (cs := #[.int .i64 0, .int .i64 0, .int .i64 0, .int .i64 0, .int .i64 0, .int .i64 0, .int .i64 0, .slice none 0 0, .slice none 0 0]) (t := 68) ?hr ?_; (case hd => rfl); (case hg => rfl); (case hr => first | (go_simp; done) | (go_simp; rfl)); intro gb388 hg w60 hbox hb; have n0_ := AM_ (Kd.S_below (by exact SL HO350.out rfl) hb); have n1_ := AM_ (Kd.R_below (RT HO360.out) hb); have n2_ := AM_ (Kd.R_below (RT HO363.out) hb); have n3_ := AM_ (Kd.S_below (by exact SL HO373.out rfl) hb); have n4_ := AM_ (Kd.R_below (RT HO384.out) hb); have n5_ := AM_ (Kd.R_below (RT HO387.out) hb); have n6_ := AM_ (BB BK344.out hb); have n7_ := AM_ (BB BK345.out hb); have n8_ := AM_ (BB BK370.out hb); have n9_ := AM_ (BB BK374.out hb); have n10_ := AM_ (below_step (BT HB.out) hb); have n11_ := AM_ (hbox); have n12_ := AM_ ((GS HB.out hg)); have n13_ := AM_ ((GS HB.out hg)); have n14_ := AM_ ((NL BK344.out hg)); have n15_ := AM_ ((NG BK344.out hg)); have n16_ := AM_ ((NL BK345.out hg)); have n17_ := AM_ ((NG BK345.out hg)); have n18_ := AM_ ((NL BK370.out hg)); have n19_ := AM_ ((NG BK370.out hg)); have n20_ := AM_ ((NL BK374.out hg)); have n21_ := AM_ ((NG BK374.out hg)); clear HO350; clear HO360; clear HO363; clear HO373; clear HO384; clear HO387; clear BK344; clear BK345; clear BK370; clear BK374; clear HB; have HO350 := n0_; have HO360 := n1_; have HO363 := n2_; have HO373 := n3_; have HO384 := n4_; have HO387 := n5_; have BK344 := n6_; have BK345 := n7_; have BK370 := n8_; have BK374 := n9_; have HB := n10_; have BK388 := n11_; have GW388 := n12_; have GE388 := n13_; have NB344_388 := n14_; have NB388_344 := n15_; have NB345_388 := n16_; have NB388_345 := n17_; have NB370_388 := n18_; have NB388_370 := n19_; have NB374_388 := n20_; have NB388_374 := n21_; clear n0_ n1_ n2_ n3_ n4_ n5_ n6_ n7_ n8_ n9_ n10_ n11_ n12_ n13_ n14_ n15_ n16_ n17_ n18_ n19_ n20_ n21_; clear hb hbox hg; have hnb61 := NB388_344.out; have hnc61 := NB344_388.out; have hnb62 := NB388_345.out; have hnc62 := NB345_388.out; have hnb63 := NB388_370.out; have hnc63 := NB370_388.out; have hnb64 := NB388_374.out; have hnc64 := NB374_388.out; obtain ⟨hcz65_0, hcz65_1, hcz65_2, hcz65_3, hcz65_4, hcz65_5, hcz65_6, hcz65_7, hcz65_8, hfz65_0, hfz65_1, hfz65_2, hfz65_3, hfz65_4, hfz65_5, hfz65_6, hfz65_7, hfz65_8⟩ := bk9 BK388.out; obtain ⟨Ao66, co66, eo66⟩ := Kd.R_slice HO384.out; subst eo66; obtain ⟨Ao67, co67, eo67⟩ := Kd.R_slice HO387.out; subst eo67; obtain ⟨hcz68_0, hfz68_0⟩ := bk1 BK374.out) | ((with_reducible refine gate_callee (f := 45) rfl ?_); refine goesL_ (some 41) rfl rfl Try.func45 (by kernel_rfl) rfl #[.agg #[.slice Ao52 t371.length co52], .agg #[.int .i64 t375, .int .i64 t376, .int .i64 t377, .int .i64 t378, .int .i64 t379, .int .i64 t380, .int .i64 t381, .slice Ao66 t382.length co66, .slice Ao67 t385.length co67], .int .i64 a2] rfl (by (try simp only [List.map_toArray, List.map_cons, List.map_nil]); first | done | rfl | (simp only [List.length_drop, List.length_take]; rfl)) ?_; (with_reducible refine (impl_ChooseVersion.calls k _ _ t371 t375 t376 t377 t378 t379 t380 t381 _ _ t382 _ _ t385 a2 t389 t390 t391 t392 t393 t394 _ ?side1 ?side2 ?side3 ?side4 ?side5 ?side6 A25.out).mono ?_); (case side1 => refine (Kd.S_reads' (e := 90) (base := w.heap.size) (ok := fun k_ => ((True ∧ some k_ ≠ (v349 : Value).ownBlock) ∧ k_ ≠ gb370)) (n := t371.length) (c := co52) ?_).2.2; exact (by (with_reducible repeat (first | apply Kd.S_alloc | apply Kd.S_drewN | apply Kd.S_drew)); exact (Kd.S_mono (Kd.S_far (p := ⟨gb388, 8, none⟩) (Kd.S_far (p := ⟨gb388, 7, none⟩) (Kd.S_far (p := ⟨gb388, 6, none⟩) (Kd.S_far (p := ⟨gb388, 5, none⟩) (Kd.S_far (p := ⟨gb388, 4, none⟩) (Kd.S_far (p := ⟨gb388, 3, none⟩) (Kd.S_far (p := ⟨gb388, 2, none⟩) (Kd.S_far (p := ⟨gb388, 1, none⟩) (Kd.S_far (p := ⟨gb388, 0, none⟩) (Kd.S_types HO373.out BK388.out (by decide)) (fun _ hk => hk.2) (.int .i64 t375)) (fun _ hk => hk.2) (.int .i64 t376)) (fun _ hk => hk.2) (.int .i64 t377)) (fun _ hk => hk.2) (.int .i64 t378)) (fun _ hk => hk.2) (.int .i64 t379)) (fun _ hk => hk.2) (.int .i64 t380)) (fun _ hk => hk.2) (.int .i64 t381)) (fun _ hk => hk.2) (.slice Ao66 t382.length co66)) (fun _ hk => hk.2) (.slice Ao67 t385.length co67)) (fun _ h_ => h_.1)))); (case side2 => exact (Kd.S_reads' HO373.out).2.1); (case side3 => refine (Kd.R_reads' (e := 165) (base := w.heap.size) (ok := fun k_ => (True ∧ some k_ ≠ (v359 : Value).ownBlock)) (n := t382.length) (c := co66) ?_).2.2; exact (by (with_reducible repeat (first | apply Kd.R_alloc | apply Kd.R_drewN | apply Kd.R_drew)); exact (Kd.R_mono (Kd.R_far (p := ⟨gb388, 8, none⟩) (Kd.R_far (p := ⟨gb388, 7, none⟩) (Kd.R_far (p := ⟨gb388, 6, none⟩) (Kd.R_far (p := ⟨gb388, 5, none⟩) (Kd.R_far (p := ⟨gb388, 4, none⟩) (Kd.R_far (p := ⟨gb388, 3, none⟩) (Kd.R_far (p := ⟨gb388, 2, none⟩) (Kd.R_far (p := ⟨gb388, 1, none⟩) (Kd.R_far (p := ⟨gb388, 0, none⟩) (Kd.R_types HO384.out BK388.out (by decide)) (fun _ hk => hk.2) (.int .i64 t375)) (fun _ hk => hk.2) (.int .i64 t376)) (fun _ hk => hk.2) (.int .i64 t377)) (fun _ hk => hk.2) (.int .i64 t378)) (fun _ hk => hk.2) (.int .i64 t379)) (fun _ hk => hk.2) (.int .i64 t380)) (fun _ hk => hk.2) (.int .i64 t381)) (fun _ hk => hk.2) (.slice Ao66 t382.length co66)) (fun _ hk => hk.2) (.slice Ao67 t385.length co67)) (fun _ h_ => h_.1)))); (case side4 => exact (Kd.R_reads' HO384.out).2.1); (case side5 => refine (Kd.R_reads' (e := 133) (base := w.heap.size) (ok := fun k_ => (True ∧ some k_ ≠ (v362 : Value).ownBlock)) (n := t385.length) (c := co67) ?_).2.2; exact (by (with_reducible repeat (first | apply Kd.R_alloc | apply Kd.R_drewN | apply Kd.R_drew)); exact (Kd.R_mono (Kd.R_far (p := ⟨gb388, 8, none⟩) (Kd.R_far (p := ⟨gb388, 7, none⟩) (Kd.R_far (p := ⟨gb388, 6, none⟩) (Kd.R_far (p := ⟨gb388, 5, none⟩) (Kd.R_far (p := ⟨gb388, 4, none⟩) (Kd.R_far (p := ⟨gb388, 3, none⟩) (Kd.R_far (p := ⟨gb388, 2, none⟩) (Kd.R_far (p := ⟨gb388, 1, none⟩) (Kd.R_far (p := ⟨gb388, 0, none⟩) (Kd.R_types HO387.out BK388.out (by decide)) (fun _ hk => hk.2) (.int .i64 t375)) (fun _ hk => hk.2) (.int .i64 t376)) (fun _ hk => hk.2) (.int .i64 t377)) (fun _ hk => hk.2) (.int .i64 t378)) (fun _ hk => hk.2) (.int .i64 t379)) (fun _ hk => hk.2) (.int .i64 t380)) (fun _ hk => hk.2) (.int .i64 t381)) (fun _ hk => hk.2) (.slice Ao66 t382.length co66)) (fun _ hk => hk.2) (.slice Ao67 t385.length co67)) (fun _ h_ => h_.1)))); (case side6 => exact (Kd.R_reads' HO387.out).2.1); rintro e w69 ⟨rfl, hb⟩; refine ⟨_, rfl, ?_⟩; have n0_ := AM_ (Kd.S_below (by (with_reducible repeat (first | apply Kd.S_alloc | apply Kd.S_drewN | apply Kd.S_drew)); exact (Kd.S_mono (Kd.S_far (p := ⟨gb388, 8, none⟩) (Kd.S_far (p := ⟨gb388, 7, none⟩) (Kd.S_far (p := ⟨gb388, 6, none⟩) (Kd.S_far (p := ⟨gb388, 5, none⟩) (Kd.S_far (p := ⟨gb388, 4, none⟩) (Kd.S_far (p := ⟨gb388, 3, none⟩) (Kd.S_far (p := ⟨gb388, 2, none⟩) (Kd.S_far (p := ⟨gb388, 1, none⟩) (Kd.S_far (p := ⟨gb388, 0, none⟩) (Kd.S_types HO350.out BK388.out (by decide)) (fun _ hk => hk.2) (.int .i64 t375)) (fun _ hk => hk.2) (.int .i64 t376)) (fun _ hk => hk.2) (.int .i64 t377)) (fun _ hk => hk.2) (.int .i64 t378)) (fun _ hk => hk.2) (.int .i64 t379)) (fun _ hk => hk.2) (.int .i64 t380)) (fun _ hk => hk.2) (.int .i64 t381)) (fun _ hk => hk.2) (.slice Ao66 t382.length co66)) (fun _ hk => hk.2) (.slice Ao67 t385.length co67)) (fun _ h_ => h_.1))) hb); have n1_ := AM_ (Kd.R_below (by (with_reducible repeat (first | apply Kd.R_alloc | apply Kd.R_drewN | apply Kd.R_drew)); exact (Kd.R_mono (Kd.R_far (p := ⟨gb388, 8, none⟩) (Kd.R_far (p := ⟨gb388, 7, none⟩) (Kd.R_far (p := ⟨gb388, 6, none⟩) (Kd.R_far (p := ⟨gb388, 5, none⟩) (Kd.R_far (p := ⟨gb388, 4, none⟩) (Kd.R_far (p := ⟨gb388, 3, none⟩) (Kd.R_far (p := ⟨gb388, 2, none⟩) (Kd.R_far (p := ⟨gb388, 1, none⟩) (Kd.R_far (p := ⟨gb388, 0, none⟩) (Kd.R_types HO360.out BK388.out (by decide)) (fun _ hk => hk.2) (.int .i64 t375)) (fun _ hk => hk.2) (.int .i64 t376)) (fun _ hk => hk.2) (.int .i64 t377)) (fun _ hk => hk.2) (.int .i64 t378)) (fun _ hk => hk.2) (.int .i64 t379)) (fun _ hk => hk.2) (.int .i64 t380)) (fun _ hk => hk.2) (.int .i64 t381)) (fun _ hk => hk.2) (.slice Ao66 t382.length co66)) (fun _ hk => hk.2) (.slice Ao67 t385.length co67)) (fun _ h_ => h_.1))) hb); have n2_ := AM_ (Kd.R_below (by (with_reducible repeat (first | apply Kd.R_alloc | apply Kd.R_drewN | apply Kd.R_drew)); exact (Kd.R_mono (Kd.R_far (p := ⟨gb388, 8, none⟩) (Kd.R_far (p := ⟨gb388, 7, none⟩) (Kd.R_far (p := ⟨gb388, 6, none⟩) (Kd.R_far (p := ⟨gb388, 5, none⟩) (Kd.R_far (p := ⟨gb388, 4, none⟩) (Kd.R_far (p := ⟨gb388, 3, none⟩) (Kd.R_far (p := ⟨gb388, 2, none⟩) (Kd.R_far (p := ⟨gb388, 1, none⟩) (Kd.R_far (p := ⟨gb388, 0, none⟩) (Kd.R_types HO363.out BK388.out (by decide)) (fun _ hk => hk.2) (.int .i64 t375)) (fun _ hk => hk.2) (.int .i64 t376)) (fun _ hk => hk.2) (.int .i64 t377)) (fun _ hk => hk.2) (.int .i64 t378)) (fun _ hk => hk.2) (.int .i64 t379)) (fun _ hk => hk.2) (.int .i64 t380)) (fun _ hk => hk.2) (.int .i64 t381)) (fun _ hk => hk.2) (.slice Ao66 t382.length co66)) (fun _ hk => hk.2) (.slice Ao67 t385.length co67)) (fun _ h_ => h_.1))) hb); have n3_ := AM_ (Kd.S_below (by (with_reducible repeat (first | apply Kd.S_alloc | apply Kd.S_drewN | apply Kd.S_drew)); exact (Kd.S_mono (Kd.S_far (p := ⟨gb388, 8, none⟩) (Kd.S_far (p := ⟨gb388, 7, none⟩) (Kd.S_far (p := ⟨gb388, 6, none⟩) (Kd.S_far (p := ⟨gb388, 5, none⟩) (Kd.S_far (p := ⟨gb388, 4, none⟩) (Kd.S_far (p := ⟨gb388, 3, none⟩) (Kd.S_far (p := ⟨gb388, 2, none⟩) (Kd.S_far (p := ⟨gb388, 1, none⟩) (Kd.S_far (p := ⟨gb388, 0, none⟩) (Kd.S_types HO373.out BK388.out (by decide)) (fun _ hk => hk.2) (.int .i64 t375)) (fun _ hk => hk.2) (.int .i64 t376)) (fun _ hk => hk.2) (.int .i64 t377)) (fun _ hk => hk.2) (.int .i64 t378)) (fun _ hk => hk.2) (.int .i64 t379)) (fun _ hk => hk.2) (.int .i64 t380)) (fun _ hk => hk.2) (.int .i64 t381)) (fun _ hk => hk.2) (.slice Ao66 t382.length co66)) (fun _ hk => hk.2) (.slice Ao67 t385.length co67)) (fun _ h_ => h_.1))) hb); have n4_ := AM_ (Kd.R_below (by (with_reducible repeat (first | apply Kd.R_alloc | apply Kd.R_drewN | apply Kd.R_drew)); exact (Kd.R_mono (Kd.R_far (p := ⟨gb388, 8, none⟩) (Kd.R_far (p := ⟨gb388, 7, none⟩) (Kd.R_far (p := ⟨gb388, 6, none⟩) (Kd.R_far (p := ⟨gb388, 5, none⟩) (Kd.R_far (p := ⟨gb388, 4, none⟩) (Kd.R_far (p := ⟨gb388, 3, none⟩) (Kd.R_far (p := ⟨gb388, 2, none⟩) (Kd.R_far (p := ⟨gb388, 1, none⟩) (Kd.R_far (p := ⟨gb388, 0, none⟩) (Kd.R_types HO384.out BK388.out (by decide)) (fun _ hk => hk.2) (.int .i64 t375)) (fun _ hk => hk.2) (.int .i64 t376)) (fun _ hk => hk.2) (.int .i64 t377)) (fun _ hk => hk.2) (.int .i64 t378)) (fun _ hk => hk.2) (.int .i64 t379)) (fun _ hk => hk.2) (.int .i64 t380)) (fun _ hk => hk.2) (.int .i64 t381)) (fun _ hk => hk.2) (.slice Ao66 t382.length co66)) (fun _ hk => hk.2) (.slice Ao67 t385.length co67)) (fun _ h_ => h_.1))) hb); have n5_ := AM_ (Kd.R_below (by (with_reducible repeat (first | apply Kd.R_alloc | apply Kd.R_drewN | apply Kd.R_drew)); exact (Kd.R_mono (Kd.R_far (p := ⟨gb388, 8, none⟩) (Kd.R_far (p := ⟨gb388, 7, none⟩) (Kd.R_far (p := ⟨gb388, 6, none⟩) (Kd.R_far (p := ⟨gb388, 5, none⟩) (Kd.R_far (p := ⟨gb388, 4, none⟩) (Kd.R_far (p := ⟨gb388, 3, none⟩) (Kd.R_far (p := ⟨gb388, 2, none⟩) (Kd.R_far (p := ⟨gb388, 1, none⟩) (Kd.R_far (p := ⟨gb388, 0, none⟩) (Kd.R_types HO387.out BK388.out (by decide)) (fun _ hk => hk.2) (.int .i64 t375)) (fun _ hk => hk.2) (.int .i64 t376)) (fun _ hk => hk.2) (.int .i64 t377)) (fun _ hk => hk.2) (.int .i64 t378)) (fun _ hk => hk.2) (.int .i64 t379)) (fun _ hk => hk.2) (.int .i64 t380)) (fun _ hk => hk.2) (.int .i64 t381)) (fun _ hk => hk.2) (.slice Ao66 t382.length co66)) (fun _ hk => hk.2) (.slice Ao67 t385.length co67)) (fun _ h_ => h_.1))) hb); have n6_ := AM_ (blk_below (g := gb344) (o := .cells #[.slice A0_0 l0_0.length c0_0] 39 (0, 0)) (by (with_reducible repeat (first | refine blk_drewN ?_ _ | refine blk_drew ?_ | refine blk_alloc ?_ _)); refine blk_far ?_ NB344_388.out _; (with_reducible repeat (first | refine blk_drewN ?_ _ | refine blk_drew ?_ | refine blk_alloc ?_ _)); refine blk_far ?_ NB344_388.out _; (with_reducible repeat (first | refine blk_drewN ?_ _ | refine blk_drew ?_ | refine blk_alloc ?_ _)); refine blk_far ?_ NB344_388.out _; (with_reducible repeat (first | refine blk_drewN ?_ _ | refine blk_drew ?_ | refine blk_alloc ?_ _)); refine blk_far ?_ NB344_388.out _; (with_reducible repeat (first | refine blk_drewN ?_ _ | refine blk_drew ?_ | refine blk_alloc ?_ _)); refine blk_far ?_ NB344_388.out _; (with_reducible repeat (first | refine blk_drewN ?_ _ | refine blk_drew ?_ | refine blk_alloc ?_ _)); refine blk_far ?_ NB344_388.out _; (with_reducible repeat (first | refine blk_drewN ?_ _ | refine blk_drew ?_ | refine blk_alloc ?_ _)); refine blk_far ?_ NB344_388.out _; (with_reducible repeat (first | refine blk_drewN ?_ _ | refine blk_drew ?_ | refine blk_alloc ?_ _)); refine blk_far ?_ NB344_388.out _; (with_reducible repeat (first | refine blk_drewN ?_ _ | refine blk_drew ?_ | refine blk_alloc ?_ _)); refine blk_far ?_ NB344_388.out _; (with_reducible repeat (first | refine blk_drewN ?_ _ | refine blk_drew ?_ | refine blk_alloc ?_ _)); exact BK344.out) hb); have n7_ := AM_ (blk_below (g := gb345) (o := .cells #[.int .i64 a1_0, .int .i64 a1_1, .int .i64 a1_2, .int .i64 a1_3, .int .i64 a1_4, .int .i64 a1_5, .int .i64 a1_6, .slice A1_7 l1_7.length c1_7, .slice A1_8 l1_8.length c1_8] 60 (0, 0)) (by (with_reducible repeat (first | refine blk_drewN ?_ _ | refine blk_drew ?_ | refine blk_alloc ?_ _)); refine blk_far ?_ NB345_388.out _; (with_reducible repeat (first | refine blk_drewN ?_ _ | refine blk_drew ?_ | refine blk_alloc ?_ _)); refine blk_far ?_ NB345_388.out _; (with_reducible repeat (first | refine blk_drewN ?_ _ | refine blk_drew ?_ | refine blk_alloc ?_ _)); refine blk_far ?_ NB345_388.out _; (with_reducible repeat (first | refine blk_drewN ?_ _ | refine blk_drew ?_ | refine blk_alloc ?_ _)); refine blk_far ?_ NB345_388.out _; (with_reducible repeat (first | refine blk_drewN ?_ _ | refine blk_drew ?_ | refine blk_alloc ?_ _)); refine blk_far ?_ NB345_388.out _; (with_reducible repeat (first | refine blk_drewN ?_ _ | refine blk_drew ?_ | refine blk_alloc ?_ _)); refine blk_far ?_ NB345_388.out _; (with_reducible repeat (first | refine blk_drewN ?_ _ | refine blk_drew ?_ | refine blk_alloc ?_ _)); refine blk_far ?_ NB345_388.out _; (with_reducible repeat (first | refine blk_drewN ?_ _ | refine blk_drew ?_ | refine blk_alloc ?_ _)); refine blk_far ?_ NB345_388.out _; (with_reducible repeat (first | refine blk_drewN ?_ _ | refine blk_drew ?_ | refine blk_alloc ?_ _)); refine blk_far ?_ NB345_388.out _; (with_reducible repeat (first | refine blk_drewN ?_ _ | refine blk_drew ?_ | refine blk_alloc ?_ _)); exact BK345.out) hb); have n8_ := AM_ (blk_below (g := gb370) (o := .cells #[.int .i64 t364, .int .i64 t365, .int .i64 t366, .int .i64 t367, .int .i64 t368] 76 (0, 0)) (by (with_reducible repeat (first | refine blk_drewN ?_ _ | refine blk_drew ?_ | refine blk_alloc ?_ _)); refine blk_far ?_ NB370_388.out _; (with_reducible repeat (first | refine blk_drewN ?_ _ | refine blk_drew ?_ | refine blk_alloc ?_ _)); refine blk_far ?_ NB370_388.out _; (with_reducible repeat (first | refine blk_drewN ?_ _ | refine blk_drew ?_ | refine blk_alloc ?_ _)); refine blk_far ?_ NB370_388.out _; (with_reducible repeat (first | refine blk_drewN ?_ _ | refine blk_drew ?_ | refine blk_alloc ?_ _)); refine blk_far ?_ NB370_388.out _; (with_reducible repeat (first | refine blk_drewN ?_ _ | refine blk_drew ?_ | refine blk_alloc ?_ _)); refine blk_far ?_ NB370_388.out _; (with_reducible repeat (first | refine blk_drewN ?_ _ | refine blk_drew ?_ | refine blk_alloc ?_ _)); refine blk_far ?_ NB370_388.out _; (with_reducible repeat (first | refine blk_drewN ?_ _ | refine blk_drew ?_ | refine blk_alloc ?_ _)); refine blk_far ?_ NB370_388.out _; (with_reducible repeat (first | refine blk_drewN ?_ _ | refine blk_drew ?_ | refine blk_alloc ?_ _)); refine blk_far ?_ NB370_388.out _; (with_reducible repeat (first | refine blk_drewN ?_ _ | refine blk_drew ?_ | refine blk_alloc ?_ _)); refine blk_far ?_ NB370_388.out _; (with_reducible repeat (first | refine blk_drewN ?_ _ | refine blk_drew ?_ | refine blk_alloc ?_ _)); exact BK370.out) hb); have n9_ := AM_ (blk_below (g := gb374) (o := .cells #[.slice Ao52 t371.length co52] 49 (0, 0)) (by (with_reducible repeat (first | refine blk_drewN ?_ _ | refine blk_drew ?_ | refine blk_alloc ?_ _)); refine blk_far ?_ NB374_388.out _; (with_reducible repeat (first | refine blk_drewN ?_ _ | refine blk_drew ?_ | refine blk_alloc ?_ _)); refine blk_far ?_ NB374_388.out _; (with_reducible repeat (first | refine blk_drewN ?_ _ | refine blk_drew ?_ | refine blk_alloc ?_ _)); refine blk_far ?_ NB374_388.out _; (with_reducible repeat (first | refine blk_drewN ?_ _ | refine blk_drew ?_ | refine blk_alloc ?_ _)); refine blk_far ?_ NB374_388.out _; (with_reducible repeat (first | refine blk_drewN ?_ _ | refine blk_drew ?_ | refine blk_alloc ?_ _)); refine blk_far ?_ NB374_388.out _; (with_reducible repeat (first | refine blk_drewN ?_ _ | refine blk_drew ?_ | refine blk_alloc ?_ _)); refine blk_far ?_ NB374_388.out _; (with_reducible repeat (first | refine blk_drewN ?_ _ | refine blk_drew ?_ | refine blk_alloc ?_ _)); refine blk_far ?_ NB374_388.out _; (with_reducible repeat (first | refine blk_drewN ?_ _ | refine blk_drew ?_ | refine blk_alloc ?_ _)); refine blk_far ?_ NB374_388.out _; (with_reducible repeat (first | refine blk_drewN ?_ _ | refine blk_drew ?_ | refine blk_alloc ?_ _)); refine blk_far ?_ NB374_388.out _; (with_reducible repeat (first | refine blk_drewN ?_ _ | refine blk_drew ?_ | refine blk_alloc ?_ _)); exact BK374.out) hb); have n10_ := AM_ (blk_below (g := gb388) (o := .cells #[.int .i64 t375, .int .i64 t376, .int .i64 t377, .int .i64 t378, .int .i64 t379, .int .i64 t380, .int .i64 t381, .slice Ao66 t382.length co66, .slice Ao67 t385.length co67] 68 (0, 0)) (by (with_reducible repeat (first | refine blk_drewN ?_ _ | refine blk_drew ?_ | refine blk_alloc ?_ _)); refine blk_put (cs := #[.int .i64 t375, .int .i64 t376, .int .i64 t377, .int .i64 t378, .int .i64 t379, .int .i64 t380, .int .i64 t381, .slice Ao66 t382.length co66, .slice none 0 0]) ?_ 8 _ rfl; (with_reducible repeat (first | refine blk_drewN ?_ _ | refine blk_drew ?_ | refine blk_alloc ?_ _)); refine blk_put (cs := #[.int .i64 t375, .int .i64 t376, .int .i64 t377, .int .i64 t378, .int .i64 t379, .int .i64 t380, .int .i64 t381, .slice none 0 0, .slice none 0 0]) ?_ 7 _ rfl; (with_reducible repeat (first | refine blk_drewN ?_ _ | refine blk_drew ?_ | refine blk_alloc ?_ _)); refine blk_put (cs := #[.int .i64 t375, .int .i64 t376, .int .i64 t377, .int .i64 t378, .int .i64 t379, .int .i64 t380, .int .i64 0, .slice none 0 0, .slice none 0 0]) ?_ 6 _ rfl; (with_reducible repeat (first | refine blk_drewN ?_ _ | refine blk_drew ?_ | refine blk_alloc ?_ _)); refine blk_put (cs := #[.int .i64 t375, .int .i64 t376, .int .i64 t377, .int .i64 t378, .int .i64 t379, .int .i64 0, .int .i64 0, .slice none 0 0, .slice none 0 0]) ?_ 5 _ rfl; (with_reducible repeat (first | refine blk_drewN ?_ _ | refine blk_drew ?_ | refine blk_alloc ?_ _)); refine blk_put (cs := #[.int .i64 t375, .int .i64 t376, .int .i64 t377, .int .i64 t378, .int .i64 0, .int .i64 0, .int .i64 0, .slice none 0 0, .slice none 0 0]) ?_ 4 _ rfl; (with_reducible repeat (first | refine blk_drewN ?_ _ | refine blk_drew ?_ | refine blk_alloc ?_ _)); refine blk_put (cs := #[.int .i64 t375, .int .i64 t376, .int .i64 t377, .int .i64 0, .int .i64 0, .int .i64 0, .int .i64 0, .slice none 0 0, .slice none 0 0]) ?_ 3 _ rfl; (with_reducible repeat (first | refine blk_drewN ?_ _ | refine blk_drew ?_ | refine blk_alloc ?_ _)); refine blk_put (cs := #[.int .i64 t375, .int .i64 t376, .int .i64 0, .int .i64 0, .int .i64 0, .int .i64 0, .int .i64 0, .slice none 0 0, .slice none 0 0]) ?_ 2 _ rfl; (with_reducible repeat (first | refine blk_drewN ?_ _ | refine blk_drew ?_ | refine blk_alloc ?_ _)); refine blk_put (cs := #[.int .i64 t375, .int .i64 0, .int .i64 0, .int .i64 0, .int .i64 0, .int .i64 0, .int .i64 0, .slice none 0 0, .slice none 0 0]) ?_ 1 _ rfl; (with_reducible repeat (first | refine blk_drewN ?_ _ | refine blk_drew ?_ | refine blk_alloc ?_ _)); refine blk_put (cs := #[.int .i64 0, .int .i64 0, .int .i64 0, .int .i64 0, .int .i64 0, .int .i64 0, .int .i64 0, .slice none 0 0, .slice none 0 0]) ?_ 0 _ rfl; (with_reducible repeat (first | refine blk_drewN ?_ _ | refine blk_drew ?_ | refine blk_alloc ?_ _)); exact BK388.out) hb); have n11_ := AM_ (below_step (BT HB.out) hb); clear HO350; clear HO360; clear HO363; clear HO373; clear HO384; clear HO387; clear BK344; clear BK345; clear BK370; clear BK374; clear BK388; clear HB; have HO350 := n0_; have HO360 := n1_; have HO363 := n2_; have HO373 := n3_; have HO384 := n4_; have HO387 := n5_; have BK344 := n6_; have BK345 := n7_; have BK370 := n8_; have BK374 := n9_; have BK388 := n10_; have HB := n11_; clear n0_ n1_ n2_ n3_ n4_ n5_ n6_ n7_ n8_ n9_ n10_ n11_; (try clear hb); (try clear hb2); (try clear hk); (try clear hi)) | ((with_reducible refine gate_dst (N := 12) rfl ?_); refine box_event ?hg (N := 12) ?hd (cs := #[.int .i64 0, .int .i64 0, .int .i64 0, .int .i64 0, .int .i64 0]) (t := 76) ?hr ?_; (case hd => rfl); (case hg => rfl); (case hr => first | (go_simp; done) | (go_simp; rfl)); intro gb395 hg w70 hbox hb; have n0_ := AM_ (Kd.S_below (Kd.S_elderB (by exact SL HO350.out rfl) gb395 (Nat.le_of_eq hg.symm)) hb); have n1_ := AM_ (Kd.R_below (RT HO360.out) hb); have n2_ := AM_ (Kd.R_below (RT HO363.out) hb); have n3_ := AM_ (Kd.S_below (Kd.S_elderB (by exact SL HO373.out rfl) gb395 (Nat.le_of_eq hg.symm)) hb); have n4_ := AM_ (Kd.R_below (RT HO384.out) hb); have n5_ := AM_ (Kd.R_below (RT HO387.out) hb); have n6_ := AM_ (BB BK344.out hb); have n7_ := AM_ (BB BK345.out hb); have n8_ := AM_ (BB BK370.out hb); have n9_ := AM_ (BB BK374.out hb); have n10_ := AM_ (BB BK388.out hb); have n11_ := AM_ (below_step (BT HB.out) hb); have n12_ := AM_ (hbox); have n13_ := AM_ ((GS HB.out hg)); have n14_ := AM_ ((GS HB.out hg)); have n15_ := AM_ ((NL BK344.out hg)); have n16_ := AM_ ((NG BK344.out hg)); have n17_ := AM_ ((NL BK345.out hg)); have n18_ := AM_ ((NG BK345.out hg)); have n19_ := AM_ ((NL BK370.out hg)); have n20_ := AM_ ((NG BK370.out hg)); have n21_ := AM_ ((NL BK374.out hg)); have n22_ := AM_ ((NG BK374.out hg)); have n23_ := AM_ ((NL BK388.out hg)); have n24_ := AM_ ((NG BK388.out hg)); clear HO350; clear HO360; clear HO363; clear HO373; clear HO384; clear HO387; clear BK344; clear BK345; clear BK370; clear BK374; clear BK388; clear HB; have HO350 := n0_; have HO360 := n1_; have HO363 := n2_; have HO373 := n3_; have HO384 := n4_; have HO387 := n5_; have BK344 := n6_; have BK345 := n7_; have BK370 := n8_; have BK374 := n9_; have BK388 := n10_; have HB := n11_; have BK395 := n12_; have GW395 := n13_; have GE395 := n14_; have NB344_395 := n15_; have NB395_344 := n16_; have NB345_395 := n17_; have NB395_345 := n18_; have NB370_395 := n19_; have NB395_370 := n20_; have NB374_395 := n21_; have NB395_374 := n22_; have NB388_395 := n23_; have NB395_388 := n24_; clear n0_ n1_ n2_ n3_ n4_ n5_ n6_ n7_ n8_ n9_ n10_ n11_ n12_ n13_ n14_ n15_ n16_ n17_ n18_ n19_ n20_ n21_ n22_ n23_ n24_; clear hb hbox hg; have hnb71 := NB395_344.out; have hnc71 := NB344_395.out; have hnb72 := NB395_345.out; have hnc72 := NB345_395.out; have hnb73 := NB395_370.out; have hnc73 := NB370_395.out; have hnb74 := NB395_374.out; have hnc74 := NB374_395.out; have hnb75 := NB395_388.out; have hnc75 := NB388_395.out; obtain ⟨hcz76_0, hcz76_1, hcz76_2, hcz76_3, hcz76_4, hfz76_0, hfz76_1, hfz76_2, hfz76_3, hfz76_4⟩ := bk5 BK395.out))
 (try simp only [pA, pS, pZ, pK])
 go_cut [52] (fun v52 wc => ∃ (kq : Nat) (x52_25 : Bool), v52 = .bool x52_25 ∧ Aside0 (laws_FnExactChooseVersion.j0 kq x52_25 l0_0 a1_0 a1_1 a1_2 a1_3 a1_4 a1_5 a1_6 l1_7 l1_8 t371 t375 t376 t377 t378 t379 t380 t381 t382 t385 = some r) ∧ Aside0 (kq ≤ k) ∧ Aside0 (Kd.S (Kd.slice 76 k76) 90 wc w.heap.size (fun k_ => k_ ≠ gb370 ∧ k_ ≠ gb395) (.slice Ao52 t371.length co52) t371) ∧ Aside0 (Kd.R k165 165 wc w.heap.size (fun _ => True) (.slice Ao66 t382.length co66) t382) ∧ Aside0 (Kd.R k133 133 wc w.heap.size (fun _ => True) (.slice Ao67 t385.length co67) t385) ∧ Aside0 (wc.heap[gb344]? = some (.cells #[(.slice A0_0 l0_0.length c0_0)] 39 (0, 0))) ∧ Aside0 (wc.heap[gb345]? = some (.cells #[.int .i64 a1_0, .int .i64 a1_1, .int .i64 a1_2, .int .i64 a1_3, .int .i64 a1_4, .int .i64 a1_5, .int .i64 a1_6, (.slice A1_7 l1_7.length c1_7), (.slice A1_8 l1_8.length c1_8)] 60 (0, 0))) ∧ Aside0 (wc.heap[gb370]? = some (.cells #[.int .i64 t364, .int .i64 t365, .int .i64 t366, .int .i64 t367, .int .i64 t368] 76 (0, 0))) ∧ Aside0 (wc.heap[gb374]? = some (.cells #[(.slice Ao52 t371.length co52)] 49 (0, 0))) ∧ Aside0 (wc.heap[gb388]? = some (.cells #[.int .i64 t375, .int .i64 t376, .int .i64 t377, .int .i64 t378, .int .i64 t379, .int .i64 t380, .int .i64 t381, (.slice Ao66 t382.length co66), (.slice Ao67 t385.length co67)] 68 (0, 0))) ∧ Aside0 (wc.heap[gb395]? = some (.cells #[.int .i64 t389, .int .i64 t390, .int .i64 t391, .int .i64 t392, .int .i64 t393] 76 (0, 0))) ∧ Aside0 (Below w.heap.size w wc))
 case first =>
  have H := HC26.out
  clear HC26
  replace H := Option.bind_eq_some_iff.mp H
  obtain ⟨t396, A770, H⟩ := H
  replace H : (if t396 = true then (laws_FnExactChooseVersion.j0 k (t394 != t369) l0_0 a1_0 a1_1 a1_2 a1_3 a1_4 a1_5 a1_6 l1_7 l1_8 t371 t375 t376 t377 t378 t379 t380 t381 t382 t385) else (laws_FnExactChooseVersion.j0 k true l0_0 a1_0 a1_1 a1_2 a1_3 a1_4 a1_5 a1_6 l1_7 l1_8 t371 t375 t376 t377 t378 t379 t380 t381 t382 t385)) = some r := H
  have A77 := AM_ A770
  clear A770
  by_cases c78 : t396 = true
  ·subst c78
   have H1 : (laws_FnExactChooseVersion.j0 k (t394 != t369) l0_0 a1_0 a1_1 a1_2 a1_3 a1_4 a1_5 a1_6 l1_7 l1_8 t371 t375 t376 t377 t378 t379 t380 t381 t382 t385) = some r := by rw [if_pos rfl] at H; exact H
   clear H
   have H := H1
   clear H1
   have H' := AM_ H
   clear H
   have hnb79 := NB395_344.out
   have hnc79 := NB344_395.out
   have hnb80 := NB395_345.out
   have hnc80 := NB345_395.out
   have hnb81 := NB395_370.out
   have hnc81 := NB370_395.out
   have hnb82 := NB395_374.out
   have hnc82 := NB374_395.out
   have hnb83 := NB395_388.out
   have hnc83 := NB388_395.out
   obtain ⟨hcz84_0, hcz84_1, hcz84_2, hcz84_3, hcz84_4, hfz84_0, hfz84_1, hfz84_2, hfz84_3, hfz84_4⟩ := bk5 BK395.out
   have hnb85 := NB370_344.out
   have hnc85 := NB344_370.out
   have hnb86 := NB370_345.out
   have hnc86 := NB345_370.out
   have hnb87 := NB370_374.out
   have hnc87 := NB374_370.out
   have hnb88 := NB370_388.out
   have hnc88 := NB388_370.out
   obtain ⟨hcz89_0, hcz89_1, hcz89_2, hcz89_3, hcz89_4, hfz89_0, hfz89_1, hfz89_2, hfz89_3, hfz89_4⟩ := bk5 BK370.out
   go_wp2_with (first | ((with_reducible refine gate_callee (f := 46) rfl ?_); refine goesL_ (some 46) rfl rfl Try.func46 (by kernel_rfl) rfl #[.agg #[.int .i64 t389, .int .i64 t390, .int .i64 t391, .int .i64 t392, .int .i64 t393], .agg #[.int .i64 t364, .int .i64 t365, .int .i64 t366, .int .i64 t367, .int .i64 t368]] rfl (by (try simp only [List.map_toArray, List.map_cons, List.map_nil]); first | done | rfl | (simp only [List.length_drop, List.length_take]; rfl)) ?_; (with_reducible refine (laws_eqVersion.calls t389 t390 t391 t392 t393 t364 t365 t366 t367 t368 true _ A77.out).mono ?_); rintro e w90 ⟨rfl, hb⟩; refine ⟨_, rfl, ?_⟩; have n0_ := AM_ (Kd.S_below (by (with_reducible repeat (first | apply Kd.S_alloc | apply Kd.S_drewN | apply Kd.S_drew)); exact (Kd.S_mono (Kd.S_far (p := ⟨gb395, 4, none⟩) (Kd.S_far (p := ⟨gb395, 3, none⟩) (Kd.S_far (p := ⟨gb395, 2, none⟩) (Kd.S_far (p := ⟨gb395, 1, none⟩) (Kd.S_far (p := ⟨gb395, 0, none⟩) (Kd.S_mono HO350.out (fun k_ hk => (⟨hk, hk.2⟩ : _ ∧ k_ ≠ gb395))) (fun _ hk => hk.2) (.int .i64 t389)) (fun _ hk => hk.2) (.int .i64 t390)) (fun _ hk => hk.2) (.int .i64 t391)) (fun _ hk => hk.2) (.int .i64 t392)) (fun _ hk => hk.2) (.int .i64 t393)) (fun _ h_ => h_.1))) hb); have n1_ := AM_ (Kd.R_below (by (with_reducible repeat (first | apply Kd.R_alloc | apply Kd.R_drewN | apply Kd.R_drew)); exact (Kd.R_mono (Kd.R_far (p := ⟨gb395, 4, none⟩) (Kd.R_far (p := ⟨gb395, 3, none⟩) (Kd.R_far (p := ⟨gb395, 2, none⟩) (Kd.R_far (p := ⟨gb395, 1, none⟩) (Kd.R_far (p := ⟨gb395, 0, none⟩) (Kd.R_types HO360.out BK395.out (by decide)) (fun _ hk => hk.2) (.int .i64 t389)) (fun _ hk => hk.2) (.int .i64 t390)) (fun _ hk => hk.2) (.int .i64 t391)) (fun _ hk => hk.2) (.int .i64 t392)) (fun _ hk => hk.2) (.int .i64 t393)) (fun _ h_ => h_.1))) hb); have n2_ := AM_ (Kd.R_below (by (with_reducible repeat (first | apply Kd.R_alloc | apply Kd.R_drewN | apply Kd.R_drew)); exact (Kd.R_mono (Kd.R_far (p := ⟨gb395, 4, none⟩) (Kd.R_far (p := ⟨gb395, 3, none⟩) (Kd.R_far (p := ⟨gb395, 2, none⟩) (Kd.R_far (p := ⟨gb395, 1, none⟩) (Kd.R_far (p := ⟨gb395, 0, none⟩) (Kd.R_types HO363.out BK395.out (by decide)) (fun _ hk => hk.2) (.int .i64 t389)) (fun _ hk => hk.2) (.int .i64 t390)) (fun _ hk => hk.2) (.int .i64 t391)) (fun _ hk => hk.2) (.int .i64 t392)) (fun _ hk => hk.2) (.int .i64 t393)) (fun _ h_ => h_.1))) hb); have n3_ := AM_ (Kd.S_below (by (with_reducible repeat (first | apply Kd.S_alloc | apply Kd.S_drewN | apply Kd.S_drew)); exact (Kd.S_mono (Kd.S_far (p := ⟨gb395, 4, none⟩) (Kd.S_far (p := ⟨gb395, 3, none⟩) (Kd.S_far (p := ⟨gb395, 2, none⟩) (Kd.S_far (p := ⟨gb395, 1, none⟩) (Kd.S_far (p := ⟨gb395, 0, none⟩) (Kd.S_mono HO373.out (fun k_ hk => (⟨hk, hk.2⟩ : _ ∧ k_ ≠ gb395))) (fun _ hk => hk.2) (.int .i64 t389)) (fun _ hk => hk.2) (.int .i64 t390)) (fun _ hk => hk.2) (.int .i64 t391)) (fun _ hk => hk.2) (.int .i64 t392)) (fun _ hk => hk.2) (.int .i64 t393)) (fun _ h_ => h_.1))) hb); have n4_ := AM_ (Kd.R_below (by (with_reducible repeat (first | apply Kd.R_alloc | apply Kd.R_drewN | apply Kd.R_drew)); exact (Kd.R_mono (Kd.R_far (p := ⟨gb395, 4, none⟩) (Kd.R_far (p := ⟨gb395, 3, none⟩) (Kd.R_far (p := ⟨gb395, 2, none⟩) (Kd.R_far (p := ⟨gb395, 1, none⟩) (Kd.R_far (p := ⟨gb395, 0, none⟩) (Kd.R_types HO384.out BK395.out (by decide)) (fun _ hk => hk.2) (.int .i64 t389)) (fun _ hk => hk.2) (.int .i64 t390)) (fun _ hk => hk.2) (.int .i64 t391)) (fun _ hk => hk.2) (.int .i64 t392)) (fun _ hk => hk.2) (.int .i64 t393)) (fun _ h_ => h_.1))) hb); have n5_ := AM_ (Kd.R_below (by (with_reducible repeat (first | apply Kd.R_alloc | apply Kd.R_drewN | apply Kd.R_drew)); exact (Kd.R_mono (Kd.R_far (p := ⟨gb395, 4, none⟩) (Kd.R_far (p := ⟨gb395, 3, none⟩) (Kd.R_far (p := ⟨gb395, 2, none⟩) (Kd.R_far (p := ⟨gb395, 1, none⟩) (Kd.R_far (p := ⟨gb395, 0, none⟩) (Kd.R_types HO387.out BK395.out (by decide)) (fun _ hk => hk.2) (.int .i64 t389)) (fun _ hk => hk.2) (.int .i64 t390)) (fun _ hk => hk.2) (.int .i64 t391)) (fun _ hk => hk.2) (.int .i64 t392)) (fun _ hk => hk.2) (.int .i64 t393)) (fun _ h_ => h_.1))) hb); have n6_ := AM_ (blk_below (g := gb344) (o := .cells #[.slice A0_0 l0_0.length c0_0] 39 (0, 0)) (by (with_reducible repeat (first | refine blk_drewN ?_ _ | refine blk_drew ?_ | refine blk_alloc ?_ _)); refine blk_far ?_ NB344_395.out _; (with_reducible repeat (first | refine blk_drewN ?_ _ | refine blk_drew ?_ | refine blk_alloc ?_ _)); refine blk_far ?_ NB344_395.out _; (with_reducible repeat (first | refine blk_drewN ?_ _ | refine blk_drew ?_ | refine blk_alloc ?_ _)); refine blk_far ?_ NB344_395.out _; (with_reducible repeat (first | refine blk_drewN ?_ _ | refine blk_drew ?_ | refine blk_alloc ?_ _)); refine blk_far ?_ NB344_395.out _; (with_reducible repeat (first | refine blk_drewN ?_ _ | refine blk_drew ?_ | refine blk_alloc ?_ _)); refine blk_far ?_ NB344_395.out _; (with_reducible repeat (first | refine blk_drewN ?_ _ | refine blk_drew ?_ | refine blk_alloc ?_ _)); exact BK344.out) hb); have n7_ := AM_ (blk_below (g := gb345) (o := .cells #[.int .i64 a1_0, .int .i64 a1_1, .int .i64 a1_2, .int .i64 a1_3, .int .i64 a1_4, .int .i64 a1_5, .int .i64 a1_6, .slice A1_7 l1_7.length c1_7, .slice A1_8 l1_8.length c1_8] 60 (0, 0)) (by (with_reducible repeat (first | refine blk_drewN ?_ _ | refine blk_drew ?_ | refine blk_alloc ?_ _)); refine blk_far ?_ NB345_395.out _; (with_reducible repeat (first | refine blk_drewN ?_ _ | refine blk_drew ?_ | refine blk_alloc ?_ _)); refine blk_far ?_ NB345_395.out _; (with_reducible repeat (first | refine blk_drewN ?_ _ | refine blk_drew ?_ | refine blk_alloc ?_ _)); refine blk_far ?_ NB345_395.out _; (with_reducible repeat (first | refine blk_drewN ?_ _ | refine blk_drew ?_ | refine blk_alloc ?_ _)); refine blk_far ?_ NB345_395.out _; (with_reducible repeat (first | refine blk_drewN ?_ _ | refine blk_drew ?_ | refine blk_alloc ?_ _)); refine blk_far ?_ NB345_395.out _; (with_reducible repeat (first | refine blk_drewN ?_ _ | refine blk_drew ?_ | refine blk_alloc ?_ _)); exact BK345.out) hb); have n8_ := AM_ (blk_below (g := gb370) (o := .cells #[.int .i64 t364, .int .i64 t365, .int .i64 t366, .int .i64 t367, .int .i64 t368] 76 (0, 0)) (by (with_reducible repeat (first | refine blk_drewN ?_ _ | refine blk_drew ?_ | refine blk_alloc ?_ _)); refine blk_far ?_ NB370_395.out _; (with_reducible repeat (first | refine blk_drewN ?_ _ | refine blk_drew ?_ | refine blk_alloc ?_ _)); refine blk_far ?_ NB370_395.out _; (with_reducible repeat (first | refine blk_drewN ?_ _ | refine blk_drew ?_ | refine blk_alloc ?_ _)); refine blk_far ?_ NB370_395.out _; (with_reducible repeat (first | refine blk_drewN ?_ _ | refine blk_drew ?_ | refine blk_alloc ?_ _)); refine blk_far ?_ NB370_395.out _; (with_reducible repeat (first | refine blk_drewN ?_ _ | refine blk_drew ?_ | refine blk_alloc ?_ _)); refine blk_far ?_ NB370_395.out _; (with_reducible repeat (first | refine blk_drewN ?_ _ | refine blk_drew ?_ | refine blk_alloc ?_ _)); exact BK370.out) hb); have n9_ := AM_ (blk_below (g := gb374) (o := .cells #[.slice Ao52 t371.length co52] 49 (0, 0)) (by (with_reducible repeat (first | refine blk_drewN ?_ _ | refine blk_drew ?_ | refine blk_alloc ?_ _)); refine blk_far ?_ NB374_395.out _; (with_reducible repeat (first | refine blk_drewN ?_ _ | refine blk_drew ?_ | refine blk_alloc ?_ _)); refine blk_far ?_ NB374_395.out _; (with_reducible repeat (first | refine blk_drewN ?_ _ | refine blk_drew ?_ | refine blk_alloc ?_ _)); refine blk_far ?_ NB374_395.out _; (with_reducible repeat (first | refine blk_drewN ?_ _ | refine blk_drew ?_ | refine blk_alloc ?_ _)); refine blk_far ?_ NB374_395.out _; (with_reducible repeat (first | refine blk_drewN ?_ _ | refine blk_drew ?_ | refine blk_alloc ?_ _)); refine blk_far ?_ NB374_395.out _; (with_reducible repeat (first | refine blk_drewN ?_ _ | refine blk_drew ?_ | refine blk_alloc ?_ _)); exact BK374.out) hb); have n10_ := AM_ (blk_below (g := gb388) (o := .cells #[.int .i64 t375, .int .i64 t376, .int .i64 t377, .int .i64 t378, .int .i64 t379, .int .i64 t380, .int .i64 t381, .slice Ao66 t382.length co66, .slice Ao67 t385.length co67] 68 (0, 0)) (by (with_reducible repeat (first | refine blk_drewN ?_ _ | refine blk_drew ?_ | refine blk_alloc ?_ _)); refine blk_far ?_ NB388_395.out _; (with_reducible repeat (first | refine blk_drewN ?_ _ | refine blk_drew ?_ | refine blk_alloc ?_ _)); refine blk_far ?_ NB388_395.out _; (with_reducible repeat (first | refine blk_drewN ?_ _ | refine blk_drew ?_ | refine blk_alloc ?_ _)); refine blk_far ?_ NB388_395.out _; (with_reducible repeat (first | refine blk_drewN ?_ _ | refine blk_drew ?_ | refine blk_alloc ?_ _)); refine blk_far ?_ NB388_395.out _; (with_reducible repeat (first | refine blk_drewN ?_ _ | refine blk_drew ?_ | refine blk_alloc ?_ _)); refine blk_far ?_ NB388_395.out _; (with_reducible repeat (first | refine blk_drewN ?_ _ | refine blk_drew ?_ | refine blk_alloc ?_ _)); exact BK388.out) hb); have n11_ := AM_ (blk_below (g := gb395) (o := .cells #[.int .i64 t389, .int .i64 t390, .int .i64 t391, .int .i64 t392, .int .i64 t393] 76 (0, 0)) (by (with_reducible repeat (first | refine blk_drewN ?_ _ | refine blk_drew ?_ | refine blk_alloc ?_ _)); refine blk_put (cs := #[.int .i64 t389, .int .i64 t390, .int .i64 t391, .int .i64 t392, .int .i64 0]) ?_ 4 _ rfl; (with_reducible repeat (first | refine blk_drewN ?_ _ | refine blk_drew ?_ | refine blk_alloc ?_ _)); refine blk_put (cs := #[.int .i64 t389, .int .i64 t390, .int .i64 t391, .int .i64 0, .int .i64 0]) ?_ 3 _ rfl; (with_reducible repeat (first | refine blk_drewN ?_ _ | refine blk_drew ?_ | refine blk_alloc ?_ _)); refine blk_put (cs := #[.int .i64 t389, .int .i64 t390, .int .i64 0, .int .i64 0, .int .i64 0]) ?_ 2 _ rfl; (with_reducible repeat (first | refine blk_drewN ?_ _ | refine blk_drew ?_ | refine blk_alloc ?_ _)); refine blk_put (cs := #[.int .i64 t389, .int .i64 0, .int .i64 0, .int .i64 0, .int .i64 0]) ?_ 1 _ rfl; (with_reducible repeat (first | refine blk_drewN ?_ _ | refine blk_drew ?_ | refine blk_alloc ?_ _)); refine blk_put (cs := #[.int .i64 0, .int .i64 0, .int .i64 0, .int .i64 0, .int .i64 0]) ?_ 0 _ rfl; (with_reducible repeat (first | refine blk_drewN ?_ _ | refine blk_drew ?_ | refine blk_alloc ?_ _)); exact BK395.out) hb); have n12_ := AM_ (below_step (BT HB.out) hb); clear HO350; clear HO360; clear HO363; clear HO373; clear HO384; clear HO387; clear BK344; clear BK345; clear BK370; clear BK374; clear BK388; clear BK395; clear HB; have HO350 := n0_; have HO360 := n1_; have HO363 := n2_; have HO373 := n3_; have HO384 := n4_; have HO387 := n5_; have BK344 := n6_; have BK345 := n7_; have BK370 := n8_; have BK374 := n9_; have BK388 := n10_; have BK395 := n11_; have HB := n12_; clear n0_ n1_ n2_ n3_ n4_ n5_ n6_ n7_ n8_ n9_ n10_ n11_ n12_; (try clear hb); (try clear hb2); (try clear hk); (try clear hi)))
   go_meet
   case rel => exact ⟨_, ((t394 != t369)), (by first | rfl | (simp; done) | (simp [*]; done)), H', ⟨by first | omega | exact Nat.le_refl _⟩, ⟨by (with_reducible repeat (first | apply Kd.S_alloc | apply Kd.S_drewN | apply Kd.S_drew)); exact Kd.S_mono HO373.out (fun _ hk => ⟨hk.1.2, hk.2⟩)⟩, ⟨by (with_reducible repeat (first | apply Kd.R_alloc | apply Kd.R_drewN | apply Kd.R_drew)); exact Kd.R_mono HO384.out (fun _ hk => trivial)⟩, ⟨by (with_reducible repeat (first | apply Kd.R_alloc | apply Kd.R_drewN | apply Kd.R_drew)); exact Kd.R_mono HO387.out (fun _ hk => trivial)⟩, ⟨BH BK344.out⟩, ⟨BH BK345.out⟩, ⟨BH BK370.out⟩, ⟨BH BK374.out⟩, ⟨BH BK388.out⟩, ⟨BH BK395.out⟩, ⟨BT HB.out⟩⟩
  replace c78 := Bool.eq_false_iff.mpr c78
  subst c78
  have H1 : (laws_FnExactChooseVersion.j0 k true l0_0 a1_0 a1_1 a1_2 a1_3 a1_4 a1_5 a1_6 l1_7 l1_8 t371 t375 t376 t377 t378 t379 t380 t381 t382 t385) = some r := by rw [if_neg (show ¬ (false = true) by decide)] at H; exact H
  clear H
  have H := H1
  clear H1
  have H' := AM_ H
  clear H
  have hnb91 := NB395_344.out
  have hnc91 := NB344_395.out
  have hnb92 := NB395_345.out
  have hnc92 := NB345_395.out
  have hnb93 := NB395_370.out
  have hnc93 := NB370_395.out
  have hnb94 := NB395_374.out
  have hnc94 := NB374_395.out
  have hnb95 := NB395_388.out
  have hnc95 := NB388_395.out
  obtain ⟨hcz96_0, hcz96_1, hcz96_2, hcz96_3, hcz96_4, hfz96_0, hfz96_1, hfz96_2, hfz96_3, hfz96_4⟩ := bk5 BK395.out
  have hnb97 := NB370_344.out
  have hnc97 := NB344_370.out
  have hnb98 := NB370_345.out
  have hnc98 := NB345_370.out
  have hnb99 := NB370_374.out
  have hnc99 := NB374_370.out
  have hnb100 := NB370_388.out
  have hnc100 := NB388_370.out
  obtain ⟨hcz101_0, hcz101_1, hcz101_2, hcz101_3, hcz101_4, hfz101_0, hfz101_1, hfz101_2, hfz101_3, hfz101_4⟩ := bk5 BK370.out
  go_wp2_with (first | ((with_reducible refine gate_callee (f := 46) rfl ?_); refine goesL_ (some 46) rfl rfl Try.func46 (by kernel_rfl) rfl #[.agg #[.int .i64 t389, .int .i64 t390, .int .i64 t391, .int .i64 t392, .int .i64 t393], .agg #[.int .i64 t364, .int .i64 t365, .int .i64 t366, .int .i64 t367, .int .i64 t368]] rfl (by (try simp only [List.map_toArray, List.map_cons, List.map_nil]); first | done | rfl | (simp only [List.length_drop, List.length_take]; rfl)) ?_; (with_reducible refine (laws_eqVersion.calls t389 t390 t391 t392 t393 t364 t365 t366 t367 t368 false _ A77.out).mono ?_); rintro e w102 ⟨rfl, hb⟩; refine ⟨_, rfl, ?_⟩; have n0_ := AM_ (Kd.S_below (by (with_reducible repeat (first | apply Kd.S_alloc | apply Kd.S_drewN | apply Kd.S_drew)); exact (Kd.S_mono (Kd.S_far (p := ⟨gb395, 4, none⟩) (Kd.S_far (p := ⟨gb395, 3, none⟩) (Kd.S_far (p := ⟨gb395, 2, none⟩) (Kd.S_far (p := ⟨gb395, 1, none⟩) (Kd.S_far (p := ⟨gb395, 0, none⟩) (Kd.S_mono HO350.out (fun k_ hk => (⟨hk, hk.2⟩ : _ ∧ k_ ≠ gb395))) (fun _ hk => hk.2) (.int .i64 t389)) (fun _ hk => hk.2) (.int .i64 t390)) (fun _ hk => hk.2) (.int .i64 t391)) (fun _ hk => hk.2) (.int .i64 t392)) (fun _ hk => hk.2) (.int .i64 t393)) (fun _ h_ => h_.1))) hb); have n1_ := AM_ (Kd.R_below (by (with_reducible repeat (first | apply Kd.R_alloc | apply Kd.R_drewN | apply Kd.R_drew)); exact (Kd.R_mono (Kd.R_far (p := ⟨gb395, 4, none⟩) (Kd.R_far (p := ⟨gb395, 3, none⟩) (Kd.R_far (p := ⟨gb395, 2, none⟩) (Kd.R_far (p := ⟨gb395, 1, none⟩) (Kd.R_far (p := ⟨gb395, 0, none⟩) (Kd.R_types HO360.out BK395.out (by decide)) (fun _ hk => hk.2) (.int .i64 t389)) (fun _ hk => hk.2) (.int .i64 t390)) (fun _ hk => hk.2) (.int .i64 t391)) (fun _ hk => hk.2) (.int .i64 t392)) (fun _ hk => hk.2) (.int .i64 t393)) (fun _ h_ => h_.1))) hb); have n2_ := AM_ (Kd.R_below (by (with_reducible repeat (first | apply Kd.R_alloc | apply Kd.R_drewN | apply Kd.R_drew)); exact (Kd.R_mono (Kd.R_far (p := ⟨gb395, 4, none⟩) (Kd.R_far (p := ⟨gb395, 3, none⟩) (Kd.R_far (p := ⟨gb395, 2, none⟩) (Kd.R_far (p := ⟨gb395, 1, none⟩) (Kd.R_far (p := ⟨gb395, 0, none⟩) (Kd.R_types HO363.out BK395.out (by decide)) (fun _ hk => hk.2) (.int .i64 t389)) (fun _ hk => hk.2) (.int .i64 t390)) (fun _ hk => hk.2) (.int .i64 t391)) (fun _ hk => hk.2) (.int .i64 t392)) (fun _ hk => hk.2) (.int .i64 t393)) (fun _ h_ => h_.1))) hb); have n3_ := AM_ (Kd.S_below (by (with_reducible repeat (first | apply Kd.S_alloc | apply Kd.S_drewN | apply Kd.S_drew)); exact (Kd.S_mono (Kd.S_far (p := ⟨gb395, 4, none⟩) (Kd.S_far (p := ⟨gb395, 3, none⟩) (Kd.S_far (p := ⟨gb395, 2, none⟩) (Kd.S_far (p := ⟨gb395, 1, none⟩) (Kd.S_far (p := ⟨gb395, 0, none⟩) (Kd.S_mono HO373.out (fun k_ hk => (⟨hk, hk.2⟩ : _ ∧ k_ ≠ gb395))) (fun _ hk => hk.2) (.int .i64 t389)) (fun _ hk => hk.2) (.int .i64 t390)) (fun _ hk => hk.2) (.int .i64 t391)) (fun _ hk => hk.2) (.int .i64 t392)) (fun _ hk => hk.2) (.int .i64 t393)) (fun _ h_ => h_.1))) hb); have n4_ := AM_ (Kd.R_below (by (with_reducible repeat (first | apply Kd.R_alloc | apply Kd.R_drewN | apply Kd.R_drew)); exact (Kd.R_mono (Kd.R_far (p := ⟨gb395, 4, none⟩) (Kd.R_far (p := ⟨gb395, 3, none⟩) (Kd.R_far (p := ⟨gb395, 2, none⟩) (Kd.R_far (p := ⟨gb395, 1, none⟩) (Kd.R_far (p := ⟨gb395, 0, none⟩) (Kd.R_types HO384.out BK395.out (by decide)) (fun _ hk => hk.2) (.int .i64 t389)) (fun _ hk => hk.2) (.int .i64 t390)) (fun _ hk => hk.2) (.int .i64 t391)) (fun _ hk => hk.2) (.int .i64 t392)) (fun _ hk => hk.2) (.int .i64 t393)) (fun _ h_ => h_.1))) hb); have n5_ := AM_ (Kd.R_below (by (with_reducible repeat (first | apply Kd.R_alloc | apply Kd.R_drewN | apply Kd.R_drew)); exact (Kd.R_mono (Kd.R_far (p := ⟨gb395, 4, none⟩) (Kd.R_far (p := ⟨gb395, 3, none⟩) (Kd.R_far (p := ⟨gb395, 2, none⟩) (Kd.R_far (p := ⟨gb395, 1, none⟩) (Kd.R_far (p := ⟨gb395, 0, none⟩) (Kd.R_types HO387.out BK395.out (by decide)) (fun _ hk => hk.2) (.int .i64 t389)) (fun _ hk => hk.2) (.int .i64 t390)) (fun _ hk => hk.2) (.int .i64 t391)) (fun _ hk => hk.2) (.int .i64 t392)) (fun _ hk => hk.2) (.int .i64 t393)) (fun _ h_ => h_.1))) hb); have n6_ := AM_ (blk_below (g := gb344) (o := .cells #[.slice A0_0 l0_0.length c0_0] 39 (0, 0)) (by (with_reducible repeat (first | refine blk_drewN ?_ _ | refine blk_drew ?_ | refine blk_alloc ?_ _)); refine blk_far ?_ NB344_395.out _; (with_reducible repeat (first | refine blk_drewN ?_ _ | refine blk_drew ?_ | refine blk_alloc ?_ _)); refine blk_far ?_ NB344_395.out _; (with_reducible repeat (first | refine blk_drewN ?_ _ | refine blk_drew ?_ | refine blk_alloc ?_ _)); refine blk_far ?_ NB344_395.out _; (with_reducible repeat (first | refine blk_drewN ?_ _ | refine blk_drew ?_ | refine blk_alloc ?_ _)); refine blk_far ?_ NB344_395.out _; (with_reducible repeat (first | refine blk_drewN ?_ _ | refine blk_drew ?_ | refine blk_alloc ?_ _)); refine blk_far ?_ NB344_395.out _; (with_reducible repeat (first | refine blk_drewN ?_ _ | refine blk_drew ?_ | refine blk_alloc ?_ _)); exact BK344.out) hb); have n7_ := AM_ (blk_below (g := gb345) (o := .cells #[.int .i64 a1_0, .int .i64 a1_1, .int .i64 a1_2, .int .i64 a1_3, .int .i64 a1_4, .int .i64 a1_5, .int .i64 a1_6, .slice A1_7 l1_7.length c1_7, .slice A1_8 l1_8.length c1_8] 60 (0, 0)) (by (with_reducible repeat (first | refine blk_drewN ?_ _ | refine blk_drew ?_ | refine blk_alloc ?_ _)); refine blk_far ?_ NB345_395.out _; (with_reducible repeat (first | refine blk_drewN ?_ _ | refine blk_drew ?_ | refine blk_alloc ?_ _)); refine blk_far ?_ NB345_395.out _; (with_reducible repeat (first | refine blk_drewN ?_ _ | refine blk_drew ?_ | refine blk_alloc ?_ _)); refine blk_far ?_ NB345_395.out _; (with_reducible repeat (first | refine blk_drewN ?_ _ | refine blk_drew ?_ | refine blk_alloc ?_ _)); refine blk_far ?_ NB345_395.out _; (with_reducible repeat (first | refine blk_drewN ?_ _ | refine blk_drew ?_ | refine blk_alloc ?_ _)); refine blk_far ?_ NB345_395.out _; (with_reducible repeat (first | refine blk_drewN ?_ _ | refine blk_drew ?_ | refine blk_alloc ?_ _)); exact BK345.out) hb); have n8_ := AM_ (blk_below (g := gb370) (o := .cells #[.int .i64 t364, .int .i64 t365, .int .i64 t366, .int .i64 t367, .int .i64 t368] 76 (0, 0)) (by (with_reducible repeat (first | refine blk_drewN ?_ _ | refine blk_drew ?_ | refine blk_alloc ?_ _)); refine blk_far ?_ NB370_395.out _; (with_reducible repeat (first | refine blk_drewN ?_ _ | refine blk_drew ?_ | refine blk_alloc ?_ _)); refine blk_far ?_ NB370_395.out _; (with_reducible repeat (first | refine blk_drewN ?_ _ | refine blk_drew ?_ | refine blk_alloc ?_ _)); refine blk_far ?_ NB370_395.out _; (with_reducible repeat (first | refine blk_drewN ?_ _ | refine blk_drew ?_ | refine blk_alloc ?_ _)); refine blk_far ?_ NB370_395.out _; (with_reducible repeat (first | refine blk_drewN ?_ _ | refine blk_drew ?_ | refine blk_alloc ?_ _)); refine blk_far ?_ NB370_395.out _; (with_reducible repeat (first | refine blk_drewN ?_ _ | refine blk_drew ?_ | refine blk_alloc ?_ _)); exact BK370.out) hb); have n9_ := AM_ (blk_below (g := gb374) (o := .cells #[.slice Ao52 t371.length co52] 49 (0, 0)) (by (with_reducible repeat (first | refine blk_drewN ?_ _ | refine blk_drew ?_ | refine blk_alloc ?_ _)); refine blk_far ?_ NB374_395.out _; (with_reducible repeat (first | refine blk_drewN ?_ _ | refine blk_drew ?_ | refine blk_alloc ?_ _)); refine blk_far ?_ NB374_395.out _; (with_reducible repeat (first | refine blk_drewN ?_ _ | refine blk_drew ?_ | refine blk_alloc ?_ _)); refine blk_far ?_ NB374_395.out _; (with_reducible repeat (first | refine blk_drewN ?_ _ | refine blk_drew ?_ | refine blk_alloc ?_ _)); refine blk_far ?_ NB374_395.out _; (with_reducible repeat (first | refine blk_drewN ?_ _ | refine blk_drew ?_ | refine blk_alloc ?_ _)); refine blk_far ?_ NB374_395.out _; (with_reducible repeat (first | refine blk_drewN ?_ _ | refine blk_drew ?_ | refine blk_alloc ?_ _)); exact BK374.out) hb); have n10_ := AM_ (blk_below (g := gb388) (o := .cells #[.int .i64 t375, .int .i64 t376, .int .i64 t377, .int .i64 t378, .int .i64 t379, .int .i64 t380, .int .i64 t381, .slice Ao66 t382.length co66, .slice Ao67 t385.length co67] 68 (0, 0)) (by (with_reducible repeat (first | refine blk_drewN ?_ _ | refine blk_drew ?_ | refine blk_alloc ?_ _)); refine blk_far ?_ NB388_395.out _; (with_reducible repeat (first | refine blk_drewN ?_ _ | refine blk_drew ?_ | refine blk_alloc ?_ _)); refine blk_far ?_ NB388_395.out _; (with_reducible repeat (first | refine blk_drewN ?_ _ | refine blk_drew ?_ | refine blk_alloc ?_ _)); refine blk_far ?_ NB388_395.out _; (with_reducible repeat (first | refine blk_drewN ?_ _ | refine blk_drew ?_ | refine blk_alloc ?_ _)); refine blk_far ?_ NB388_395.out _; (with_reducible repeat (first | refine blk_drewN ?_ _ | refine blk_drew ?_ | refine blk_alloc ?_ _)); refine blk_far ?_ NB388_395.out _; (with_reducible repeat (first | refine blk_drewN ?_ _ | refine blk_drew ?_ | refine blk_alloc ?_ _)); exact BK388.out) hb); have n11_ := AM_ (blk_below (g := gb395) (o := .cells #[.int .i64 t389, .int .i64 t390, .int .i64 t391, .int .i64 t392, .int .i64 t393] 76 (0, 0)) (by (with_reducible repeat (first | refine blk_drewN ?_ _ | refine blk_drew ?_ | refine blk_alloc ?_ _)); refine blk_put (cs := #[.int .i64 t389, .int .i64 t390, .int .i64 t391, .int .i64 t392, .int .i64 0]) ?_ 4 _ rfl; (with_reducible repeat (first | refine blk_drewN ?_ _ | refine blk_drew ?_ | refine blk_alloc ?_ _)); refine blk_put (cs := #[.int .i64 t389, .int .i64 t390, .int .i64 t391, .int .i64 0, .int .i64 0]) ?_ 3 _ rfl; (with_reducible repeat (first | refine blk_drewN ?_ _ | refine blk_drew ?_ | refine blk_alloc ?_ _)); refine blk_put (cs := #[.int .i64 t389, .int .i64 t390, .int .i64 0, .int .i64 0, .int .i64 0]) ?_ 2 _ rfl; (with_reducible repeat (first | refine blk_drewN ?_ _ | refine blk_drew ?_ | refine blk_alloc ?_ _)); refine blk_put (cs := #[.int .i64 t389, .int .i64 0, .int .i64 0, .int .i64 0, .int .i64 0]) ?_ 1 _ rfl; (with_reducible repeat (first | refine blk_drewN ?_ _ | refine blk_drew ?_ | refine blk_alloc ?_ _)); refine blk_put (cs := #[.int .i64 0, .int .i64 0, .int .i64 0, .int .i64 0, .int .i64 0]) ?_ 0 _ rfl; (with_reducible repeat (first | refine blk_drewN ?_ _ | refine blk_drew ?_ | refine blk_alloc ?_ _)); exact BK395.out) hb); have n12_ := AM_ (below_step (BT HB.out) hb); clear HO350; clear HO360; clear HO363; clear HO373; clear HO384; clear HO387; clear BK344; clear BK345; clear BK370; clear BK374; clear BK388; clear BK395; clear HB; have HO350 := n0_; have HO360 := n1_; have HO363 := n2_; have HO373 := n3_; have HO384 := n4_; have HO387 := n5_; have BK344 := n6_; have BK345 := n7_; have BK370 := n8_; have BK374 := n9_; have BK388 := n10_; have BK395 := n11_; have HB := n12_; clear n0_ n1_ n2_ n3_ n4_ n5_ n6_ n7_ n8_ n9_ n10_ n11_ n12_; (try clear hb); (try clear hb2); (try clear hk); (try clear hi)))
  go_meet
  case rel => exact ⟨_, (true), (by first | rfl | (simp; done) | (simp [*]; done)), H', ⟨by first | omega | exact Nat.le_refl _⟩, ⟨by (with_reducible repeat (first | apply Kd.S_alloc | apply Kd.S_drewN | apply Kd.S_drew)); exact Kd.S_mono HO373.out (fun _ hk => ⟨hk.1.2, hk.2⟩)⟩, ⟨by (with_reducible repeat (first | apply Kd.R_alloc | apply Kd.R_drewN | apply Kd.R_drew)); exact Kd.R_mono HO384.out (fun _ hk => trivial)⟩, ⟨by (with_reducible repeat (first | apply Kd.R_alloc | apply Kd.R_drewN | apply Kd.R_drew)); exact Kd.R_mono HO387.out (fun _ hk => trivial)⟩, ⟨BH BK344.out⟩, ⟨BH BK345.out⟩, ⟨BH BK370.out⟩, ⟨BH BK374.out⟩, ⟨BH BK388.out⟩, ⟨BH BK395.out⟩, ⟨BT HB.out⟩⟩
 case rest =>
  clear HC26
  try clear c1
  try clear p2
  try clear c3
  try clear c4
  try clear c5
  try clear c6
  try clear c7
  try clear c8
  try clear c9
  try clear c10
  try clear c35
  try clear c36
  try clear c44
  try clear c45
  try clear c46
  try clear c48
  try clear c53
  try clear c54
  try clear c55
  try clear c57
  try clear c61
  try clear c62
  try clear c63
  try clear c64
  try clear c71
  try clear c72
  try clear c73
  try clear c74
  try clear c75
  try clear c78
  try clear c79
  try clear c80
  try clear c81
  try clear c82
  try clear c83
  try clear c85
  try clear c86
  try clear c87
  try clear c88
  try clear c91
  try clear c92
  try clear c93
  try clear c94
  try clear c95
  try clear c97
  try clear c98
  try clear c99
  try clear c100
  try clear hcz101_0
  try clear hcz101_1
  try clear hcz101_2
  try clear hcz101_3
  try clear hcz101_4
  try clear hcz49_0
  try clear hcz56_0
  try clear hcz58_0
  try clear hcz58_1
  try clear hcz58_2
  try clear hcz58_3
  try clear hcz58_4
  try clear hcz58_5
  try clear hcz58_6
  try clear hcz58_7
  try clear hcz58_8
  try clear hcz65_0
  try clear hcz65_1
  try clear hcz65_2
  try clear hcz65_3
  try clear hcz65_4
  try clear hcz65_5
  try clear hcz65_6
  try clear hcz65_7
  try clear hcz65_8
  try clear hcz68_0
  try clear hcz76_0
  try clear hcz76_1
  try clear hcz76_2
  try clear hcz76_3
  try clear hcz76_4
  try clear hcz84_0
  try clear hcz84_1
  try clear hcz84_2
  try clear hcz84_3
  try clear hcz84_4
  try clear hcz89_0
  try clear hcz89_1
  try clear hcz89_2
  try clear hcz89_3
  try clear hcz89_4
  try clear hcz96_0
  try clear hcz96_1
  try clear hcz96_2
  try clear hcz96_3
  try clear hcz96_4
  try clear hfz101_0
  try clear hfz101_1
  try clear hfz101_2
  try clear hfz101_3
  try clear hfz101_4
  try clear hfz49_0
  try clear hfz56_0
  try clear hfz58_0
  try clear hfz58_1
  try clear hfz58_2
  try clear hfz58_3
  try clear hfz58_4
  try clear hfz58_5
  try clear hfz58_6
  try clear hfz58_7
  try clear hfz58_8
  try clear hfz65_0
  try clear hfz65_1
  try clear hfz65_2
  try clear hfz65_3
  try clear hfz65_4
  try clear hfz65_5
  try clear hfz65_6
  try clear hfz65_7
  try clear hfz65_8
  try clear hfz68_0
  try clear hfz76_0
  try clear hfz76_1
  try clear hfz76_2
  try clear hfz76_3
  try clear hfz76_4
  try clear hfz84_0
  try clear hfz84_1
  try clear hfz84_2
  try clear hfz84_3
  try clear hfz84_4
  try clear hfz89_0
  try clear hfz89_1
  try clear hfz89_2
  try clear hfz89_3
  try clear hfz89_4
  try clear hfz96_0
  try clear hfz96_1
  try clear hfz96_2
  try clear hfz96_3
  try clear hfz96_4
  obtain ⟨kq, x52_25, rfl, HA, HJ25, HO_375000, HO_389007, HO_389008, BK344, BK345, BK370, BK374, BK388, BK395, HB⟩ := hcut
  cases kq with
  | zero => exact absurd HA.out (by simp [laws_FnExactChooseVersion.j0])
  | succ kj25 =>
   have H := HA.out
   clear HA
   simp only [laws_FnExactChooseVersion.j0] at H
   by_cases c103 : x52_25 = true
   ·subst c103
    have H1 : (some false) = some r := by rw [if_pos rfl] at H; exact H
    clear H
    have H := H1
    clear H1
    obtain rfl := Option.some.inj H
    go_wp2
    go_ret
    exact QT (BT HB.out)
   replace c103 := Bool.eq_false_iff.mpr c103
   subst c103
   have H1 : ((laws_toStore.f kj25 l0_0).bind fun t397 => ((laws_eqStore.f kj25 t371 t397).bind fun t400 => (if t400 = true then ((laws_toTransaction.f kj25 a1_0 a1_1 a1_2 a1_3 a1_4 a1_5 a1_6 l1_7 l1_8).bind fun bt401 => ((laws_eqTransaction.f kj25 t375 t376 t377 t378 t379 t380 t381 t382 t385 bt401.1 bt401.2.1 bt401.2.2.1 bt401.2.2.2.1 bt401.2.2.2.2.1 bt401.2.2.2.2.2.1 bt401.2.2.2.2.2.2.1 bt401.2.2.2.2.2.2.2.1 bt401.2.2.2.2.2.2.2.2).bind fun t414 => (if t414 = true then (some true) else (some false)))) else (some false)))) = some r := by rw [if_neg (show ¬ (false = true) by decide)] at H; exact H
   clear H
   have H := H1
   clear H1
   replace H := Option.bind_eq_some_iff.mp H
   obtain ⟨t397, A1040, H⟩ := H
   replace H : ((laws_eqStore.f kj25 t371 t397).bind fun t400 => (if t400 = true then ((laws_toTransaction.f kj25 a1_0 a1_1 a1_2 a1_3 a1_4 a1_5 a1_6 l1_7 l1_8).bind fun bt401 => ((laws_eqTransaction.f kj25 t375 t376 t377 t378 t379 t380 t381 t382 t385 bt401.1 bt401.2.1 bt401.2.2.1 bt401.2.2.2.1 bt401.2.2.2.2.1 bt401.2.2.2.2.2.1 bt401.2.2.2.2.2.2.1 bt401.2.2.2.2.2.2.2.1 bt401.2.2.2.2.2.2.2.2).bind fun t414 => (if t414 = true then (some true) else (some false)))) else (some false))) = some r := H
   have A104 := AM_ A1040
   clear A1040
   replace H := Option.bind_eq_some_iff.mp H
   obtain ⟨t400, A1050, H⟩ := H
   replace H : (if t400 = true then ((laws_toTransaction.f kj25 a1_0 a1_1 a1_2 a1_3 a1_4 a1_5 a1_6 l1_7 l1_8).bind fun bt401 => ((laws_eqTransaction.f kj25 t375 t376 t377 t378 t379 t380 t381 t382 t385 bt401.1 bt401.2.1 bt401.2.2.1 bt401.2.2.2.1 bt401.2.2.2.2.1 bt401.2.2.2.2.2.1 bt401.2.2.2.2.2.2.1 bt401.2.2.2.2.2.2.2.1 bt401.2.2.2.2.2.2.2.2).bind fun t414 => (if t414 = true then (some true) else (some false)))) else (some false)) = some r := H
   have A105 := AM_ A1050
   clear A1050
   by_cases c106 : t400 = true
   rotate_left
   ·replace c106 := Bool.eq_false_iff.mpr c106
    subst c106
    have H1 : (some false) = some r := by rw [if_neg (show ¬ (false = true) by decide)] at H; exact H
    clear H
    have H := H1
    clear H1
    obtain rfl := Option.some.inj H
    try go_wp2
    have n0_ := AM_ (Kd.S_drew HO_375000.out)
    have n1_ := AM_ (Kd.R_drew HO_389007.out)
    have n2_ := AM_ (Kd.R_drew HO_389008.out)
    have n3_ := AM_ (blk_drew BK344.out)
    have n4_ := AM_ (blk_drew BK345.out)
    have n5_ := AM_ (blk_drew BK370.out)
    have n6_ := AM_ (blk_drew BK374.out)
    have n7_ := AM_ (blk_drew BK388.out)
    have n8_ := AM_ (blk_drew BK395.out)
    have n9_ := AM_ (below_drew1 HB.out)
    clear HO_375000
    clear HO_389007
    clear HO_389008
    clear BK344
    clear BK345
    clear BK370
    clear BK374
    clear BK388
    clear BK395
    clear HB
    have HO_375000 := n0_
    have HO_389007 := n1_
    have HO_389008 := n2_
    have BK344 := n3_
    have BK345 := n4_
    have BK370 := n5_
    have BK374 := n6_
    have BK388 := n7_
    have BK395 := n8_
    have HB := n9_
    clear n0_ n1_ n2_ n3_ n4_ n5_ n6_ n7_ n8_ n9_
    refine start_ (n := 5) (S := fun w' => w'.cell? ⟨gb374, 0, none⟩ = some (.slice Ao52 t371.length co52) ∧ w'.cell? ⟨gb344, 0, none⟩ = some (.slice A0_0 l0_0.length c0_0)) (ds := []) (bs 0 5) (by kernel_rfl) rfl rfl ⟨bc BK374.out 0, bc BK344.out 0⟩ (fun hHeld => ?_)
    generalize wc.drew = w128 at HO_375000 HO_389007 HO_389008 BK344 BK345 BK370 BK374 BK388 BK395 HB hHeld ⊢
    refine take_ (i := 0) (N := some 53) (v := ?_) (a' := ?_) (bs 1 5) rfl rfl (by kernel_rfl) (fun _ _ _ h => h) (Or.inl ⟨by rfl, ?_⟩) hHeld ?_ ?_
    rotate_left
    ·rintro w' ⟨s0, s1⟩
     go_simp
     with_reducible rfl
    rotate_left
    ·simp only [pA, pS, pZ, pK, i64_w, i32_w]
     rfl
    refine take_ (i := 1) (N := some 54) (v := ?_) (a' := ?_) (bs 3 5) rfl rfl (by kernel_rfl) (fun _ _ _ h => h) (Or.inl ⟨by rfl, ?_⟩) hHeld ?_ ?_
    rotate_left
    ·rintro w' ⟨s0, s1⟩
     go_simp
     with_reducible rfl
    rotate_left
    ·simp only [pA, pS, pZ, pK, i64_w, i32_w]
     rfl
    refine one_ (i := 2) (N := some 55) (bs 7 5) rfl rfl (by kernel_rfl) (by decide) (fun K hK => ?_)
    refine goes_ Try.func35 (by kernel_rfl) rfl #[.agg #[.slice A0_0 l0_0.length c0_0]] (by rfl) rfl rfl (by (try simp only [List.map_toArray, List.map_cons, List.map_nil]); first | done | rfl | (simp only [List.length_drop, List.length_take]; rfl)) ?_
    with_reducible refine (laws_toStore.calls kj25 _ _ l0_0 t397 _ ?side1 ?side2 A104.out).mono ?_
    (case side1 => exact CB HR0_0.out HB.out)
    (case side2 => exact HC0_0.out)
    rintro e w129 ⟨v398, rfl, ho0, hb⟩
    refine ⟨_, rfl, ?_⟩
    have n0_ := AM_ (Kd.S_elder' (by exact SL HO_375000.out rfl) (Kd.S_base ho0) hb)
    have n1_ := AM_ (Kd.R_below (RT HO_389007.out) hb)
    have n2_ := AM_ (Kd.R_below (RT HO_389008.out) hb)
    have n3_ := AM_ (Kd.S_lower (Kd.S_newB (Kd.S_newB (Kd.S_new' ho0 (Kd.S_lt (by exact SL HO_375000.out rfl))) (g := gb370) (o := .cells #[.int .i64 t364, .int .i64 t365, .int .i64 t366, .int .i64 t367, .int .i64 t368] 76 (0, 0)) (by (with_reducible repeat (first | refine blk_drewN ?_ _ | refine blk_drew ?_ | refine blk_alloc ?_ _)); exact BK370.out)) (g := gb395) (o := .cells #[.int .i64 t389, .int .i64 t390, .int .i64 t391, .int .i64 t392, .int .i64 t393] 76 (0, 0)) (by (with_reducible repeat (first | refine blk_drewN ?_ _ | refine blk_drew ?_ | refine blk_alloc ?_ _)); exact BK395.out)) (below_size (BT HB.out)))
    have n4_ := AM_ (BB BK344.out hb)
    have n5_ := AM_ (BB BK345.out hb)
    have n6_ := AM_ (BB BK370.out hb)
    have n7_ := AM_ (BB BK374.out hb)
    have n8_ := AM_ (BB BK388.out hb)
    have n9_ := AM_ (BB BK395.out hb)
    have n10_ := AM_ (below_step (BT HB.out) hb)
    clear HO_375000
    clear HO_389007
    clear HO_389008
    clear BK344
    clear BK345
    clear BK370
    clear BK374
    clear BK388
    clear BK395
    clear HB
    have HO_375000 := n0_
    have HO_389007 := n1_
    have HO_389008 := n2_
    have HO399 := n3_
    have BK344 := n4_
    have BK345 := n5_
    have BK370 := n6_
    have BK374 := n7_
    have BK388 := n8_
    have BK395 := n9_
    have HB := n10_
    clear n0_ n1_ n2_ n3_ n4_ n5_ n6_ n7_ n8_ n9_ n10_
    (try clear hb)
    (try clear hb2)
    (try clear hk)
    (try clear hi)
    (try clear ho0)
    obtain ⟨Ao130, co130, eo130⟩ := Kd.S_slice HO399.out
    (first | subst eo130 | (injection eo130 with f1_ f2_ f3_; have f4_ := f1_.symm; have f5_ := f3_.symm; clear f1_ f2_ f3_; subst f4_; subst f5_))
    refine hK.out _ _ ⟨bc BK374.out 0, bc BK344.out 0⟩ (fun hHeld => ?_)
    clear hK K
    refine norm_ (a' := ?_) ?_ ?_
    rotate_left
    ·show Act.put _ (some 55) _ = _
     simp only [pA, pS, pZ, pK, i64_w, i32_w]
     rfl
    refine one_ (i := 3) (N := some 56) (bs 15 5) rfl rfl (by kernel_rfl) (by decide) (fun K hK => ?_)
    refine goes_ Try.func38 (by kernel_rfl) rfl #[.agg #[.slice Ao52 t371.length co52], .agg #[.slice Ao130 t397.length co130]] (by rfl) rfl rfl (by (try simp only [List.map_toArray, List.map_cons, List.map_nil]); first | done | rfl | (simp only [List.length_drop, List.length_take]; rfl)) ?_
    with_reducible refine (laws_eqStore.calls kj25 _ _ t371 _ _ t397 false _ ?side1 ?side2 ?side3 ?side4 A105.out).mono ?_
    (case side1 => exact Kd.C_below (Kd.S_reads' HO_375000.out).2.2 (BL (Below.refl _ _) rfl rfl rfl rfl))
    (case side2 => exact (Kd.S_reads' HO_375000.out).2.1)
    (case side3 => exact Kd.C_below (Kd.S_reads' HO399.out).2.2 (BL (Below.refl _ _) rfl rfl rfl rfl))
    (case side4 => exact (Kd.S_reads' HO399.out).2.1)
    rintro e w131 ⟨rfl, hb⟩
    refine ⟨_, rfl, ?_⟩
    have n0_ := AM_ (Kd.S_below (by exact SL HO_375000.out rfl) hb)
    have n1_ := AM_ (Kd.R_below (RT HO_389007.out) hb)
    have n2_ := AM_ (Kd.R_below (RT HO_389008.out) hb)
    have n3_ := AM_ (Kd.S_below (by exact SL HO399.out rfl) hb)
    have n4_ := AM_ (BB BK344.out hb)
    have n5_ := AM_ (BB BK345.out hb)
    have n6_ := AM_ (BB BK370.out hb)
    have n7_ := AM_ (BB BK374.out hb)
    have n8_ := AM_ (BB BK388.out hb)
    have n9_ := AM_ (BB BK395.out hb)
    have n10_ := AM_ (below_step (BT HB.out) hb)
    clear HO_375000
    clear HO_389007
    clear HO_389008
    clear HO399
    clear BK344
    clear BK345
    clear BK370
    clear BK374
    clear BK388
    clear BK395
    clear HB
    have HO_375000 := n0_
    have HO_389007 := n1_
    have HO_389008 := n2_
    have HO399 := n3_
    have BK344 := n4_
    have BK345 := n5_
    have BK370 := n6_
    have BK374 := n7_
    have BK388 := n8_
    have BK395 := n9_
    have HB := n10_
    clear n0_ n1_ n2_ n3_ n4_ n5_ n6_ n7_ n8_ n9_ n10_
    (try clear hb)
    (try clear hb2)
    (try clear hk)
    (try clear hi)
    refine hK.out _ _ ⟨bc BK374.out 0, bc BK344.out 0⟩ (fun hHeld => ?_)
    clear hK K
    refine norm_ (a' := ?_) ?_ ?_
    rotate_left
    ·show Act.put _ (some 56) _ = _
     simp only [pA, pS, pZ, pK, i64_w, i32_w]
     rfl
    refine pure_ (i := 4) (N := some 57) (v := ?_) (a' := ?_) (bs 31 5) rfl rfl (by kernel_rfl) (fun _ _ _ h => h) (Or.inl ⟨by rfl, ?_⟩) ?_ ?_
    rotate_left
    ·intro w'
     go_simp
     with_reducible rfl
    rotate_left
    ·simp only [pA, pS, pZ, pK, i64_w, i32_w]
     rfl
    refine done_ (by kernel_rfl) ?_
    try go_wp2
    go_ret
    exact QT (BT HB.out)
   subst c106
   have H1 : ((laws_toTransaction.f kj25 a1_0 a1_1 a1_2 a1_3 a1_4 a1_5 a1_6 l1_7 l1_8).bind fun bt401 => ((laws_eqTransaction.f kj25 t375 t376 t377 t378 t379 t380 t381 t382 t385 bt401.1 bt401.2.1 bt401.2.2.1 bt401.2.2.2.1 bt401.2.2.2.2.1 bt401.2.2.2.2.2.1 bt401.2.2.2.2.2.2.1 bt401.2.2.2.2.2.2.2.1 bt401.2.2.2.2.2.2.2.2).bind fun t414 => (if t414 = true then (some true) else (some false)))) = some r := by rw [if_pos rfl] at H; exact H
   clear H
   have H := H1
   clear H1
   replace H := Option.bind_eq_some_iff.mp H
   obtain ⟨⟨t401, t402, t403, t404, t405, t406, t407, t408, t411⟩, A1070, H⟩ := H
   replace H : ((laws_eqTransaction.f kj25 t375 t376 t377 t378 t379 t380 t381 t382 t385 t401 t402 t403 t404 t405 t406 t407 t408 t411).bind fun t414 => (if t414 = true then (some true) else (some false))) = some r := H
   have A107 := AM_ A1070
   clear A1070
   replace H := Option.bind_eq_some_iff.mp H
   obtain ⟨t414, A1080, H⟩ := H
   replace H : (if t414 = true then (some true) else (some false)) = some r := H
   have A108 := AM_ A1080
   clear A1080
   by_cases c109 : t414 = true
   ·subst c109
    have H1 : (some true) = some r := by rw [if_pos rfl] at H; exact H
    clear H
    have H := H1
    clear H1
    obtain rfl := Option.some.inj H
    try go_wp2
    have n0_ := AM_ (Kd.S_drew HO_375000.out)
    have n1_ := AM_ (Kd.R_drew HO_389007.out)
    have n2_ := AM_ (Kd.R_drew HO_389008.out)
    have n3_ := AM_ (blk_drew BK344.out)
    have n4_ := AM_ (blk_drew BK345.out)
    have n5_ := AM_ (blk_drew BK370.out)
    have n6_ := AM_ (blk_drew BK374.out)
    have n7_ := AM_ (blk_drew BK388.out)
    have n8_ := AM_ (blk_drew BK395.out)
    have n9_ := AM_ (below_drew1 HB.out)
    clear HO_375000
    clear HO_389007
    clear HO_389008
    clear BK344
    clear BK345
    clear BK370
    clear BK374
    clear BK388
    clear BK395
    clear HB
    have HO_375000 := n0_
    have HO_389007 := n1_
    have HO_389008 := n2_
    have BK344 := n3_
    have BK345 := n4_
    have BK370 := n5_
    have BK374 := n6_
    have BK388 := n7_
    have BK395 := n8_
    have HB := n9_
    clear n0_ n1_ n2_ n3_ n4_ n5_ n6_ n7_ n8_ n9_
    refine start_ (n := 5) (S := fun w' => w'.cell? ⟨gb374, 0, none⟩ = some (.slice Ao52 t371.length co52) ∧ w'.cell? ⟨gb344, 0, none⟩ = some (.slice A0_0 l0_0.length c0_0)) (ds := []) (bs 0 5) (by kernel_rfl) rfl rfl ⟨bc BK374.out 0, bc BK344.out 0⟩ (fun hHeld => ?_)
    generalize wc.drew = w110 at HO_375000 HO_389007 HO_389008 BK344 BK345 BK370 BK374 BK388 BK395 HB hHeld ⊢
    refine take_ (i := 0) (N := some 53) (v := ?_) (a' := ?_) (bs 1 5) rfl rfl (by kernel_rfl) (fun _ _ _ h => h) (Or.inl ⟨by rfl, ?_⟩) hHeld ?_ ?_
    rotate_left
    ·rintro w' ⟨s0, s1⟩
     go_simp
     with_reducible rfl
    rotate_left
    ·simp only [pA, pS, pZ, pK, i64_w, i32_w]
     rfl
    refine take_ (i := 1) (N := some 54) (v := ?_) (a' := ?_) (bs 3 5) rfl rfl (by kernel_rfl) (fun _ _ _ h => h) (Or.inl ⟨by rfl, ?_⟩) hHeld ?_ ?_
    rotate_left
    ·rintro w' ⟨s0, s1⟩
     go_simp
     with_reducible rfl
    rotate_left
    ·simp only [pA, pS, pZ, pK, i64_w, i32_w]
     rfl
    refine one_ (i := 2) (N := some 55) (bs 7 5) rfl rfl (by kernel_rfl) (by decide) (fun K hK => ?_)
    refine goes_ Try.func35 (by kernel_rfl) rfl #[.agg #[.slice A0_0 l0_0.length c0_0]] (by rfl) rfl rfl (by (try simp only [List.map_toArray, List.map_cons, List.map_nil]); first | done | rfl | (simp only [List.length_drop, List.length_take]; rfl)) ?_
    with_reducible refine (laws_toStore.calls kj25 _ _ l0_0 t397 _ ?side1 ?side2 A104.out).mono ?_
    (case side1 => exact CB HR0_0.out HB.out)
    (case side2 => exact HC0_0.out)
    rintro e w111 ⟨v398, rfl, ho0, hb⟩
    refine ⟨_, rfl, ?_⟩
    have n0_ := AM_ (Kd.S_elder' (by exact SL HO_375000.out rfl) (Kd.S_base ho0) hb)
    have n1_ := AM_ (Kd.R_below (RT HO_389007.out) hb)
    have n2_ := AM_ (Kd.R_below (RT HO_389008.out) hb)
    have n3_ := AM_ (Kd.S_lower (Kd.S_newB (Kd.S_newB (Kd.S_new' ho0 (Kd.S_lt (by exact SL HO_375000.out rfl))) (g := gb370) (o := .cells #[.int .i64 t364, .int .i64 t365, .int .i64 t366, .int .i64 t367, .int .i64 t368] 76 (0, 0)) (by (with_reducible repeat (first | refine blk_drewN ?_ _ | refine blk_drew ?_ | refine blk_alloc ?_ _)); exact BK370.out)) (g := gb395) (o := .cells #[.int .i64 t389, .int .i64 t390, .int .i64 t391, .int .i64 t392, .int .i64 t393] 76 (0, 0)) (by (with_reducible repeat (first | refine blk_drewN ?_ _ | refine blk_drew ?_ | refine blk_alloc ?_ _)); exact BK395.out)) (below_size (BT HB.out)))
    have n4_ := AM_ (BB BK344.out hb)
    have n5_ := AM_ (BB BK345.out hb)
    have n6_ := AM_ (BB BK370.out hb)
    have n7_ := AM_ (BB BK374.out hb)
    have n8_ := AM_ (BB BK388.out hb)
    have n9_ := AM_ (BB BK395.out hb)
    have n10_ := AM_ (below_step (BT HB.out) hb)
    clear HO_375000
    clear HO_389007
    clear HO_389008
    clear BK344
    clear BK345
    clear BK370
    clear BK374
    clear BK388
    clear BK395
    clear HB
    have HO_375000 := n0_
    have HO_389007 := n1_
    have HO_389008 := n2_
    have HO399 := n3_
    have BK344 := n4_
    have BK345 := n5_
    have BK370 := n6_
    have BK374 := n7_
    have BK388 := n8_
    have BK395 := n9_
    have HB := n10_
    clear n0_ n1_ n2_ n3_ n4_ n5_ n6_ n7_ n8_ n9_ n10_
    (try clear hb)
    (try clear hb2)
    (try clear hk)
    (try clear hi)
    (try clear ho0)
    obtain ⟨Ao112, co112, eo112⟩ := Kd.S_slice HO399.out
    (first | subst eo112 | (injection eo112 with f1_ f2_ f3_; have f4_ := f1_.symm; have f5_ := f3_.symm; clear f1_ f2_ f3_; subst f4_; subst f5_))
    refine hK.out _ _ ⟨bc BK374.out 0, bc BK344.out 0⟩ (fun hHeld => ?_)
    clear hK K
    refine norm_ (a' := ?_) ?_ ?_
    rotate_left
    ·show Act.put _ (some 55) _ = _
     simp only [pA, pS, pZ, pK, i64_w, i32_w]
     rfl
    refine one_ (i := 3) (N := some 56) (bs 15 5) rfl rfl (by kernel_rfl) (by decide) (fun K hK => ?_)
    refine goes_ Try.func38 (by kernel_rfl) rfl #[.agg #[.slice Ao52 t371.length co52], .agg #[.slice Ao112 t397.length co112]] (by rfl) rfl rfl (by (try simp only [List.map_toArray, List.map_cons, List.map_nil]); first | done | rfl | (simp only [List.length_drop, List.length_take]; rfl)) ?_
    with_reducible refine (laws_eqStore.calls kj25 _ _ t371 _ _ t397 true _ ?side1 ?side2 ?side3 ?side4 A105.out).mono ?_
    (case side1 => exact Kd.C_below (Kd.S_reads' HO_375000.out).2.2 (BL (Below.refl _ _) rfl rfl rfl rfl))
    (case side2 => exact (Kd.S_reads' HO_375000.out).2.1)
    (case side3 => exact Kd.C_below (Kd.S_reads' HO399.out).2.2 (BL (Below.refl _ _) rfl rfl rfl rfl))
    (case side4 => exact (Kd.S_reads' HO399.out).2.1)
    rintro e w113 ⟨rfl, hb⟩
    refine ⟨_, rfl, ?_⟩
    have n0_ := AM_ (Kd.S_below (by exact SL HO_375000.out rfl) hb)
    have n1_ := AM_ (Kd.R_below (RT HO_389007.out) hb)
    have n2_ := AM_ (Kd.R_below (RT HO_389008.out) hb)
    have n3_ := AM_ (Kd.S_below (by exact SL HO399.out rfl) hb)
    have n4_ := AM_ (BB BK344.out hb)
    have n5_ := AM_ (BB BK345.out hb)
    have n6_ := AM_ (BB BK370.out hb)
    have n7_ := AM_ (BB BK374.out hb)
    have n8_ := AM_ (BB BK388.out hb)
    have n9_ := AM_ (BB BK395.out hb)
    have n10_ := AM_ (below_step (BT HB.out) hb)
    clear HO_375000
    clear HO_389007
    clear HO_389008
    clear HO399
    clear BK344
    clear BK345
    clear BK370
    clear BK374
    clear BK388
    clear BK395
    clear HB
    have HO_375000 := n0_
    have HO_389007 := n1_
    have HO_389008 := n2_
    have HO399 := n3_
    have BK344 := n4_
    have BK345 := n5_
    have BK370 := n6_
    have BK374 := n7_
    have BK388 := n8_
    have BK395 := n9_
    have HB := n10_
    clear n0_ n1_ n2_ n3_ n4_ n5_ n6_ n7_ n8_ n9_ n10_
    (try clear hb)
    (try clear hb2)
    (try clear hk)
    (try clear hi)
    refine hK.out _ _ ⟨bc BK374.out 0, bc BK344.out 0⟩ (fun hHeld => ?_)
    clear hK K
    refine norm_ (a' := ?_) ?_ ?_
    rotate_left
    ·show Act.put _ (some 56) _ = _
     simp only [pA, pS, pZ, pK, i64_w, i32_w]
     rfl
    refine pure_ (i := 4) (N := some 57) (v := ?_) (a' := ?_) (bs 31 5) rfl rfl (by kernel_rfl) (fun _ _ _ h => h) (Or.inl ⟨by rfl, ?_⟩) ?_ ?_
    rotate_left
    ·intro w'
     go_simp
     with_reducible rfl
    rotate_left
    ·simp only [pA, pS, pZ, pK, i64_w, i32_w]
     rfl
    refine done_ (by kernel_rfl) ?_
    try go_wp2
    have n0_ := AM_ (Kd.S_drew HO_375000.out)
    have n1_ := AM_ (Kd.R_drew HO_389007.out)
    have n2_ := AM_ (Kd.R_drew HO_389008.out)
    have n3_ := AM_ (Kd.S_drew HO399.out)
    have n4_ := AM_ (blk_drew BK344.out)
    have n5_ := AM_ (blk_drew BK345.out)
    have n6_ := AM_ (blk_drew BK370.out)
    have n7_ := AM_ (blk_drew BK374.out)
    have n8_ := AM_ (blk_drew BK388.out)
    have n9_ := AM_ (blk_drew BK395.out)
    have n10_ := AM_ (below_drew1 HB.out)
    clear HO_375000
    clear HO_389007
    clear HO_389008
    clear HO399
    clear BK344
    clear BK345
    clear BK370
    clear BK374
    clear BK388
    clear BK395
    clear HB
    have HO_375000 := n0_
    have HO_389007 := n1_
    have HO_389008 := n2_
    have HO399 := n3_
    have BK344 := n4_
    have BK345 := n5_
    have BK370 := n6_
    have BK374 := n7_
    have BK388 := n8_
    have BK395 := n9_
    have HB := n10_
    clear n0_ n1_ n2_ n3_ n4_ n5_ n6_ n7_ n8_ n9_ n10_
    refine start_ (n := 5) (S := fun w' => w'.cell? ⟨gb388, 0, none⟩ = some (.int .i64 t375) ∧ w'.cell? ⟨gb388, 1, none⟩ = some (.int .i64 t376) ∧ w'.cell? ⟨gb388, 2, none⟩ = some (.int .i64 t377) ∧ w'.cell? ⟨gb388, 3, none⟩ = some (.int .i64 t378) ∧ w'.cell? ⟨gb388, 4, none⟩ = some (.int .i64 t379) ∧ w'.cell? ⟨gb388, 5, none⟩ = some (.int .i64 t380) ∧ w'.cell? ⟨gb388, 6, none⟩ = some (.int .i64 t381) ∧ w'.cell? ⟨gb388, 7, none⟩ = some (.slice Ao66 t382.length co66) ∧ w'.cell? ⟨gb388, 8, none⟩ = some (.slice Ao67 t385.length co67) ∧ w'.cell? ⟨gb345, 0, none⟩ = some (.int .i64 a1_0) ∧ w'.cell? ⟨gb345, 1, none⟩ = some (.int .i64 a1_1) ∧ w'.cell? ⟨gb345, 2, none⟩ = some (.int .i64 a1_2) ∧ w'.cell? ⟨gb345, 3, none⟩ = some (.int .i64 a1_3) ∧ w'.cell? ⟨gb345, 4, none⟩ = some (.int .i64 a1_4) ∧ w'.cell? ⟨gb345, 5, none⟩ = some (.int .i64 a1_5) ∧ w'.cell? ⟨gb345, 6, none⟩ = some (.int .i64 a1_6) ∧ w'.cell? ⟨gb345, 7, none⟩ = some (.slice A1_7 l1_7.length c1_7) ∧ w'.cell? ⟨gb345, 8, none⟩ = some (.slice A1_8 l1_8.length c1_8)) (ds := []) (bs 0 5) (by kernel_rfl) rfl rfl ⟨bc BK388.out 0, bc BK388.out 1, bc BK388.out 2, bc BK388.out 3, bc BK388.out 4, bc BK388.out 5, bc BK388.out 6, bc BK388.out 7, bc BK388.out 8, bc BK345.out 0, bc BK345.out 1, bc BK345.out 2, bc BK345.out 3, bc BK345.out 4, bc BK345.out 5, bc BK345.out 6, bc BK345.out 7, bc BK345.out 8⟩ (fun hHeld => ?_)
    generalize w113.drew = w114 at HO_375000 HO_389007 HO_389008 HO399 BK344 BK345 BK370 BK374 BK388 BK395 HB hHeld ⊢
    refine take_ (i := 0) (N := some 58) (v := ?_) (a' := ?_) (bs 1 5) rfl rfl (by kernel_rfl) (fun _ _ _ h => h) (Or.inl ⟨by rfl, ?_⟩) hHeld ?_ ?_
    rotate_left
    ·rintro w' ⟨s0, s1, s2, s3, s4, s5, s6, s7, s8, s9, s10, s11, s12, s13, s14, s15, s16, s17⟩
     go_simp
     with_reducible rfl
    rotate_left
    ·simp only [pA, pS, pZ, pK, i64_w, i32_w]
     rfl
    refine take_ (i := 1) (N := some 59) (v := ?_) (a' := ?_) (bs 3 5) rfl rfl (by kernel_rfl) (fun _ _ _ h => h) (Or.inl ⟨by rfl, ?_⟩) hHeld ?_ ?_
    rotate_left
    ·rintro w' ⟨s0, s1, s2, s3, s4, s5, s6, s7, s8, s9, s10, s11, s12, s13, s14, s15, s16, s17⟩
     go_simp
     with_reducible rfl
    rotate_left
    ·simp only [pA, pS, pZ, pK, i64_w, i32_w]
     rfl
    refine one_ (i := 2) (N := some 60) (bs 7 5) rfl rfl (by kernel_rfl) (by decide) (fun K hK => ?_)
    refine goes_ Try.func36 (by kernel_rfl) rfl #[.agg #[.int .i64 a1_0, .int .i64 a1_1, .int .i64 a1_2, .int .i64 a1_3, .int .i64 a1_4, .int .i64 a1_5, .int .i64 a1_6, .slice A1_7 l1_7.length c1_7, .slice A1_8 l1_8.length c1_8]] (by rfl) rfl rfl (by (try simp only [List.map_toArray, List.map_cons, List.map_nil]); first | done | rfl | (simp only [List.length_drop, List.length_take]; rfl)) ?_
    with_reducible refine (laws_toTransaction.calls kj25 a1_0 a1_1 a1_2 a1_3 a1_4 a1_5 a1_6 _ _ l1_7 _ _ l1_8 t401 t402 t403 t404 t405 t406 t407 t408 t411 _ ?side1 ?side2 ?side3 ?side4 A107.out).mono ?_
    (case side1 => exact CB HR1_7.out HB.out)
    (case side2 => exact HC1_7.out)
    (case side3 => exact CB HR1_8.out HB.out)
    (case side4 => exact HC1_8.out)
    rintro e w115 ⟨v409, v412, rfl, ho0, ho1, hb⟩
    refine ⟨_, rfl, ?_⟩
    have n0_ := AM_ (Kd.S_below (by exact SL HO_375000.out rfl) hb)
    have n1_ := AM_ (Kd.R_elder' (RT HO_389007.out) (Kd.R_base ho0) hb)
    have n2_ := AM_ (Kd.R_elder' (RT HO_389008.out) (Kd.R_base ho1) hb)
    have n3_ := AM_ (Kd.S_below (by exact SL HO399.out rfl) hb)
    have n4_ := AM_ (Kd.R_lower (Kd.R_new' ho0 (Kd.R_lt (RT HO_389007.out))) (below_size (BT HB.out)))
    have n5_ := AM_ (Kd.R_lower (Kd.R_new' ho1 (Kd.R_lt (RT HO_389008.out))) (below_size (BT HB.out)))
    have n6_ := AM_ (BB BK344.out hb)
    have n7_ := AM_ (BB BK345.out hb)
    have n8_ := AM_ (BB BK370.out hb)
    have n9_ := AM_ (BB BK374.out hb)
    have n10_ := AM_ (BB BK388.out hb)
    have n11_ := AM_ (BB BK395.out hb)
    have n12_ := AM_ (below_step (BT HB.out) hb)
    clear HO_375000
    clear HO_389007
    clear HO_389008
    clear HO399
    clear BK344
    clear BK345
    clear BK370
    clear BK374
    clear BK388
    clear BK395
    clear HB
    have HO_375000 := n0_
    have HO_389007 := n1_
    have HO_389008 := n2_
    have HO399 := n3_
    have HO410 := n4_
    have HO413 := n5_
    have BK344 := n6_
    have BK345 := n7_
    have BK370 := n8_
    have BK374 := n9_
    have BK388 := n10_
    have BK395 := n11_
    have HB := n12_
    clear n0_ n1_ n2_ n3_ n4_ n5_ n6_ n7_ n8_ n9_ n10_ n11_ n12_
    (try clear hb)
    (try clear hb2)
    (try clear hk)
    (try clear hi)
    (try clear ho0)
    (try clear ho1)
    obtain ⟨Ao116, co116, eo116⟩ := Kd.R_slice HO410.out
    (first | subst eo116 | (injection eo116 with f1_ f2_ f3_; have f4_ := f1_.symm; have f5_ := f3_.symm; clear f1_ f2_ f3_; subst f4_; subst f5_))
    obtain ⟨Ao117, co117, eo117⟩ := Kd.R_slice HO413.out
    (first | subst eo117 | (injection eo117 with f1_ f2_ f3_; have f4_ := f1_.symm; have f5_ := f3_.symm; clear f1_ f2_ f3_; subst f4_; subst f5_))
    refine hK.out _ _ ⟨bc BK388.out 0, bc BK388.out 1, bc BK388.out 2, bc BK388.out 3, bc BK388.out 4, bc BK388.out 5, bc BK388.out 6, bc BK388.out 7, bc BK388.out 8, bc BK345.out 0, bc BK345.out 1, bc BK345.out 2, bc BK345.out 3, bc BK345.out 4, bc BK345.out 5, bc BK345.out 6, bc BK345.out 7, bc BK345.out 8⟩ (fun hHeld => ?_)
    clear hK K
    refine norm_ (a' := ?_) ?_ ?_
    rotate_left
    ·show Act.put _ (some 60) _ = _
     simp only [pA, pS, pZ, pK, i64_w, i32_w]
     rfl
    refine one_ (i := 3) (N := some 61) (bs 15 5) rfl rfl (by kernel_rfl) (by decide) (fun K hK => ?_)
    refine goes_ Try.func39 (by kernel_rfl) rfl #[.agg #[.int .i64 t375, .int .i64 t376, .int .i64 t377, .int .i64 t378, .int .i64 t379, .int .i64 t380, .int .i64 t381, .slice Ao66 t382.length co66, .slice Ao67 t385.length co67], .agg #[.int .i64 t401, .int .i64 t402, .int .i64 t403, .int .i64 t404, .int .i64 t405, .int .i64 t406, .int .i64 t407, .slice Ao116 t408.length co116, .slice Ao117 t411.length co117]] (by rfl) rfl rfl (by (try simp only [List.map_toArray, List.map_cons, List.map_nil]); first | done | rfl | (simp only [List.length_drop, List.length_take]; rfl)) ?_
    with_reducible refine (laws_eqTransaction.calls kj25 t375 t376 t377 t378 t379 t380 t381 _ _ t382 _ _ t385 t401 t402 t403 t404 t405 t406 t407 _ _ t408 _ _ t411 true _ ?side1 ?side2 ?side3 ?side4 ?side5 ?side6 ?side7 ?side8 A108.out).mono ?_
    (case side1 => exact Kd.C_below (Kd.R_reads' HO_389007.out).2.2 (BL (Below.refl _ _) rfl rfl rfl rfl))
    (case side2 => exact (Kd.R_reads' HO_389007.out).2.1)
    (case side3 => exact Kd.C_below (Kd.R_reads' HO_389008.out).2.2 (BL (Below.refl _ _) rfl rfl rfl rfl))
    (case side4 => exact (Kd.R_reads' HO_389008.out).2.1)
    (case side5 => exact Kd.C_below (Kd.R_reads' HO410.out).2.2 (BL (Below.refl _ _) rfl rfl rfl rfl))
    (case side6 => exact (Kd.R_reads' HO410.out).2.1)
    (case side7 => exact Kd.C_below (Kd.R_reads' HO413.out).2.2 (BL (Below.refl _ _) rfl rfl rfl rfl))
    (case side8 => exact (Kd.R_reads' HO413.out).2.1)
    rintro e w118 ⟨rfl, hb⟩
    refine ⟨_, rfl, ?_⟩
    have n0_ := AM_ (Kd.S_below (by exact SL HO_375000.out rfl) hb)
    have n1_ := AM_ (Kd.R_below (RT HO_389007.out) hb)
    have n2_ := AM_ (Kd.R_below (RT HO_389008.out) hb)
    have n3_ := AM_ (Kd.S_below (by exact SL HO399.out rfl) hb)
    have n4_ := AM_ (Kd.R_below (RT HO410.out) hb)
    have n5_ := AM_ (Kd.R_below (RT HO413.out) hb)
    have n6_ := AM_ (BB BK344.out hb)
    have n7_ := AM_ (BB BK345.out hb)
    have n8_ := AM_ (BB BK370.out hb)
    have n9_ := AM_ (BB BK374.out hb)
    have n10_ := AM_ (BB BK388.out hb)
    have n11_ := AM_ (BB BK395.out hb)
    have n12_ := AM_ (below_step (BT HB.out) hb)
    clear HO_375000
    clear HO_389007
    clear HO_389008
    clear HO399
    clear HO410
    clear HO413
    clear BK344
    clear BK345
    clear BK370
    clear BK374
    clear BK388
    clear BK395
    clear HB
    have HO_375000 := n0_
    have HO_389007 := n1_
    have HO_389008 := n2_
    have HO399 := n3_
    have HO410 := n4_
    have HO413 := n5_
    have BK344 := n6_
    have BK345 := n7_
    have BK370 := n8_
    have BK374 := n9_
    have BK388 := n10_
    have BK395 := n11_
    have HB := n12_
    clear n0_ n1_ n2_ n3_ n4_ n5_ n6_ n7_ n8_ n9_ n10_ n11_ n12_
    (try clear hb)
    (try clear hb2)
    (try clear hk)
    (try clear hi)
    refine hK.out _ _ ⟨bc BK388.out 0, bc BK388.out 1, bc BK388.out 2, bc BK388.out 3, bc BK388.out 4, bc BK388.out 5, bc BK388.out 6, bc BK388.out 7, bc BK388.out 8, bc BK345.out 0, bc BK345.out 1, bc BK345.out 2, bc BK345.out 3, bc BK345.out 4, bc BK345.out 5, bc BK345.out 6, bc BK345.out 7, bc BK345.out 8⟩ (fun hHeld => ?_)
    clear hK K
    refine norm_ (a' := ?_) ?_ ?_
    rotate_left
    ·show Act.put _ (some 61) _ = _
     simp only [pA, pS, pZ, pK, i64_w, i32_w]
     rfl
    refine pure_ (i := 4) (N := some 62) (v := ?_) (a' := ?_) (bs 31 5) rfl rfl (by kernel_rfl) (fun _ _ _ h => h) (Or.inl ⟨by rfl, ?_⟩) ?_ ?_
    rotate_left
    ·intro w'
     go_simp
     with_reducible rfl
    rotate_left
    ·simp only [pA, pS, pZ, pK, i64_w, i32_w]
     rfl
    refine done_ (by kernel_rfl) ?_
    try go_wp2
    go_ret
    exact QT (BT HB.out)
   replace c109 := Bool.eq_false_iff.mpr c109
   subst c109
   have H1 : (some false) = some r := by rw [if_neg (show ¬ (false = true) by decide)] at H; exact H
   clear H
   have H := H1
   clear H1
   obtain rfl := Option.some.inj H
   try go_wp2
   have n0_ := AM_ (Kd.S_drew HO_375000.out)
   have n1_ := AM_ (Kd.R_drew HO_389007.out)
   have n2_ := AM_ (Kd.R_drew HO_389008.out)
   have n3_ := AM_ (blk_drew BK344.out)
   have n4_ := AM_ (blk_drew BK345.out)
   have n5_ := AM_ (blk_drew BK370.out)
   have n6_ := AM_ (blk_drew BK374.out)
   have n7_ := AM_ (blk_drew BK388.out)
   have n8_ := AM_ (blk_drew BK395.out)
   have n9_ := AM_ (below_drew1 HB.out)
   clear HO_375000
   clear HO_389007
   clear HO_389008
   clear BK344
   clear BK345
   clear BK370
   clear BK374
   clear BK388
   clear BK395
   clear HB
   have HO_375000 := n0_
   have HO_389007 := n1_
   have HO_389008 := n2_
   have BK344 := n3_
   have BK345 := n4_
   have BK370 := n5_
   have BK374 := n6_
   have BK388 := n7_
   have BK395 := n8_
   have HB := n9_
   clear n0_ n1_ n2_ n3_ n4_ n5_ n6_ n7_ n8_ n9_
   refine start_ (n := 5) (S := fun w' => w'.cell? ⟨gb374, 0, none⟩ = some (.slice Ao52 t371.length co52) ∧ w'.cell? ⟨gb344, 0, none⟩ = some (.slice A0_0 l0_0.length c0_0)) (ds := []) (bs 0 5) (by kernel_rfl) rfl rfl ⟨bc BK374.out 0, bc BK344.out 0⟩ (fun hHeld => ?_)
   generalize wc.drew = w119 at HO_375000 HO_389007 HO_389008 BK344 BK345 BK370 BK374 BK388 BK395 HB hHeld ⊢
   refine take_ (i := 0) (N := some 53) (v := ?_) (a' := ?_) (bs 1 5) rfl rfl (by kernel_rfl) (fun _ _ _ h => h) (Or.inl ⟨by rfl, ?_⟩) hHeld ?_ ?_
   rotate_left
   ·rintro w' ⟨s0, s1⟩
    go_simp
    with_reducible rfl
   rotate_left
   ·simp only [pA, pS, pZ, pK, i64_w, i32_w]
    rfl
   refine take_ (i := 1) (N := some 54) (v := ?_) (a' := ?_) (bs 3 5) rfl rfl (by kernel_rfl) (fun _ _ _ h => h) (Or.inl ⟨by rfl, ?_⟩) hHeld ?_ ?_
   rotate_left
   ·rintro w' ⟨s0, s1⟩
    go_simp
    with_reducible rfl
   rotate_left
   ·simp only [pA, pS, pZ, pK, i64_w, i32_w]
    rfl
   refine one_ (i := 2) (N := some 55) (bs 7 5) rfl rfl (by kernel_rfl) (by decide) (fun K hK => ?_)
   refine goes_ Try.func35 (by kernel_rfl) rfl #[.agg #[.slice A0_0 l0_0.length c0_0]] (by rfl) rfl rfl (by (try simp only [List.map_toArray, List.map_cons, List.map_nil]); first | done | rfl | (simp only [List.length_drop, List.length_take]; rfl)) ?_
   with_reducible refine (laws_toStore.calls kj25 _ _ l0_0 t397 _ ?side1 ?side2 A104.out).mono ?_
   (case side1 => exact CB HR0_0.out HB.out)
   (case side2 => exact HC0_0.out)
   rintro e w120 ⟨v398, rfl, ho0, hb⟩
   refine ⟨_, rfl, ?_⟩
   have n0_ := AM_ (Kd.S_elder' (by exact SL HO_375000.out rfl) (Kd.S_base ho0) hb)
   have n1_ := AM_ (Kd.R_below (RT HO_389007.out) hb)
   have n2_ := AM_ (Kd.R_below (RT HO_389008.out) hb)
   have n3_ := AM_ (Kd.S_lower (Kd.S_newB (Kd.S_newB (Kd.S_new' ho0 (Kd.S_lt (by exact SL HO_375000.out rfl))) (g := gb370) (o := .cells #[.int .i64 t364, .int .i64 t365, .int .i64 t366, .int .i64 t367, .int .i64 t368] 76 (0, 0)) (by (with_reducible repeat (first | refine blk_drewN ?_ _ | refine blk_drew ?_ | refine blk_alloc ?_ _)); exact BK370.out)) (g := gb395) (o := .cells #[.int .i64 t389, .int .i64 t390, .int .i64 t391, .int .i64 t392, .int .i64 t393] 76 (0, 0)) (by (with_reducible repeat (first | refine blk_drewN ?_ _ | refine blk_drew ?_ | refine blk_alloc ?_ _)); exact BK395.out)) (below_size (BT HB.out)))
   have n4_ := AM_ (BB BK344.out hb)
   have n5_ := AM_ (BB BK345.out hb)
   have n6_ := AM_ (BB BK370.out hb)
   have n7_ := AM_ (BB BK374.out hb)
   have n8_ := AM_ (BB BK388.out hb)
   have n9_ := AM_ (BB BK395.out hb)
   have n10_ := AM_ (below_step (BT HB.out) hb)
   clear HO_375000
   clear HO_389007
   clear HO_389008
   clear BK344
   clear BK345
   clear BK370
   clear BK374
   clear BK388
   clear BK395
   clear HB
   have HO_375000 := n0_
   have HO_389007 := n1_
   have HO_389008 := n2_
   have HO399 := n3_
   have BK344 := n4_
   have BK345 := n5_
   have BK370 := n6_
   have BK374 := n7_
   have BK388 := n8_
   have BK395 := n9_
   have HB := n10_
   clear n0_ n1_ n2_ n3_ n4_ n5_ n6_ n7_ n8_ n9_ n10_
   (try clear hb)
   (try clear hb2)
   (try clear hk)
   (try clear hi)
   (try clear ho0)
   obtain ⟨Ao121, co121, eo121⟩ := Kd.S_slice HO399.out
   (first | subst eo121 | (injection eo121 with f1_ f2_ f3_; have f4_ := f1_.symm; have f5_ := f3_.symm; clear f1_ f2_ f3_; subst f4_; subst f5_))
   refine hK.out _ _ ⟨bc BK374.out 0, bc BK344.out 0⟩ (fun hHeld => ?_)
   clear hK K
   refine norm_ (a' := ?_) ?_ ?_
   rotate_left
   ·show Act.put _ (some 55) _ = _
    simp only [pA, pS, pZ, pK, i64_w, i32_w]
    rfl
   refine one_ (i := 3) (N := some 56) (bs 15 5) rfl rfl (by kernel_rfl) (by decide) (fun K hK => ?_)
   refine goes_ Try.func38 (by kernel_rfl) rfl #[.agg #[.slice Ao52 t371.length co52], .agg #[.slice Ao121 t397.length co121]] (by rfl) rfl rfl (by (try simp only [List.map_toArray, List.map_cons, List.map_nil]); first | done | rfl | (simp only [List.length_drop, List.length_take]; rfl)) ?_
   with_reducible refine (laws_eqStore.calls kj25 _ _ t371 _ _ t397 true _ ?side1 ?side2 ?side3 ?side4 A105.out).mono ?_
   (case side1 => exact Kd.C_below (Kd.S_reads' HO_375000.out).2.2 (BL (Below.refl _ _) rfl rfl rfl rfl))
   (case side2 => exact (Kd.S_reads' HO_375000.out).2.1)
   (case side3 => exact Kd.C_below (Kd.S_reads' HO399.out).2.2 (BL (Below.refl _ _) rfl rfl rfl rfl))
   (case side4 => exact (Kd.S_reads' HO399.out).2.1)
   rintro e w122 ⟨rfl, hb⟩
   refine ⟨_, rfl, ?_⟩
   have n0_ := AM_ (Kd.S_below (by exact SL HO_375000.out rfl) hb)
   have n1_ := AM_ (Kd.R_below (RT HO_389007.out) hb)
   have n2_ := AM_ (Kd.R_below (RT HO_389008.out) hb)
   have n3_ := AM_ (Kd.S_below (by exact SL HO399.out rfl) hb)
   have n4_ := AM_ (BB BK344.out hb)
   have n5_ := AM_ (BB BK345.out hb)
   have n6_ := AM_ (BB BK370.out hb)
   have n7_ := AM_ (BB BK374.out hb)
   have n8_ := AM_ (BB BK388.out hb)
   have n9_ := AM_ (BB BK395.out hb)
   have n10_ := AM_ (below_step (BT HB.out) hb)
   clear HO_375000
   clear HO_389007
   clear HO_389008
   clear HO399
   clear BK344
   clear BK345
   clear BK370
   clear BK374
   clear BK388
   clear BK395
   clear HB
   have HO_375000 := n0_
   have HO_389007 := n1_
   have HO_389008 := n2_
   have HO399 := n3_
   have BK344 := n4_
   have BK345 := n5_
   have BK370 := n6_
   have BK374 := n7_
   have BK388 := n8_
   have BK395 := n9_
   have HB := n10_
   clear n0_ n1_ n2_ n3_ n4_ n5_ n6_ n7_ n8_ n9_ n10_
   (try clear hb)
   (try clear hb2)
   (try clear hk)
   (try clear hi)
   refine hK.out _ _ ⟨bc BK374.out 0, bc BK344.out 0⟩ (fun hHeld => ?_)
   clear hK K
   refine norm_ (a' := ?_) ?_ ?_
   rotate_left
   ·show Act.put _ (some 56) _ = _
    simp only [pA, pS, pZ, pK, i64_w, i32_w]
    rfl
   refine pure_ (i := 4) (N := some 57) (v := ?_) (a' := ?_) (bs 31 5) rfl rfl (by kernel_rfl) (fun _ _ _ h => h) (Or.inl ⟨by rfl, ?_⟩) ?_ ?_
   rotate_left
   ·intro w'
    go_simp
    with_reducible rfl
   rotate_left
   ·simp only [pA, pS, pZ, pK, i64_w, i32_w]
    rfl
   refine done_ (by kernel_rfl) ?_
   try go_wp2
   have n0_ := AM_ (Kd.S_drew HO_375000.out)
   have n1_ := AM_ (Kd.R_drew HO_389007.out)
   have n2_ := AM_ (Kd.R_drew HO_389008.out)
   have n3_ := AM_ (Kd.S_drew HO399.out)
   have n4_ := AM_ (blk_drew BK344.out)
   have n5_ := AM_ (blk_drew BK345.out)
   have n6_ := AM_ (blk_drew BK370.out)
   have n7_ := AM_ (blk_drew BK374.out)
   have n8_ := AM_ (blk_drew BK388.out)
   have n9_ := AM_ (blk_drew BK395.out)
   have n10_ := AM_ (below_drew1 HB.out)
   clear HO_375000
   clear HO_389007
   clear HO_389008
   clear HO399
   clear BK344
   clear BK345
   clear BK370
   clear BK374
   clear BK388
   clear BK395
   clear HB
   have HO_375000 := n0_
   have HO_389007 := n1_
   have HO_389008 := n2_
   have HO399 := n3_
   have BK344 := n4_
   have BK345 := n5_
   have BK370 := n6_
   have BK374 := n7_
   have BK388 := n8_
   have BK395 := n9_
   have HB := n10_
   clear n0_ n1_ n2_ n3_ n4_ n5_ n6_ n7_ n8_ n9_ n10_
   refine start_ (n := 5) (S := fun w' => w'.cell? ⟨gb388, 0, none⟩ = some (.int .i64 t375) ∧ w'.cell? ⟨gb388, 1, none⟩ = some (.int .i64 t376) ∧ w'.cell? ⟨gb388, 2, none⟩ = some (.int .i64 t377) ∧ w'.cell? ⟨gb388, 3, none⟩ = some (.int .i64 t378) ∧ w'.cell? ⟨gb388, 4, none⟩ = some (.int .i64 t379) ∧ w'.cell? ⟨gb388, 5, none⟩ = some (.int .i64 t380) ∧ w'.cell? ⟨gb388, 6, none⟩ = some (.int .i64 t381) ∧ w'.cell? ⟨gb388, 7, none⟩ = some (.slice Ao66 t382.length co66) ∧ w'.cell? ⟨gb388, 8, none⟩ = some (.slice Ao67 t385.length co67) ∧ w'.cell? ⟨gb345, 0, none⟩ = some (.int .i64 a1_0) ∧ w'.cell? ⟨gb345, 1, none⟩ = some (.int .i64 a1_1) ∧ w'.cell? ⟨gb345, 2, none⟩ = some (.int .i64 a1_2) ∧ w'.cell? ⟨gb345, 3, none⟩ = some (.int .i64 a1_3) ∧ w'.cell? ⟨gb345, 4, none⟩ = some (.int .i64 a1_4) ∧ w'.cell? ⟨gb345, 5, none⟩ = some (.int .i64 a1_5) ∧ w'.cell? ⟨gb345, 6, none⟩ = some (.int .i64 a1_6) ∧ w'.cell? ⟨gb345, 7, none⟩ = some (.slice A1_7 l1_7.length c1_7) ∧ w'.cell? ⟨gb345, 8, none⟩ = some (.slice A1_8 l1_8.length c1_8)) (ds := []) (bs 0 5) (by kernel_rfl) rfl rfl ⟨bc BK388.out 0, bc BK388.out 1, bc BK388.out 2, bc BK388.out 3, bc BK388.out 4, bc BK388.out 5, bc BK388.out 6, bc BK388.out 7, bc BK388.out 8, bc BK345.out 0, bc BK345.out 1, bc BK345.out 2, bc BK345.out 3, bc BK345.out 4, bc BK345.out 5, bc BK345.out 6, bc BK345.out 7, bc BK345.out 8⟩ (fun hHeld => ?_)
   generalize w122.drew = w123 at HO_375000 HO_389007 HO_389008 HO399 BK344 BK345 BK370 BK374 BK388 BK395 HB hHeld ⊢
   refine take_ (i := 0) (N := some 58) (v := ?_) (a' := ?_) (bs 1 5) rfl rfl (by kernel_rfl) (fun _ _ _ h => h) (Or.inl ⟨by rfl, ?_⟩) hHeld ?_ ?_
   rotate_left
   ·rintro w' ⟨s0, s1, s2, s3, s4, s5, s6, s7, s8, s9, s10, s11, s12, s13, s14, s15, s16, s17⟩
    go_simp
    with_reducible rfl
   rotate_left
   ·simp only [pA, pS, pZ, pK, i64_w, i32_w]
    rfl
   refine take_ (i := 1) (N := some 59) (v := ?_) (a' := ?_) (bs 3 5) rfl rfl (by kernel_rfl) (fun _ _ _ h => h) (Or.inl ⟨by rfl, ?_⟩) hHeld ?_ ?_
   rotate_left
   ·rintro w' ⟨s0, s1, s2, s3, s4, s5, s6, s7, s8, s9, s10, s11, s12, s13, s14, s15, s16, s17⟩
    go_simp
    with_reducible rfl
   rotate_left
   ·simp only [pA, pS, pZ, pK, i64_w, i32_w]
    rfl
   refine one_ (i := 2) (N := some 60) (bs 7 5) rfl rfl (by kernel_rfl) (by decide) (fun K hK => ?_)
   refine goes_ Try.func36 (by kernel_rfl) rfl #[.agg #[.int .i64 a1_0, .int .i64 a1_1, .int .i64 a1_2, .int .i64 a1_3, .int .i64 a1_4, .int .i64 a1_5, .int .i64 a1_6, .slice A1_7 l1_7.length c1_7, .slice A1_8 l1_8.length c1_8]] (by rfl) rfl rfl (by (try simp only [List.map_toArray, List.map_cons, List.map_nil]); first | done | rfl | (simp only [List.length_drop, List.length_take]; rfl)) ?_
   with_reducible refine (laws_toTransaction.calls kj25 a1_0 a1_1 a1_2 a1_3 a1_4 a1_5 a1_6 _ _ l1_7 _ _ l1_8 t401 t402 t403 t404 t405 t406 t407 t408 t411 _ ?side1 ?side2 ?side3 ?side4 A107.out).mono ?_
   (case side1 => exact CB HR1_7.out HB.out)
   (case side2 => exact HC1_7.out)
   (case side3 => exact CB HR1_8.out HB.out)
   (case side4 => exact HC1_8.out)
   rintro e w124 ⟨v409, v412, rfl, ho0, ho1, hb⟩
   refine ⟨_, rfl, ?_⟩
   have n0_ := AM_ (Kd.S_below (by exact SL HO_375000.out rfl) hb)
   have n1_ := AM_ (Kd.R_elder' (RT HO_389007.out) (Kd.R_base ho0) hb)
   have n2_ := AM_ (Kd.R_elder' (RT HO_389008.out) (Kd.R_base ho1) hb)
   have n3_ := AM_ (Kd.S_below (by exact SL HO399.out rfl) hb)
   have n4_ := AM_ (Kd.R_lower (Kd.R_new' ho0 (Kd.R_lt (RT HO_389007.out))) (below_size (BT HB.out)))
   have n5_ := AM_ (Kd.R_lower (Kd.R_new' ho1 (Kd.R_lt (RT HO_389008.out))) (below_size (BT HB.out)))
   have n6_ := AM_ (BB BK344.out hb)
   have n7_ := AM_ (BB BK345.out hb)
   have n8_ := AM_ (BB BK370.out hb)
   have n9_ := AM_ (BB BK374.out hb)
   have n10_ := AM_ (BB BK388.out hb)
   have n11_ := AM_ (BB BK395.out hb)
   have n12_ := AM_ (below_step (BT HB.out) hb)
   clear HO_375000
   clear HO_389007
   clear HO_389008
   clear HO399
   clear BK344
   clear BK345
   clear BK370
   clear BK374
   clear BK388
   clear BK395
   clear HB
   have HO_375000 := n0_
   have HO_389007 := n1_
   have HO_389008 := n2_
   have HO399 := n3_
   have HO410 := n4_
   have HO413 := n5_
   have BK344 := n6_
   have BK345 := n7_
   have BK370 := n8_
   have BK374 := n9_
   have BK388 := n10_
   have BK395 := n11_
   have HB := n12_
   clear n0_ n1_ n2_ n3_ n4_ n5_ n6_ n7_ n8_ n9_ n10_ n11_ n12_
   (try clear hb)
   (try clear hb2)
   (try clear hk)
   (try clear hi)
   (try clear ho0)
   (try clear ho1)
   obtain ⟨Ao125, co125, eo125⟩ := Kd.R_slice HO410.out
   (first | subst eo125 | (injection eo125 with f1_ f2_ f3_; have f4_ := f1_.symm; have f5_ := f3_.symm; clear f1_ f2_ f3_; subst f4_; subst f5_))
   obtain ⟨Ao126, co126, eo126⟩ := Kd.R_slice HO413.out
   (first | subst eo126 | (injection eo126 with f1_ f2_ f3_; have f4_ := f1_.symm; have f5_ := f3_.symm; clear f1_ f2_ f3_; subst f4_; subst f5_))
   refine hK.out _ _ ⟨bc BK388.out 0, bc BK388.out 1, bc BK388.out 2, bc BK388.out 3, bc BK388.out 4, bc BK388.out 5, bc BK388.out 6, bc BK388.out 7, bc BK388.out 8, bc BK345.out 0, bc BK345.out 1, bc BK345.out 2, bc BK345.out 3, bc BK345.out 4, bc BK345.out 5, bc BK345.out 6, bc BK345.out 7, bc BK345.out 8⟩ (fun hHeld => ?_)
   clear hK K
   refine norm_ (a' := ?_) ?_ ?_
   rotate_left
   ·show Act.put _ (some 60) _ = _
    simp only [pA, pS, pZ, pK, i64_w, i32_w]
    rfl
   refine one_ (i := 3) (N := some 61) (bs 15 5) rfl rfl (by kernel_rfl) (by decide) (fun K hK => ?_)
   refine goes_ Try.func39 (by kernel_rfl) rfl #[.agg #[.int .i64 t375, .int .i64 t376, .int .i64 t377, .int .i64 t378, .int .i64 t379, .int .i64 t380, .int .i64 t381, .slice Ao66 t382.length co66, .slice Ao67 t385.length co67], .agg #[.int .i64 t401, .int .i64 t402, .int .i64 t403, .int .i64 t404, .int .i64 t405, .int .i64 t406, .int .i64 t407, .slice Ao125 t408.length co125, .slice Ao126 t411.length co126]] (by rfl) rfl rfl (by (try simp only [List.map_toArray, List.map_cons, List.map_nil]); first | done | rfl | (simp only [List.length_drop, List.length_take]; rfl)) ?_
   with_reducible refine (laws_eqTransaction.calls kj25 t375 t376 t377 t378 t379 t380 t381 _ _ t382 _ _ t385 t401 t402 t403 t404 t405 t406 t407 _ _ t408 _ _ t411 false _ ?side1 ?side2 ?side3 ?side4 ?side5 ?side6 ?side7 ?side8 A108.out).mono ?_
   (case side1 => exact Kd.C_below (Kd.R_reads' HO_389007.out).2.2 (BL (Below.refl _ _) rfl rfl rfl rfl))
   (case side2 => exact (Kd.R_reads' HO_389007.out).2.1)
   (case side3 => exact Kd.C_below (Kd.R_reads' HO_389008.out).2.2 (BL (Below.refl _ _) rfl rfl rfl rfl))
   (case side4 => exact (Kd.R_reads' HO_389008.out).2.1)
   (case side5 => exact Kd.C_below (Kd.R_reads' HO410.out).2.2 (BL (Below.refl _ _) rfl rfl rfl rfl))
   (case side6 => exact (Kd.R_reads' HO410.out).2.1)
   (case side7 => exact Kd.C_below (Kd.R_reads' HO413.out).2.2 (BL (Below.refl _ _) rfl rfl rfl rfl))
   (case side8 => exact (Kd.R_reads' HO413.out).2.1)
   rintro e w127 ⟨rfl, hb⟩
   refine ⟨_, rfl, ?_⟩
   have n0_ := AM_ (Kd.S_below (by exact SL HO_375000.out rfl) hb)
   have n1_ := AM_ (Kd.R_below (RT HO_389007.out) hb)
   have n2_ := AM_ (Kd.R_below (RT HO_389008.out) hb)
   have n3_ := AM_ (Kd.S_below (by exact SL HO399.out rfl) hb)
   have n4_ := AM_ (Kd.R_below (RT HO410.out) hb)
   have n5_ := AM_ (Kd.R_below (RT HO413.out) hb)
   have n6_ := AM_ (BB BK344.out hb)
   have n7_ := AM_ (BB BK345.out hb)
   have n8_ := AM_ (BB BK370.out hb)
   have n9_ := AM_ (BB BK374.out hb)
   have n10_ := AM_ (BB BK388.out hb)
   have n11_ := AM_ (BB BK395.out hb)
   have n12_ := AM_ (below_step (BT HB.out) hb)
   clear HO_375000
   clear HO_389007
   clear HO_389008
   clear HO399
   clear HO410
   clear HO413
   clear BK344
   clear BK345
   clear BK370
   clear BK374
   clear BK388
   clear BK395
   clear HB
   have HO_375000 := n0_
   have HO_389007 := n1_
   have HO_389008 := n2_
   have HO399 := n3_
   have HO410 := n4_
   have HO413 := n5_
   have BK344 := n6_
   have BK345 := n7_
   have BK370 := n8_
   have BK374 := n9_
   have BK388 := n10_
   have BK395 := n11_
   have HB := n12_
   clear n0_ n1_ n2_ n3_ n4_ n5_ n6_ n7_ n8_ n9_ n10_ n11_ n12_
   (try clear hb)
   (try clear hb2)
   (try clear hk)
   (try clear hi)
   refine hK.out _ _ ⟨bc BK388.out 0, bc BK388.out 1, bc BK388.out 2, bc BK388.out 3, bc BK388.out 4, bc BK388.out 5, bc BK388.out 6, bc BK388.out 7, bc BK388.out 8, bc BK345.out 0, bc BK345.out 1, bc BK345.out 2, bc BK345.out 3, bc BK345.out 4, bc BK345.out 5, bc BK345.out 6, bc BK345.out 7, bc BK345.out 8⟩ (fun hHeld => ?_)
   clear hK K
   refine norm_ (a' := ?_) ?_ ?_
   rotate_left
   ·show Act.put _ (some 61) _ = _
    simp only [pA, pS, pZ, pK, i64_w, i32_w]
    rfl
   refine pure_ (i := 4) (N := some 62) (v := ?_) (a' := ?_) (bs 31 5) rfl rfl (by kernel_rfl) (fun _ _ _ h => h) (Or.inl ⟨by rfl, ?_⟩) ?_ ?_
   rotate_left
   ·intro w'
    go_simp
    with_reducible rfl
   rotate_left
   ·simp only [pA, pS, pZ, pK, i64_w, i32_w]
    rfl
   refine done_ (by kernel_rfl) ?_
   try go_wp2
   go_ret
   exact QT (BT HB.out)

end Go.Proofs.Ytakpkmlbklahhaa.PFnExactChooseVersion
