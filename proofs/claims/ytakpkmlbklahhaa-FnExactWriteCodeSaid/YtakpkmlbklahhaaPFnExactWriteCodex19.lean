-- Printed by a program of mine (wip/myprint.py), which runs the printer of the kit with contracts of mine beside it.
import Derived.Test.YtakpkmlbklahhaaPFnExactWriteCodex0
import Derived.Test.YtakpkmlbklahhaaPFnExactWriteCodex13
import Derived.Test.YtakpkmlbklahhaaPFnExactWriteCodex16
import Derived.Test.YtakpkmlbklahhaaPFnExactWriteCodex17
import Derived.Test.YtakpkmlbklahhaaPFnExactWriteCodex18
namespace Go.Proofs.Ytakpkmlbklahhaa.PFnExactWriteCode
open Go.RowKit Go.Proofs.YtakpkmlbklahhaaW.PrintWords Go.Proofs.YtakpkmlbklahhaaW.PrintLast Go.Proofs.YtakpkmlbklahhaaW.PrintMore
attribute [local go_sem] max2_int min2_int max_two min_two max_three min_three max_four min_four   -- for this text's walks alone
set_option linter.unusedVariables false
set_option linter.unusedSimpArgs false

/-! ### spec_WriteCode: function 53 -/
mutual
def spec_WriteCode.j0 : Nat → List (S150) → Int → Bool → List (List (S76)) → Int → Int → Int → Int → Int → Int → Int → List (S165) → List (S133) → Option (Int)
 | 0, _, _, _, _, _, _, _, _, _, _, _, _, _ => none
 | k + 1, x1, x3, x21, x323000, x324000, x324001, x324002, x324003, x324004, x324005, x324006, x324007, x324008 => if x21 = true then (some 6) else ((spec_LockOwner.f k x1 x3).bind fun t326 => (if t326 = 0 then (spec_WriteCode.j1 k x3 false x323000 x324000 x324001 x324002 x324003 x324004 x324005 x324006 x324007 x324008) else (spec_WriteCode.j1 k x3 (t326 != x324000) x323000 x324000 x324001 x324002 x324003 x324004 x324005 x324006 x324007 x324008)))
def spec_WriteCode.j1 : Nat → Int → Bool → List (List (S76)) → Int → Int → Int → Int → Int → Int → Int → List (S165) → List (S133) → Option (Int)
 | 0, _, _, _, _, _, _, _, _, _, _, _, _ => none
 | k + 1, x3, x10, x323000, x324000, x324001, x324002, x324003, x324004, x324005, x324006, x324007, x324008 => if 0 ≤ x3 then (if x3 < (x323000.length : Int) then ((spec_LatestVersion.f k (rd_L6 x323000 x3)).bind fun bt328 => (if x324001 = 1 then (spec_WriteCode.j2 k x10 x10 x324000 x324001 x324002 x324003 x324004 x324005 x324006 x324007 x324008 bt328.1 bt328.2.1 bt328.2.2.1 bt328.2.2.2.1 bt328.2.2.2.2) else (spec_WriteCode.j2 k x10 false x324000 x324001 x324002 x324003 x324004 x324005 x324006 x324007 x324008 bt328.1 bt328.2.1 bt328.2.2.1 bt328.2.2.2.1 bt328.2.2.2.2))) else (none)) else (none)
def spec_WriteCode.j2 : Nat → Bool → Bool → Int → Int → Int → Int → Int → Int → Int → List (S165) → List (S133) → Int → Int → Int → Int → Int → Option (Int)
 | 0, _, _, _, _, _, _, _, _, _, _, _, _, _, _, _, _ => none
 | k + 1, x10, x39, x324000, x324001, x324002, x324003, x324004, x324005, x324006, x324007, x324008, x334000, x334001, x334002, x334003, x334004 => if x39 = true then (some 1) else (if x324001 = 2 then (if x10 = true then (spec_WriteCode.j3 k true x324000 x324001 x324002 x324003 x324004 x324005 x324006 x324007 x324008 x334000 x334001 x334002 x334003 x334004) else (spec_WriteCode.j3 k (decide (x334002 > x324003)) x324000 x324001 x324002 x324003 x324004 x324005 x324006 x324007 x324008 x334000 x334001 x334002 x334003 x334004)) else (spec_WriteCode.j3 k false x324000 x324001 x324002 x324003 x324004 x324005 x324006 x324007 x324008 x334000 x334001 x334002 x334003 x334004))
def spec_WriteCode.j3 : Nat → Bool → Int → Int → Int → Int → Int → Int → Int → List (S165) → List (S133) → Int → Int → Int → Int → Int → Option (Int)
 | 0, _, _, _, _, _, _, _, _, _, _, _, _, _, _, _ => none
 | k + 1, x46, x324000, x324001, x324002, x324003, x324004, x324005, x324006, x324007, x324008, x334000, x334001, x334002, x334003, x334004 => if x46 = true then (some 2) else (if x324001 = 4 then (if x334002 > x324003 then (some 3) else (if x334003 > x324003 then (some 3) else (some 0))) else (some 0))
end
def spec_WriteCode.f (k : Nat) (l0_0 : List (List (S76))) (l1 : List (S150)) (a2_0 : Int) (a2_1 : Int) (a2_2 : Int) (a2_3 : Int) (a2_4 : Int) (a2_5 : Int) (a2_6 : Int) (l2_7 : List (S165)) (l2_8 : List (S133)) (a3 : Int) : Option (Int) := (spec_l12Good.f k l0_0 a2_0 a2_1 a2_2 a2_3 a2_4 a2_5 a2_6 l2_7 l2_8 a3).bind fun t324 => (if t324 = true then ((spec_AreLocks.f k l1).bind fun t325 => (spec_WriteCode.j0 k l1 a3 (!t325) l0_0 a2_0 a2_1 a2_2 a2_3 a2_4 a2_5 a2_6 l2_7 l2_8)) else (spec_WriteCode.j0 k l1 a3 true l0_0 a2_0 a2_1 a2_2 a2_3 a2_4 a2_5 a2_6 l2_7 l2_8))
theorem spec_WriteCode.mono_l : ∀ k, (∀ y0 y1 y2 y3 y4 y5 y6 y7 y8 y9 y10 y11 y12, LeO (spec_WriteCode.j0 k y0 y1 y2 y3 y4 y5 y6 y7 y8 y9 y10 y11 y12) (spec_WriteCode.j0 (k + 1) y0 y1 y2 y3 y4 y5 y6 y7 y8 y9 y10 y11 y12)) ∧ (∀ y0 y1 y2 y3 y4 y5 y6 y7 y8 y9 y10 y11, LeO (spec_WriteCode.j1 k y0 y1 y2 y3 y4 y5 y6 y7 y8 y9 y10 y11) (spec_WriteCode.j1 (k + 1) y0 y1 y2 y3 y4 y5 y6 y7 y8 y9 y10 y11)) ∧ (∀ y0 y1 y2 y3 y4 y5 y6 y7 y8 y9 y10 y11 y12 y13 y14 y15, LeO (spec_WriteCode.j2 k y0 y1 y2 y3 y4 y5 y6 y7 y8 y9 y10 y11 y12 y13 y14 y15) (spec_WriteCode.j2 (k + 1) y0 y1 y2 y3 y4 y5 y6 y7 y8 y9 y10 y11 y12 y13 y14 y15)) ∧ (∀ y0 y1 y2 y3 y4 y5 y6 y7 y8 y9 y10 y11 y12 y13 y14, LeO (spec_WriteCode.j3 k y0 y1 y2 y3 y4 y5 y6 y7 y8 y9 y10 y11 y12 y13 y14) (spec_WriteCode.j3 (k + 1) y0 y1 y2 y3 y4 y5 y6 y7 y8 y9 y10 y11 y12 y13 y14))
 | 0 => ⟨fun _ _ _ _ _ _ _ _ _ _ _ _ _ r h => by simp [spec_WriteCode.j0] at h, fun _ _ _ _ _ _ _ _ _ _ _ _ r h => by simp [spec_WriteCode.j1] at h, fun _ _ _ _ _ _ _ _ _ _ _ _ _ _ _ _ r h => by simp [spec_WriteCode.j2] at h, fun _ _ _ _ _ _ _ _ _ _ _ _ _ _ _ r h => by simp [spec_WriteCode.j3] at h⟩
 | k + 1 => by
  obtain ⟨ih0, ih1, ih2, ih3⟩ := spec_WriteCode.mono_l k
  refine ⟨?_, ?_, ?_, ?_⟩
  ·intro y0 y1 y2 y3 y4 y5 y6 y7 y8 y9 y10 y11 y12
   unfold spec_WriteCode.j0
   repeat' first
   | (with_reducible exact ih0 _ _ _ _ _ _ _ _ _ _ _ _ _)
   | (with_reducible exact ih1 _ _ _ _ _ _ _ _ _ _ _ _)
   | (with_reducible exact ih2 _ _ _ _ _ _ _ _ _ _ _ _ _ _ _ _)
   | (with_reducible exact ih3 _ _ _ _ _ _ _ _ _ _ _ _ _ _ _)
   | (with_reducible exact spec_AreLocks.mono _ _)
   | (with_reducible exact spec_LatestVersion.mono _ _)
   | (with_reducible exact spec_LockOwner.mono _ _ _)
   | (with_reducible exact spec_l12Good.mono _ _ _ _ _ _ _ _ _ _ _ _)
   | (with_reducible exact LeO.refl _)
   | (with_reducible exact LeO.none _)
   | (with_reducible refine LeO.ite ?_ ?_)
   | (with_reducible refine LeO.bind ?_ (fun _ => ?_))
   | exact ih0 _ _ _ _ _ _ _ _ _ _ _ _ _
   | exact ih1 _ _ _ _ _ _ _ _ _ _ _ _
   | exact ih2 _ _ _ _ _ _ _ _ _ _ _ _ _ _ _ _
   | exact ih3 _ _ _ _ _ _ _ _ _ _ _ _ _ _ _
   | exact spec_AreLocks.mono _ _
   | exact spec_LatestVersion.mono _ _
   | exact spec_LockOwner.mono _ _ _
   | exact spec_l12Good.mono _ _ _ _ _ _ _ _ _ _ _ _
   | exact LeO.none _
   | refine LeO.ite ?_ ?_
   | refine LeO.bind ?_ (fun _ => ?_)
  ·intro y0 y1 y2 y3 y4 y5 y6 y7 y8 y9 y10 y11
   unfold spec_WriteCode.j1
   repeat' first
   | (with_reducible exact ih0 _ _ _ _ _ _ _ _ _ _ _ _ _)
   | (with_reducible exact ih1 _ _ _ _ _ _ _ _ _ _ _ _)
   | (with_reducible exact ih2 _ _ _ _ _ _ _ _ _ _ _ _ _ _ _ _)
   | (with_reducible exact ih3 _ _ _ _ _ _ _ _ _ _ _ _ _ _ _)
   | (with_reducible exact spec_AreLocks.mono _ _)
   | (with_reducible exact spec_LatestVersion.mono _ _)
   | (with_reducible exact spec_LockOwner.mono _ _ _)
   | (with_reducible exact spec_l12Good.mono _ _ _ _ _ _ _ _ _ _ _ _)
   | (with_reducible exact LeO.refl _)
   | (with_reducible exact LeO.none _)
   | (with_reducible refine LeO.ite ?_ ?_)
   | (with_reducible refine LeO.bind ?_ (fun _ => ?_))
   | exact ih0 _ _ _ _ _ _ _ _ _ _ _ _ _
   | exact ih1 _ _ _ _ _ _ _ _ _ _ _ _
   | exact ih2 _ _ _ _ _ _ _ _ _ _ _ _ _ _ _ _
   | exact ih3 _ _ _ _ _ _ _ _ _ _ _ _ _ _ _
   | exact spec_AreLocks.mono _ _
   | exact spec_LatestVersion.mono _ _
   | exact spec_LockOwner.mono _ _ _
   | exact spec_l12Good.mono _ _ _ _ _ _ _ _ _ _ _ _
   | exact LeO.none _
   | refine LeO.ite ?_ ?_
   | refine LeO.bind ?_ (fun _ => ?_)
  ·intro y0 y1 y2 y3 y4 y5 y6 y7 y8 y9 y10 y11 y12 y13 y14 y15
   unfold spec_WriteCode.j2
   repeat' first
   | (with_reducible exact ih0 _ _ _ _ _ _ _ _ _ _ _ _ _)
   | (with_reducible exact ih1 _ _ _ _ _ _ _ _ _ _ _ _)
   | (with_reducible exact ih2 _ _ _ _ _ _ _ _ _ _ _ _ _ _ _ _)
   | (with_reducible exact ih3 _ _ _ _ _ _ _ _ _ _ _ _ _ _ _)
   | (with_reducible exact spec_AreLocks.mono _ _)
   | (with_reducible exact spec_LatestVersion.mono _ _)
   | (with_reducible exact spec_LockOwner.mono _ _ _)
   | (with_reducible exact spec_l12Good.mono _ _ _ _ _ _ _ _ _ _ _ _)
   | (with_reducible exact LeO.refl _)
   | (with_reducible exact LeO.none _)
   | (with_reducible refine LeO.ite ?_ ?_)
   | (with_reducible refine LeO.bind ?_ (fun _ => ?_))
   | exact ih0 _ _ _ _ _ _ _ _ _ _ _ _ _
   | exact ih1 _ _ _ _ _ _ _ _ _ _ _ _
   | exact ih2 _ _ _ _ _ _ _ _ _ _ _ _ _ _ _ _
   | exact ih3 _ _ _ _ _ _ _ _ _ _ _ _ _ _ _
   | exact spec_AreLocks.mono _ _
   | exact spec_LatestVersion.mono _ _
   | exact spec_LockOwner.mono _ _ _
   | exact spec_l12Good.mono _ _ _ _ _ _ _ _ _ _ _ _
   | exact LeO.none _
   | refine LeO.ite ?_ ?_
   | refine LeO.bind ?_ (fun _ => ?_)
  ·intro y0 y1 y2 y3 y4 y5 y6 y7 y8 y9 y10 y11 y12 y13 y14
   unfold spec_WriteCode.j3
   repeat' first
   | (with_reducible exact ih0 _ _ _ _ _ _ _ _ _ _ _ _ _)
   | (with_reducible exact ih1 _ _ _ _ _ _ _ _ _ _ _ _)
   | (with_reducible exact ih2 _ _ _ _ _ _ _ _ _ _ _ _ _ _ _ _)
   | (with_reducible exact ih3 _ _ _ _ _ _ _ _ _ _ _ _ _ _ _)
   | (with_reducible exact spec_AreLocks.mono _ _)
   | (with_reducible exact spec_LatestVersion.mono _ _)
   | (with_reducible exact spec_LockOwner.mono _ _ _)
   | (with_reducible exact spec_l12Good.mono _ _ _ _ _ _ _ _ _ _ _ _)
   | (with_reducible exact LeO.refl _)
   | (with_reducible exact LeO.none _)
   | (with_reducible refine LeO.ite ?_ ?_)
   | (with_reducible refine LeO.bind ?_ (fun _ => ?_))
   | exact ih0 _ _ _ _ _ _ _ _ _ _ _ _ _
   | exact ih1 _ _ _ _ _ _ _ _ _ _ _ _
   | exact ih2 _ _ _ _ _ _ _ _ _ _ _ _ _ _ _ _
   | exact ih3 _ _ _ _ _ _ _ _ _ _ _ _ _ _ _
   | exact spec_AreLocks.mono _ _
   | exact spec_LatestVersion.mono _ _
   | exact spec_LockOwner.mono _ _ _
   | exact spec_l12Good.mono _ _ _ _ _ _ _ _ _ _ _ _
   | exact LeO.none _
   | refine LeO.ite ?_ ?_
   | refine LeO.bind ?_ (fun _ => ?_)
theorem spec_WriteCode.mono : ∀ a0 a1 a2 a3 a4 a5 a6 a7 a8 a9 a10 a11 k, LeO (spec_WriteCode.f k a0 a1 a2 a3 a4 a5 a6 a7 a8 a9 a10 a11) (spec_WriteCode.f (k + 1) a0 a1 a2 a3 a4 a5 a6 a7 a8 a9 a10 a11) := by
 intro a0 a1 a2 a3 a4 a5 a6 a7 a8 a9 a10 a11 k
 obtain ⟨ih0, ih1, ih2, ih3⟩ := spec_WriteCode.mono_l k
 unfold spec_WriteCode.f
 repeat' first
   | (with_reducible exact ih0 _ _ _ _ _ _ _ _ _ _ _ _ _)
   | (with_reducible exact ih1 _ _ _ _ _ _ _ _ _ _ _ _)
   | (with_reducible exact ih2 _ _ _ _ _ _ _ _ _ _ _ _ _ _ _ _)
   | (with_reducible exact ih3 _ _ _ _ _ _ _ _ _ _ _ _ _ _ _)
   | (with_reducible exact spec_AreLocks.mono _ _)
   | (with_reducible exact spec_LatestVersion.mono _ _)
   | (with_reducible exact spec_LockOwner.mono _ _ _)
   | (with_reducible exact spec_l12Good.mono _ _ _ _ _ _ _ _ _ _ _ _)
   | (with_reducible exact LeO.refl _)
   | (with_reducible exact LeO.none _)
   | (with_reducible refine LeO.ite ?_ ?_)
   | (with_reducible refine LeO.bind ?_ (fun _ => ?_))
   | exact ih0 _ _ _ _ _ _ _ _ _ _ _ _ _
   | exact ih1 _ _ _ _ _ _ _ _ _ _ _ _
   | exact ih2 _ _ _ _ _ _ _ _ _ _ _ _ _ _ _ _
   | exact ih3 _ _ _ _ _ _ _ _ _ _ _ _ _ _ _
   | exact spec_AreLocks.mono _ _
   | exact spec_LatestVersion.mono _ _
   | exact spec_LockOwner.mono _ _ _
   | exact spec_l12Good.mono _ _ _ _ _ _ _ _ _ _ _ _
   | exact LeO.none _
   | refine LeO.ite ?_ ?_
   | refine LeO.bind ?_ (fun _ => ?_)
set_option maxHeartbeats 8000000 in
set_option maxRecDepth 100000 in
theorem spec_WriteCode.calls (k : Nat) (A0_0 : Option Addr) (c0_0 : Nat) (l0_0 : List (List (S76))) (A1 : Option Addr) (c1 : Nat) (l1 : List (S150)) (a2_0 : Int) (a2_1 : Int) (a2_2 : Int) (a2_3 : Int) (a2_4 : Int) (a2_5 : Int) (a2_6 : Int) (A2_7 : Option Addr) (c2_7 : Nat) (l2_7 : List (S165)) (A2_8 : Option Addr) (c2_8 : Nat) (l2_8 : List (S133)) (a3 : Int) (r : Int) (w : World) (hr0_0 : Kd.C (Kd.slice 76 k76) w A0_0 l0_0.length l0_0) (hc0_0 : l0_0.length ≤ c0_0) (hr1 : Kd.C k150 w A1 l1.length l1) (hc1 : l1.length ≤ c1) (hr2_7 : Kd.C k165 w A2_7 l2_7.length l2_7) (hc2_7 : l2_7.length ≤ c2_7) (hr2_8 : Kd.C k133 w A2_8 l2_8.length l2_8) (hc2_8 : l2_8.length ≤ c2_8) (h : spec_WriteCode.f k l0_0 l1 a2_0 a2_1 a2_2 a2_3 a2_4 a2_5 a2_6 l2_7 l2_8 a3 = some r) :
  Calls Try.prog 53 #[.agg #[.slice A0_0 l0_0.length c0_0], .slice A1 l1.length c1, .agg #[.int .i64 a2_0, .int .i64 a2_1, .int .i64 a2_2, .int .i64 a2_3, .int .i64 a2_4, .int .i64 a2_5, .int .i64 a2_6, .slice A2_7 l2_7.length c2_7, .slice A2_8 l2_8.length c2_8], .int .i64 a3] w fun e w' => e = .returned (.int .i64 r) ∧ Below w.heap.size w w' := by
 have hu49 := Try.underlying49
 have hu68 := Try.underlying68
 have hu76 := Try.underlying76
 have HR0_0 := AM_ hr0_0
 have HC0_0 := AM_ hc0_0
 clear hr0_0 hc0_0
 have HR1 := AM_ hr1
 have HC1 := AM_ hc1
 clear hr1 hc1
 have HR2_7 := AM_ hr2_7
 have HC2_7 := AM_ hc2_7
 clear hr2_7 hc2_7
 have HR2_8 := AM_ hr2_8
 have HC2_8 := AM_ hc2_8
 clear hr2_8 hc2_8
 have HB := AM_ (Below.refl w.heap.size w)
 have H : ((spec_l12Good.f k l0_0 a2_0 a2_1 a2_2 a2_3 a2_4 a2_5 a2_6 l2_7 l2_8 a3).bind fun t324 => (if t324 = true then ((spec_AreLocks.f k l1).bind fun t325 => (spec_WriteCode.j0 k l1 a3 (!t325) l0_0 a2_0 a2_1 a2_2 a2_3 a2_4 a2_5 a2_6 l2_7 l2_8)) else (spec_WriteCode.j0 k l1 a3 true l0_0 a2_0 a2_1 a2_2 a2_3 a2_4 a2_5 a2_6 l2_7 l2_8))) = some r := h
 clear h
 have HC5 := AM_ H
 clear H
 go_enter Try.func53, Try.ntmps53
 go_upto_region 1 with (first | ((with_reducible refine gate_dst (N := 4) rfl ?_); refine box_event ?hg (N := 4) ?hd (cs := #[.slice A0_0 l0_0.length c0_0]) (t := 49) ?hr ?_; (case hd => rfl); (case hg => rfl); (case hr => first | (go_simp; done) | (go_simp; rfl)); intro gb322 hg w6 hbox hb; have BK322 := AM_ (hbox); have GW322 := AM_ ((GS HB.out hg)); have GE322 := AM_ ((GS HB.out hg)); replace HB := AM_ (below_step (BT HB.out) hb); clear hb hbox hg) | ((with_reducible refine gate_dst (N := 6) rfl ?_); refine box_event ?hg (N := 6) ?hd (cs := #[.int .i64 a2_0, .int .i64 a2_1, .int .i64 a2_2, .int .i64 a2_3, .int .i64 a2_4, .int .i64 a2_5, .int .i64 a2_6, .slice A2_7 l2_7.length c2_7, .slice A2_8 l2_8.length c2_8]) (t := 68) ?hr ?_; (case hd => rfl); (case hg => rfl); (case hr => first | (go_simp; done) | (go_simp; rfl)); intro gb323 hg w7 hbox hb; have BK323 := AM_ (hbox); have GW323 := AM_ ((GS HB.out hg)); have GE323 := AM_ ((GS HB.out hg)); replace HB := AM_ (below_step (BT HB.out) hb); have NB322_323 := AM_ ((NL BK322.out hg)); have NB323_322 := AM_ ((NG BK322.out hg)); replace BK322 := AM_ (BB BK322.out hb); clear hb hbox hg))
 (try simp only [pA, pS, pZ, pK])
 go_cut [21] (fun v21 wc => ∃ (kq : Nat) (x21_4 : Bool), v21 = .bool x21_4 ∧ Aside0 (spec_WriteCode.j0 kq l1 a3 x21_4 l0_0 a2_0 a2_1 a2_2 a2_3 a2_4 a2_5 a2_6 l2_7 l2_8 = some r) ∧ Aside0 (kq ≤ k) ∧ Aside0 (wc.heap[gb322]? = some (.cells #[(.slice A0_0 l0_0.length c0_0)] 49 (0, 0))) ∧ Aside0 (wc.heap[gb323]? = some (.cells #[.int .i64 a2_0, .int .i64 a2_1, .int .i64 a2_2, .int .i64 a2_3, .int .i64 a2_4, .int .i64 a2_5, .int .i64 a2_6, (.slice A2_7 l2_7.length c2_7), (.slice A2_8 l2_8.length c2_8)] 68 (0, 0))) ∧ Aside0 (Below w.heap.size w wc))
 case first =>
  have H := HC5.out
  clear HC5
  replace H := Option.bind_eq_some_iff.mp H
  obtain ⟨t324, A80, H⟩ := H
  replace H : (if t324 = true then ((spec_AreLocks.f k l1).bind fun t325 => (spec_WriteCode.j0 k l1 a3 (!t325) l0_0 a2_0 a2_1 a2_2 a2_3 a2_4 a2_5 a2_6 l2_7 l2_8)) else (spec_WriteCode.j0 k l1 a3 true l0_0 a2_0 a2_1 a2_2 a2_3 a2_4 a2_5 a2_6 l2_7 l2_8)) = some r := H
  have A8 := AM_ A80
  clear A80
  by_cases c9 : t324 = true
  rotate_left
  ·replace c9 := Bool.eq_false_iff.mpr c9
   subst c9
   have H1 : (spec_WriteCode.j0 k l1 a3 true l0_0 a2_0 a2_1 a2_2 a2_3 a2_4 a2_5 a2_6 l2_7 l2_8) = some r := by rw [if_neg (show ¬ (false = true) by decide)] at H; exact H
   clear H
   have H := H1
   clear H1
   have H' := AM_ H
   clear H
   have hnb16 := NB322_323.out
   have hnc16 := NB323_322.out
   obtain ⟨hcz17_0, hfz17_0⟩ := bk1 BK322.out
   obtain ⟨hcz18_0, hcz18_1, hcz18_2, hcz18_3, hcz18_4, hcz18_5, hcz18_6, hcz18_7, hcz18_8, hfz18_0, hfz18_1, hfz18_2, hfz18_3, hfz18_4, hfz18_5, hfz18_6, hfz18_7, hfz18_8⟩ := bk9 BK323.out
   go_wp2_with (first | ((with_reducible refine gate_callee (f := 100) rfl ?_); refine goesL_ (some 15) rfl rfl Try.func100 (by kernel_rfl) rfl #[.agg #[.slice A0_0 l0_0.length c0_0], .agg #[.int .i64 a2_0, .int .i64 a2_1, .int .i64 a2_2, .int .i64 a2_3, .int .i64 a2_4, .int .i64 a2_5, .int .i64 a2_6, .slice A2_7 l2_7.length c2_7, .slice A2_8 l2_8.length c2_8], .int .i64 a3] rfl (by (try simp only [List.map_toArray, List.map_cons, List.map_nil]); first | done | rfl | (simp only [List.length_drop, List.length_take]; rfl)) ?_; (with_reducible refine (spec_l12Good.calls k _ _ l0_0 a2_0 a2_1 a2_2 a2_3 a2_4 a2_5 a2_6 _ _ l2_7 _ _ l2_8 a3 false _ ?side1 ?side2 ?side3 ?side4 ?side5 ?side6 A8.out).mono ?_); (case side1 => exact CB HR0_0.out HB.out); (case side2 => exact HC0_0.out); (case side3 => exact CB HR2_7.out HB.out); (case side4 => exact HC2_7.out); (case side5 => exact CB HR2_8.out HB.out); (case side6 => exact HC2_8.out); rintro e w19 ⟨rfl, hb⟩; refine ⟨_, rfl, ?_⟩; replace BK322 := AM_ (BB BK322.out hb); replace BK323 := AM_ (BB BK323.out hb); replace HB := AM_ (below_step (BT HB.out) hb); (try clear hb); (try clear hb2); (try clear hk); (try clear hi)))
   go_meet
   case rel => exact ⟨_, (true), (by first | rfl | (simp; done) | (simp [*]; done)), H', ⟨by first | omega | exact Nat.le_refl _⟩, ⟨BH BK322.out⟩, ⟨BH BK323.out⟩, ⟨BT HB.out⟩⟩
  subst c9
  have H1 : ((spec_AreLocks.f k l1).bind fun t325 => (spec_WriteCode.j0 k l1 a3 (!t325) l0_0 a2_0 a2_1 a2_2 a2_3 a2_4 a2_5 a2_6 l2_7 l2_8)) = some r := by rw [if_pos rfl] at H; exact H
  clear H
  have H := H1
  clear H1
  replace H := Option.bind_eq_some_iff.mp H
  obtain ⟨t325, A100, H⟩ := H
  replace H : (spec_WriteCode.j0 k l1 a3 (!t325) l0_0 a2_0 a2_1 a2_2 a2_3 a2_4 a2_5 a2_6 l2_7 l2_8) = some r := H
  have A10 := AM_ A100
  clear A100
  have H' := AM_ H
  clear H
  have hnb11 := NB322_323.out
  have hnc11 := NB323_322.out
  obtain ⟨hcz12_0, hfz12_0⟩ := bk1 BK322.out
  obtain ⟨hcz13_0, hcz13_1, hcz13_2, hcz13_3, hcz13_4, hcz13_5, hcz13_6, hcz13_7, hcz13_8, hfz13_0, hfz13_1, hfz13_2, hfz13_3, hfz13_4, hfz13_5, hfz13_6, hfz13_7, hfz13_8⟩ := bk9 BK323.out
  go_wp2_with (first | ((with_reducible refine gate_callee (f := 100) rfl ?_); refine goesL_ (some 15) rfl rfl Try.func100 (by kernel_rfl) rfl #[.agg #[.slice A0_0 l0_0.length c0_0], .agg #[.int .i64 a2_0, .int .i64 a2_1, .int .i64 a2_2, .int .i64 a2_3, .int .i64 a2_4, .int .i64 a2_5, .int .i64 a2_6, .slice A2_7 l2_7.length c2_7, .slice A2_8 l2_8.length c2_8], .int .i64 a3] rfl (by (try simp only [List.map_toArray, List.map_cons, List.map_nil]); first | done | rfl | (simp only [List.length_drop, List.length_take]; rfl)) ?_; (with_reducible refine (spec_l12Good.calls k _ _ l0_0 a2_0 a2_1 a2_2 a2_3 a2_4 a2_5 a2_6 _ _ l2_7 _ _ l2_8 a3 true _ ?side1 ?side2 ?side3 ?side4 ?side5 ?side6 A8.out).mono ?_); (case side1 => exact CB HR0_0.out HB.out); (case side2 => exact HC0_0.out); (case side3 => exact CB HR2_7.out HB.out); (case side4 => exact HC2_7.out); (case side5 => exact CB HR2_8.out HB.out); (case side6 => exact HC2_8.out); rintro e w14 ⟨rfl, hb⟩; refine ⟨_, rfl, ?_⟩; replace BK322 := AM_ (BB BK322.out hb); replace BK323 := AM_ (BB BK323.out hb); replace HB := AM_ (below_step (BT HB.out) hb); (try clear hb); (try clear hb2); (try clear hk); (try clear hi)) | (go_at_call 134; (with_reducible refine (spec_AreLocks.calls k _ _ l1 t325 _ ?side1 ?side2 A10.out).mono ?_); (case side1 => exact CB HR1.out HB.out); (case side2 => exact HC1.out); rintro e w15 ⟨rfl, hb⟩; replace BK322 := AM_ (BB BK322.out hb); replace BK323 := AM_ (BB BK323.out hb); replace HB := AM_ (below_step (BT HB.out) hb); (try clear hb); (try clear hb2); (try clear hk); (try clear hi)))
  go_meet
  case rel => exact ⟨_, (!t325), (by first | rfl | (simp; done) | (simp [*]; done)), H', ⟨by first | omega | exact Nat.le_refl _⟩, ⟨BH BK322.out⟩, ⟨BH BK323.out⟩, ⟨BT HB.out⟩⟩
 case rest =>
  clear HC5
  try clear c1
  try clear c2
  try clear p2
  try clear c5
  try clear c9
  try clear c10
  try clear c11
  try clear c16
  try clear hcz12_0
  try clear hcz13_0
  try clear hcz13_1
  try clear hcz13_2
  try clear hcz13_3
  try clear hcz13_4
  try clear hcz13_5
  try clear hcz13_6
  try clear hcz13_7
  try clear hcz13_8
  try clear hcz17_0
  try clear hcz18_0
  try clear hcz18_1
  try clear hcz18_2
  try clear hcz18_3
  try clear hcz18_4
  try clear hcz18_5
  try clear hcz18_6
  try clear hcz18_7
  try clear hcz18_8
  try clear hfz12_0
  try clear hfz13_0
  try clear hfz13_1
  try clear hfz13_2
  try clear hfz13_3
  try clear hfz13_4
  try clear hfz13_5
  try clear hfz13_6
  try clear hfz13_7
  try clear hfz13_8
  try clear hfz17_0
  try clear hfz18_0
  try clear hfz18_1
  try clear hfz18_2
  try clear hfz18_3
  try clear hfz18_4
  try clear hfz18_5
  try clear hfz18_6
  try clear hfz18_7
  try clear hfz18_8
  obtain ⟨kq, x21_4, rfl, HA, HJ4, BK322, BK323, HB⟩ := hcut
  cases kq with
  | zero => exact absurd HA.out (by simp [spec_WriteCode.j0])
  | succ kj4 =>
   have H := HA.out
   clear HA
   simp only [spec_WriteCode.j0] at H
   by_cases c20 : x21_4 = true
   ·subst c20
    have H1 : (some 6) = some r := by rw [if_pos rfl] at H; exact H
    clear H
    have H := H1
    clear H1
    obtain rfl := Option.some.inj H
    go_wp2
    go_ret
    exact QT (BT HB.out)
   replace c20 := Bool.eq_false_iff.mpr c20
   subst c20
   have H1 : ((spec_LockOwner.f kj4 l1 a3).bind fun t326 => (if t326 = 0 then (spec_WriteCode.j1 kj4 a3 false l0_0 a2_0 a2_1 a2_2 a2_3 a2_4 a2_5 a2_6 l2_7 l2_8) else (spec_WriteCode.j1 kj4 a3 (t326 != a2_0) l0_0 a2_0 a2_1 a2_2 a2_3 a2_4 a2_5 a2_6 l2_7 l2_8))) = some r := by rw [if_neg (show ¬ (false = true) by decide)] at H; exact H
   clear H
   have H := H1
   clear H1
   replace H := Option.bind_eq_some_iff.mp H
   obtain ⟨t326, A210, H⟩ := H
   replace H : (if t326 = 0 then (spec_WriteCode.j1 kj4 a3 false l0_0 a2_0 a2_1 a2_2 a2_3 a2_4 a2_5 a2_6 l2_7 l2_8) else (spec_WriteCode.j1 kj4 a3 (t326 != a2_0) l0_0 a2_0 a2_1 a2_2 a2_3 a2_4 a2_5 a2_6 l2_7 l2_8)) = some r := H
   have A21 := AM_ A210
   clear A210
   have HC22 := AM_ H
   clear H
   go_upto_region 4 with (first | ((with_reducible refine gate_callee (f := 135) rfl ?_); refine goesL_ (some 24) rfl rfl Try.func135 (by kernel_rfl) rfl #[.slice A1 l1.length c1, .int .i64 a3] rfl (by (try simp only [List.map_toArray, List.map_cons, List.map_nil]); first | done | rfl | (simp only [List.length_drop, List.length_take]; rfl)) ?_; (with_reducible refine (spec_LockOwner.calls kj4 _ _ l1 a3 t326 _ ?side1 ?side2 A21.out).mono ?_); (case side1 => exact CB HR1.out HB.out); (case side2 => exact HC1.out); rintro e w' ⟨rfl, ⟨nd, rfl⟩⟩; refine ⟨_, rfl, ?_⟩))
   (try simp only [pA, pS, pZ, pK])
   go_cut [10] (fun v10 wc => ∃ (kq : Nat) (x10_21 : Bool), v10 = .bool x10_21 ∧ Aside0 (spec_WriteCode.j1 kq a3 x10_21 l0_0 a2_0 a2_1 a2_2 a2_3 a2_4 a2_5 a2_6 l2_7 l2_8 = some r) ∧ Aside0 (kq ≤ kj4) ∧ Aside0 (wc.heap[gb322]? = some (.cells #[(.slice A0_0 l0_0.length c0_0)] 49 (0, 0))) ∧ Aside0 (wc.heap[gb323]? = some (.cells #[.int .i64 a2_0, .int .i64 a2_1, .int .i64 a2_2, .int .i64 a2_3, .int .i64 a2_4, .int .i64 a2_5, .int .i64 a2_6, (.slice A2_7 l2_7.length c2_7), (.slice A2_8 l2_8.length c2_8)] 68 (0, 0))) ∧ Aside0 (Below w.heap.size w wc))
   case first =>
    have H := HC22.out
    clear HC22
    by_cases c23 : t326 = 0
    ·rw [if_pos c23] at H
     have c23b0 : (t326 == 0) = true := beq_iff_eq.mpr c23
     have c23b1 : (t326 != 0) = false := bne_eq_false_iff_eq.mpr c23
     clear c23
     (first | rw [c23b0] | (simp only [i64_w, i32_w]; rw [c23b0]) | skip)
     have H' := AM_ H
     clear H
     go_wp2
     go_meet
     case rel => exact ⟨_, (false), (by first | rfl | (simp; done) | (simp [*]; done)), H', ⟨by have := HJ4.out; first | omega | exact Nat.le_refl _⟩, ⟨BH BK322.out⟩, ⟨BH BK323.out⟩, ⟨BT HB.out⟩⟩
    rw [if_neg c23] at H
    have c23b0 : (t326 == 0) = false := beq_eq_false_iff_ne.mpr c23
    have c23b1 : (t326 != 0) = true := bne_iff_ne.mpr c23
    (first | rw [c23b0] | (simp only [i64_w, i32_w]; rw [c23b0]) | skip)
    have H' := AM_ H
    clear H
    have hnb24 := NB323_322.out
    have hnc24 := NB322_323.out
    obtain ⟨hcz25_0, hcz25_1, hcz25_2, hcz25_3, hcz25_4, hcz25_5, hcz25_6, hcz25_7, hcz25_8, hfz25_0, hfz25_1, hfz25_2, hfz25_3, hfz25_4, hfz25_5, hfz25_6, hfz25_7, hfz25_8⟩ := bk9 BK323.out
    go_wp2
    go_meet
    case rel => exact ⟨_, ((t326 != a2_0)), (by first | rfl | (simp; done) | (simp [*]; done)), H', ⟨by have := HJ4.out; first | omega | exact Nat.le_refl _⟩, ⟨BH BK322.out⟩, ⟨BH BK323.out⟩, ⟨BT HB.out⟩⟩
   case rest =>
    clear HC22
    try clear c1
    try clear c2
    try clear p2
    try clear c5
    try clear c9
    try clear c10
    try clear c11
    try clear c13
    try clear c16
    try clear c20
    try clear c23
    try clear c23b0
    try clear c23b1
    try clear c24
    try clear hcz12_0
    try clear hcz13_0
    try clear hcz13_1
    try clear hcz13_2
    try clear hcz13_3
    try clear hcz13_4
    try clear hcz13_5
    try clear hcz13_6
    try clear hcz13_7
    try clear hcz13_8
    try clear hcz17_0
    try clear hcz18_0
    try clear hcz18_1
    try clear hcz18_2
    try clear hcz18_3
    try clear hcz18_4
    try clear hcz18_5
    try clear hcz18_6
    try clear hcz18_7
    try clear hcz18_8
    try clear hcz25_0
    try clear hcz25_1
    try clear hcz25_2
    try clear hcz25_3
    try clear hcz25_4
    try clear hcz25_5
    try clear hcz25_6
    try clear hcz25_7
    try clear hcz25_8
    try clear hfz12_0
    try clear hfz13_0
    try clear hfz13_1
    try clear hfz13_2
    try clear hfz13_3
    try clear hfz13_4
    try clear hfz13_5
    try clear hfz13_6
    try clear hfz13_7
    try clear hfz13_8
    try clear hfz17_0
    try clear hfz18_0
    try clear hfz18_1
    try clear hfz18_2
    try clear hfz18_3
    try clear hfz18_4
    try clear hfz18_5
    try clear hfz18_6
    try clear hfz18_7
    try clear hfz18_8
    try clear hfz25_0
    try clear hfz25_1
    try clear hfz25_2
    try clear hfz25_3
    try clear hfz25_4
    try clear hfz25_5
    try clear hfz25_6
    try clear hfz25_7
    try clear hfz25_8
    try clear p2
    obtain ⟨kq, x10_21, rfl, HA, HJ21, BK322, BK323, HB⟩ := hcut
    cases kq with
    | zero => exact absurd HA.out (by simp [spec_WriteCode.j1])
    | succ kj21 =>
     have H := HA.out
     clear HA
     simp only [spec_WriteCode.j1] at H
     by_cases c26 : 0 ≤ a3
     rotate_left
     ·rw [if_neg c26] at H
      exact absurd H (by simp)
     rw [if_pos c26] at H
     have c26b0 : decide (0 ≤ a3) = true := decide_eq_true c26
     clear c26
     by_cases c27 : a3 < (l0_0.length : Int)
     rotate_left
     ·rw [if_neg c27] at H
      exact absurd H (by simp)
     rw [if_pos c27] at H
     have c27b0 : decide (a3 < (l0_0.length : Int)) = true := decide_eq_true c27
     clear c27
     replace H := Option.bind_eq_some_iff.mp H
     obtain ⟨⟨t328, t329, t330, t331, t332⟩, A280, H⟩ := H
     replace H : (if a2_1 = 1 then (spec_WriteCode.j2 kj21 x10_21 x10_21 a2_0 a2_1 a2_2 a2_3 a2_4 a2_5 a2_6 l2_7 l2_8 t328 t329 t330 t331 t332) else (spec_WriteCode.j2 kj21 x10_21 false a2_0 a2_1 a2_2 a2_3 a2_4 a2_5 a2_6 l2_7 l2_8 t328 t329 t330 t331 t332)) = some r := H
     have A28 := AM_ A280
     clear A280
     have HC29 := AM_ H
     clear H
     have hnb30 := NB322_323.out
     have hnc30 := NB323_322.out
     obtain ⟨hcz31_0, hfz31_0⟩ := bk1 BK322.out
     have p327 : 0 ≤ (a3 : Int) := DT
     have q327 : a3 < (l0_0.length : Int) := DT
     obtain ⟨ad327, A327_0, c327_0, e327, hx327_0, hl327_0, hi327_0⟩ := at_L6 HR0_0.out a3 p327 q327
     cases e327
     replace hx327_0 := BC HB.out hx327_0
     have HR327_0 := AM_ hi327_0
     have HC327_0 := AM_ hl327_0
     clear hi327_0 hl327_0
     replace p327 := eq_true p327
     replace q327 := eq_true q327
     go_upto_region 6 with (first | ((with_reducible refine gate_callee (f := 55) rfl ?_); refine goesL_ (some 38) rfl rfl Try.func55 (by kernel_rfl) rfl #[.slice A327_0 (rd_L6 l0_0 a3).length c327_0] rfl (by (try simp only [List.map_toArray, List.map_cons, List.map_nil]); first | done | rfl | (simp only [List.length_drop, List.length_take]; rfl)) ?_; (with_reducible refine (spec_LatestVersion.calls kj21 _ _ (rd_L6 l0_0 a3) t328 t329 t330 t331 t332 _ ?side1 ?side2 A28.out).mono ?_); (case side1 => exact CB HR327_0.out HB.out); (case side2 => exact HC327_0.out); rintro e w32 ⟨rfl, hb⟩; refine ⟨_, rfl, ?_⟩; replace BK322 := AM_ (BB BK322.out hb); replace BK323 := AM_ (BB BK323.out hb); replace HB := AM_ (below_step (BT HB.out) hb); (try clear hb); (try clear hb2); (try clear hk); (try clear hi)) | ((with_reducible refine gate_dst (N := 11) rfl ?_); refine box_event ?hg (N := 11) ?hd (cs := #[.int .i64 0, .int .i64 0, .int .i64 0, .int .i64 0, .int .i64 0]) (t := 76) ?hr ?_; (case hd => rfl); (case hg => rfl); (case hr => first | (go_simp; done) | (go_simp; rfl)); intro gb333 hg w33 hbox hb; have BK333 := AM_ (hbox); have GW333 := AM_ ((GS HB.out hg)); have GE333 := AM_ ((GS HB.out hg)); replace HB := AM_ (below_step (BT HB.out) hb); have NB322_333 := AM_ ((NL BK322.out hg)); have NB333_322 := AM_ ((NG BK322.out hg)); replace BK322 := AM_ (BB BK322.out hb); have NB323_333 := AM_ ((NL BK323.out hg)); have NB333_323 := AM_ ((NG BK323.out hg)); replace BK323 := AM_ (BB BK323.out hb); clear hb hbox hg; have hnb34 := NB333_322.out; have hnc34 := NB322_333.out; have hnb35 := NB333_323.out; have hnc35 := NB323_333.out; obtain ⟨hcz36_0, hcz36_1, hcz36_2, hcz36_3, hcz36_4, hfz36_0, hfz36_1, hfz36_2, hfz36_3, hfz36_4⟩ := bk5 BK333.out))
     (try simp only [pA, pS, pZ, pK])
     go_cut [39] (fun v39 wc => ∃ (kq : Nat) (x39_28 : Bool), v39 = .bool x39_28 ∧ Aside0 (spec_WriteCode.j2 kq x10_21 x39_28 a2_0 a2_1 a2_2 a2_3 a2_4 a2_5 a2_6 l2_7 l2_8 t328 t329 t330 t331 t332 = some r) ∧ Aside0 (kq ≤ kj21) ∧ Aside0 (wc.heap[gb322]? = some (.cells #[(.slice (some ad327) l0_0.length c0_0)] 49 (0, 0))) ∧ Aside0 (wc.heap[gb323]? = some (.cells #[.int .i64 a2_0, .int .i64 a2_1, .int .i64 a2_2, .int .i64 a2_3, .int .i64 a2_4, .int .i64 a2_5, .int .i64 a2_6, (.slice A2_7 l2_7.length c2_7), (.slice A2_8 l2_8.length c2_8)] 68 (0, 0))) ∧ Aside0 (wc.heap[gb333]? = some (.cells #[.int .i64 t328, .int .i64 t329, .int .i64 t330, .int .i64 t331, .int .i64 t332] 76 (0, 0))) ∧ Aside0 (Below w.heap.size w wc))
     case first =>
      have H := HC29.out
      clear HC29
      by_cases c37 : a2_1 = 1
      rotate_left
      ·rw [if_neg c37] at H
       have c37b0 : (a2_1 == 1) = false := beq_eq_false_iff_ne.mpr c37
       have c37b1 : (a2_1 != 1) = true := bne_iff_ne.mpr c37
       (first | rw [c37b0] | (simp only [i64_w, i32_w]; rw [c37b0]) | skip)
       have H' := AM_ H
       clear H
       have hnb41 := NB323_322.out
       have hnc41 := NB322_323.out
       have hnb42 := NB323_333.out
       have hnc42 := NB333_323.out
       obtain ⟨hcz43_0, hcz43_1, hcz43_2, hcz43_3, hcz43_4, hcz43_5, hcz43_6, hcz43_7, hcz43_8, hfz43_0, hfz43_1, hfz43_2, hfz43_3, hfz43_4, hfz43_5, hfz43_6, hfz43_7, hfz43_8⟩ := bk9 BK323.out
       go_wp2
       go_meet
       case rel => exact ⟨_, (false), (by first | rfl | (simp; done) | (simp [*]; done)), H', ⟨by have := HJ4.out; have := HJ21.out; first | omega | exact Nat.le_refl _⟩, ⟨BG BK322.out NB322_333.out⟩, ⟨BG BK323.out NB323_333.out⟩, ⟨BQ BK333.out⟩, ⟨BT HB.out⟩⟩
      rw [if_pos c37] at H
      have c37b0 : (a2_1 == 1) = true := beq_iff_eq.mpr c37
      have c37b1 : (a2_1 != 1) = false := bne_eq_false_iff_eq.mpr c37
      clear c37
      (first | rw [c37b0] | (simp only [i64_w, i32_w]; rw [c37b0]) | skip)
      have H' := AM_ H
      clear H
      have hnb38 := NB323_322.out
      have hnc38 := NB322_323.out
      have hnb39 := NB323_333.out
      have hnc39 := NB333_323.out
      obtain ⟨hcz40_0, hcz40_1, hcz40_2, hcz40_3, hcz40_4, hcz40_5, hcz40_6, hcz40_7, hcz40_8, hfz40_0, hfz40_1, hfz40_2, hfz40_3, hfz40_4, hfz40_5, hfz40_6, hfz40_7, hfz40_8⟩ := bk9 BK323.out
      go_wp2
      go_meet
      case rel => exact ⟨_, (x10_21), (by first | rfl | (simp; done) | (simp [*]; done)), H', ⟨by have := HJ4.out; have := HJ21.out; first | omega | exact Nat.le_refl _⟩, ⟨BG BK322.out NB322_333.out⟩, ⟨BG BK323.out NB323_333.out⟩, ⟨BQ BK333.out⟩, ⟨BT HB.out⟩⟩
     case rest =>
      clear HC29
      try clear c1
      try clear c2
      try clear p2
      try clear c3
      try clear p3
      try clear q3
      try clear hx3
      try clear c4
      try clear c5
      try clear c9
      try clear c10
      try clear c11
      try clear c13
      try clear c16
      try clear c20
      try clear c23
      try clear c23b0
      try clear c23b1
      try clear c24
      try clear c26
      try clear c26b0
      try clear c27
      try clear c27b0
      try clear c30
      try clear c32
      try clear p32
      try clear q32
      try clear hx32
      try clear c34
      try clear c35
      try clear c37
      try clear c37b0
      try clear c37b1
      try clear c38
      try clear c39
      try clear c41
      try clear c42
      try clear hcz12_0
      try clear hcz13_0
      try clear hcz13_1
      try clear hcz13_2
      try clear hcz13_3
      try clear hcz13_4
      try clear hcz13_5
      try clear hcz13_6
      try clear hcz13_7
      try clear hcz13_8
      try clear hcz17_0
      try clear hcz18_0
      try clear hcz18_1
      try clear hcz18_2
      try clear hcz18_3
      try clear hcz18_4
      try clear hcz18_5
      try clear hcz18_6
      try clear hcz18_7
      try clear hcz18_8
      try clear hcz25_0
      try clear hcz25_1
      try clear hcz25_2
      try clear hcz25_3
      try clear hcz25_4
      try clear hcz25_5
      try clear hcz25_6
      try clear hcz25_7
      try clear hcz25_8
      try clear hcz31_0
      try clear hcz36_0
      try clear hcz36_1
      try clear hcz36_2
      try clear hcz36_3
      try clear hcz36_4
      try clear hcz40_0
      try clear hcz40_1
      try clear hcz40_2
      try clear hcz40_3
      try clear hcz40_4
      try clear hcz40_5
      try clear hcz40_6
      try clear hcz40_7
      try clear hcz40_8
      try clear hcz43_0
      try clear hcz43_1
      try clear hcz43_2
      try clear hcz43_3
      try clear hcz43_4
      try clear hcz43_5
      try clear hcz43_6
      try clear hcz43_7
      try clear hcz43_8
      try clear hfz12_0
      try clear hfz13_0
      try clear hfz13_1
      try clear hfz13_2
      try clear hfz13_3
      try clear hfz13_4
      try clear hfz13_5
      try clear hfz13_6
      try clear hfz13_7
      try clear hfz13_8
      try clear hfz17_0
      try clear hfz18_0
      try clear hfz18_1
      try clear hfz18_2
      try clear hfz18_3
      try clear hfz18_4
      try clear hfz18_5
      try clear hfz18_6
      try clear hfz18_7
      try clear hfz18_8
      try clear hfz25_0
      try clear hfz25_1
      try clear hfz25_2
      try clear hfz25_3
      try clear hfz25_4
      try clear hfz25_5
      try clear hfz25_6
      try clear hfz25_7
      try clear hfz25_8
      try clear hfz31_0
      try clear hfz36_0
      try clear hfz36_1
      try clear hfz36_2
      try clear hfz36_3
      try clear hfz36_4
      try clear hfz40_0
      try clear hfz40_1
      try clear hfz40_2
      try clear hfz40_3
      try clear hfz40_4
      try clear hfz40_5
      try clear hfz40_6
      try clear hfz40_7
      try clear hfz40_8
      try clear hfz43_0
      try clear hfz43_1
      try clear hfz43_2
      try clear hfz43_3
      try clear hfz43_4
      try clear hfz43_5
      try clear hfz43_6
      try clear hfz43_7
      try clear hfz43_8
      try clear hx327_0
      try clear p2
      try clear p327
      try clear q327
      obtain ⟨kq, x39_28, rfl, HA, HJ28, BK322, BK323, BK333, HB⟩ := hcut
      cases kq with
      | zero => exact absurd HA.out (by simp [spec_WriteCode.j2])
      | succ kj28 =>
       have H := HA.out
       clear HA
       simp only [spec_WriteCode.j2] at H
       by_cases c44 : x39_28 = true
       ·subst c44
        have H1 : (some 1) = some r := by rw [if_pos rfl] at H; exact H
        clear H
        have H := H1
        clear H1
        obtain rfl := Option.some.inj H
        go_wp2
        go_ret
        exact QT (BT HB.out)
       replace c44 := Bool.eq_false_iff.mpr c44
       subst c44
       have H1 : (if a2_1 = 2 then (if x10_21 = true then (spec_WriteCode.j3 kj28 true a2_0 a2_1 a2_2 a2_3 a2_4 a2_5 a2_6 l2_7 l2_8 t328 t329 t330 t331 t332) else (spec_WriteCode.j3 kj28 (decide (t330 > a2_3)) a2_0 a2_1 a2_2 a2_3 a2_4 a2_5 a2_6 l2_7 l2_8 t328 t329 t330 t331 t332)) else (spec_WriteCode.j3 kj28 false a2_0 a2_1 a2_2 a2_3 a2_4 a2_5 a2_6 l2_7 l2_8 t328 t329 t330 t331 t332)) = some r := by rw [if_neg (show ¬ (false = true) by decide)] at H; exact H
       clear H
       have H := H1
       clear H1
       have HC45 := AM_ H
       clear H
       go_upto_region 8 with (fail)
       go_cut [46] (fun v46 wc => ∃ (kq : Nat) (x46_44 : Bool), v46 = .bool x46_44 ∧ Aside0 (spec_WriteCode.j3 kq x46_44 a2_0 a2_1 a2_2 a2_3 a2_4 a2_5 a2_6 l2_7 l2_8 t328 t329 t330 t331 t332 = some r) ∧ Aside0 (kq ≤ kj28) ∧ Aside0 (wc.heap[gb322]? = some (.cells #[(.slice (some ad327) l0_0.length c0_0)] 49 (0, 0))) ∧ Aside0 (wc.heap[gb323]? = some (.cells #[.int .i64 a2_0, .int .i64 a2_1, .int .i64 a2_2, .int .i64 a2_3, .int .i64 a2_4, .int .i64 a2_5, .int .i64 a2_6, (.slice A2_7 l2_7.length c2_7), (.slice A2_8 l2_8.length c2_8)] 68 (0, 0))) ∧ Aside0 (wc.heap[gb333]? = some (.cells #[.int .i64 t328, .int .i64 t329, .int .i64 t330, .int .i64 t331, .int .i64 t332] 76 (0, 0))) ∧ Aside0 (Below w.heap.size w wc))
       case first =>
        have H := HC45.out
        clear HC45
        by_cases c46 : a2_1 = 2
        rotate_left
        ·rw [if_neg c46] at H
         have c46b0 : (a2_1 == 2) = false := beq_eq_false_iff_ne.mpr c46
         have c46b1 : (a2_1 != 2) = true := bne_iff_ne.mpr c46
         (first | rw [c46b0] | (simp only [i64_w, i32_w]; rw [c46b0]) | skip)
         have H' := AM_ H
         clear H
         have hnb56 := NB323_322.out
         have hnc56 := NB322_323.out
         have hnb57 := NB323_333.out
         have hnc57 := NB333_323.out
         obtain ⟨hcz58_0, hcz58_1, hcz58_2, hcz58_3, hcz58_4, hcz58_5, hcz58_6, hcz58_7, hcz58_8, hfz58_0, hfz58_1, hfz58_2, hfz58_3, hfz58_4, hfz58_5, hfz58_6, hfz58_7, hfz58_8⟩ := bk9 BK323.out
         go_wp2
         go_meet
         case rel => exact ⟨_, (false), (by first | rfl | (simp; done) | (simp [*]; done)), H', ⟨by have := HJ4.out; have := HJ21.out; have := HJ28.out; first | omega | exact Nat.le_refl _⟩, ⟨BH BK322.out⟩, ⟨BH BK323.out⟩, ⟨BH BK333.out⟩, ⟨BT HB.out⟩⟩
        rw [if_pos c46] at H
        have c46b0 : (a2_1 == 2) = true := beq_iff_eq.mpr c46
        have c46b1 : (a2_1 != 2) = false := bne_eq_false_iff_eq.mpr c46
        clear c46
        (first | rw [c46b0] | (simp only [i64_w, i32_w]; rw [c46b0]) | skip)
        by_cases c47 : x10_21 = true
        ·subst c47
         have H1 : (spec_WriteCode.j3 kj28 true a2_0 a2_1 a2_2 a2_3 a2_4 a2_5 a2_6 l2_7 l2_8 t328 t329 t330 t331 t332) = some r := by rw [if_pos rfl] at H; exact H
         clear H
         have H := H1
         clear H1
         have H' := AM_ H
         clear H
         have hnb48 := NB323_322.out
         have hnc48 := NB322_323.out
         have hnb49 := NB323_333.out
         have hnc49 := NB333_323.out
         obtain ⟨hcz50_0, hcz50_1, hcz50_2, hcz50_3, hcz50_4, hcz50_5, hcz50_6, hcz50_7, hcz50_8, hfz50_0, hfz50_1, hfz50_2, hfz50_3, hfz50_4, hfz50_5, hfz50_6, hfz50_7, hfz50_8⟩ := bk9 BK323.out
         go_wp2
         go_meet
         case rel => exact ⟨_, (true), (by first | rfl | (simp; done) | (simp [*]; done)), H', ⟨by have := HJ4.out; have := HJ21.out; have := HJ28.out; first | omega | exact Nat.le_refl _⟩, ⟨BH BK322.out⟩, ⟨BH BK323.out⟩, ⟨BH BK333.out⟩, ⟨BT HB.out⟩⟩
        replace c47 := Bool.eq_false_iff.mpr c47
        subst c47
        have H1 : (spec_WriteCode.j3 kj28 (decide (t330 > a2_3)) a2_0 a2_1 a2_2 a2_3 a2_4 a2_5 a2_6 l2_7 l2_8 t328 t329 t330 t331 t332) = some r := by rw [if_neg (show ¬ (false = true) by decide)] at H; exact H
        clear H
        have H := H1
        clear H1
        have H' := AM_ H
        clear H
        have hnb51 := NB323_322.out
        have hnc51 := NB322_323.out
        have hnb52 := NB323_333.out
        have hnc52 := NB333_323.out
        obtain ⟨hcz53_0, hcz53_1, hcz53_2, hcz53_3, hcz53_4, hcz53_5, hcz53_6, hcz53_7, hcz53_8, hfz53_0, hfz53_1, hfz53_2, hfz53_3, hfz53_4, hfz53_5, hfz53_6, hfz53_7, hfz53_8⟩ := bk9 BK323.out
        have hnb54 := NB333_322.out
        have hnc54 := NB322_333.out
        obtain ⟨hcz55_0, hcz55_1, hcz55_2, hcz55_3, hcz55_4, hfz55_0, hfz55_1, hfz55_2, hfz55_3, hfz55_4⟩ := bk5 BK333.out
        go_wp2
        go_meet
        case rel => exact ⟨_, (decide (t330 > a2_3)), (by first | rfl | (simp; done) | (simp [*]; done)), H', ⟨by have := HJ4.out; have := HJ21.out; have := HJ28.out; first | omega | exact Nat.le_refl _⟩, ⟨BH BK322.out⟩, ⟨BH BK323.out⟩, ⟨BH BK333.out⟩, ⟨BT HB.out⟩⟩
       case rest =>
        clear HC45
        try clear c1
        try clear c2
        try clear p2
        try clear c3
        try clear p3
        try clear q3
        try clear hx3
        try clear c4
        try clear c5
        try clear c9
        try clear c10
        try clear c11
        try clear c13
        try clear c16
        try clear c20
        try clear c23
        try clear c23b0
        try clear c23b1
        try clear c24
        try clear c26
        try clear c26b0
        try clear c27
        try clear c27b0
        try clear c30
        try clear c32
        try clear p32
        try clear q32
        try clear hx32
        try clear c34
        try clear c35
        try clear c37
        try clear c37b0
        try clear c37b1
        try clear c38
        try clear c39
        try clear c41
        try clear c42
        try clear c44
        try clear c46
        try clear c46b0
        try clear c46b1
        try clear c47
        try clear c48
        try clear c49
        try clear c51
        try clear c52
        try clear c54
        try clear c55
        try clear c56
        try clear c57
        try clear hcz12_0
        try clear hcz13_0
        try clear hcz13_1
        try clear hcz13_2
        try clear hcz13_3
        try clear hcz13_4
        try clear hcz13_5
        try clear hcz13_6
        try clear hcz13_7
        try clear hcz13_8
        try clear hcz17_0
        try clear hcz18_0
        try clear hcz18_1
        try clear hcz18_2
        try clear hcz18_3
        try clear hcz18_4
        try clear hcz18_5
        try clear hcz18_6
        try clear hcz18_7
        try clear hcz18_8
        try clear hcz25_0
        try clear hcz25_1
        try clear hcz25_2
        try clear hcz25_3
        try clear hcz25_4
        try clear hcz25_5
        try clear hcz25_6
        try clear hcz25_7
        try clear hcz25_8
        try clear hcz31_0
        try clear hcz36_0
        try clear hcz36_1
        try clear hcz36_2
        try clear hcz36_3
        try clear hcz36_4
        try clear hcz40_0
        try clear hcz40_1
        try clear hcz40_2
        try clear hcz40_3
        try clear hcz40_4
        try clear hcz40_5
        try clear hcz40_6
        try clear hcz40_7
        try clear hcz40_8
        try clear hcz43_0
        try clear hcz43_1
        try clear hcz43_2
        try clear hcz43_3
        try clear hcz43_4
        try clear hcz43_5
        try clear hcz43_6
        try clear hcz43_7
        try clear hcz43_8
        try clear hcz50_0
        try clear hcz50_1
        try clear hcz50_2
        try clear hcz50_3
        try clear hcz50_4
        try clear hcz50_5
        try clear hcz50_6
        try clear hcz50_7
        try clear hcz50_8
        try clear hcz53_0
        try clear hcz53_1
        try clear hcz53_2
        try clear hcz53_3
        try clear hcz53_4
        try clear hcz53_5
        try clear hcz53_6
        try clear hcz53_7
        try clear hcz53_8
        try clear hcz55_0
        try clear hcz55_1
        try clear hcz55_2
        try clear hcz55_3
        try clear hcz55_4
        try clear hcz58_0
        try clear hcz58_1
        try clear hcz58_2
        try clear hcz58_3
        try clear hcz58_4
        try clear hcz58_5
        try clear hcz58_6
        try clear hcz58_7
        try clear hcz58_8
        try clear hfz12_0
        try clear hfz13_0
        try clear hfz13_1
        try clear hfz13_2
        try clear hfz13_3
        try clear hfz13_4
        try clear hfz13_5
        try clear hfz13_6
        try clear hfz13_7
        try clear hfz13_8
        try clear hfz17_0
        try clear hfz18_0
        try clear hfz18_1
        try clear hfz18_2
        try clear hfz18_3
        try clear hfz18_4
        try clear hfz18_5
        try clear hfz18_6
        try clear hfz18_7
        try clear hfz18_8
        try clear hfz25_0
        try clear hfz25_1
        try clear hfz25_2
        try clear hfz25_3
        try clear hfz25_4
        try clear hfz25_5
        try clear hfz25_6
        try clear hfz25_7
        try clear hfz25_8
        try clear hfz31_0
        try clear hfz36_0
        try clear hfz36_1
        try clear hfz36_2
        try clear hfz36_3
        try clear hfz36_4
        try clear hfz40_0
        try clear hfz40_1
        try clear hfz40_2
        try clear hfz40_3
        try clear hfz40_4
        try clear hfz40_5
        try clear hfz40_6
        try clear hfz40_7
        try clear hfz40_8
        try clear hfz43_0
        try clear hfz43_1
        try clear hfz43_2
        try clear hfz43_3
        try clear hfz43_4
        try clear hfz43_5
        try clear hfz43_6
        try clear hfz43_7
        try clear hfz43_8
        try clear hfz50_0
        try clear hfz50_1
        try clear hfz50_2
        try clear hfz50_3
        try clear hfz50_4
        try clear hfz50_5
        try clear hfz50_6
        try clear hfz50_7
        try clear hfz50_8
        try clear hfz53_0
        try clear hfz53_1
        try clear hfz53_2
        try clear hfz53_3
        try clear hfz53_4
        try clear hfz53_5
        try clear hfz53_6
        try clear hfz53_7
        try clear hfz53_8
        try clear hfz55_0
        try clear hfz55_1
        try clear hfz55_2
        try clear hfz55_3
        try clear hfz55_4
        try clear hfz58_0
        try clear hfz58_1
        try clear hfz58_2
        try clear hfz58_3
        try clear hfz58_4
        try clear hfz58_5
        try clear hfz58_6
        try clear hfz58_7
        try clear hfz58_8
        try clear hx327_0
        try clear p2
        try clear p3
        try clear p32
        try clear p327
        try clear q3
        try clear q32
        try clear q327
        obtain ⟨kq, x46_44, rfl, HA, HJ44, BK322, BK323, BK333, HB⟩ := hcut
        cases kq with
        | zero => exact absurd HA.out (by simp [spec_WriteCode.j3])
        | succ kj44 =>
         have H := HA.out
         clear HA
         simp only [spec_WriteCode.j3] at H
         by_cases c59 : x46_44 = true
         ·subst c59
          have H1 : (some 2) = some r := by rw [if_pos rfl] at H; exact H
          clear H
          have H := H1
          clear H1
          obtain rfl := Option.some.inj H
          go_wp2
          go_ret
          exact QT (BT HB.out)
         replace c59 := Bool.eq_false_iff.mpr c59
         subst c59
         have H1 : (if a2_1 = 4 then (if t330 > a2_3 then (some 3) else (if t331 > a2_3 then (some 3) else (some 0))) else (some 0)) = some r := by rw [if_neg (show ¬ (false = true) by decide)] at H; exact H
         clear H
         have H := H1
         clear H1
         by_cases c60 : a2_1 = 4
         rotate_left
         ·rw [if_neg c60] at H
          have c60b0 : (a2_1 == 4) = false := beq_eq_false_iff_ne.mpr c60
          have c60b1 : (a2_1 != 4) = true := bne_iff_ne.mpr c60
          obtain rfl := Option.some.inj H
          have hnb78 := NB323_322.out
          have hnc78 := NB322_323.out
          have hnb79 := NB323_333.out
          have hnc79 := NB333_323.out
          obtain ⟨hcz80_0, hcz80_1, hcz80_2, hcz80_3, hcz80_4, hcz80_5, hcz80_6, hcz80_7, hcz80_8, hfz80_0, hfz80_1, hfz80_2, hfz80_3, hfz80_4, hfz80_5, hfz80_6, hfz80_7, hfz80_8⟩ := bk9 BK323.out
          go_wp2
          go_ret
          exact QT (BT HB.out)
         rw [if_pos c60] at H
         have c60b0 : (a2_1 == 4) = true := beq_iff_eq.mpr c60
         have c60b1 : (a2_1 != 4) = false := bne_eq_false_iff_eq.mpr c60
         clear c60
         by_cases c61 : t330 > a2_3
         ·rw [if_pos c61] at H
          have c61b0 : decide (a2_3 < t330) = true := decide_eq_true c61
          clear c61
          obtain rfl := Option.some.inj H
          have hnb62 := NB323_322.out
          have hnc62 := NB322_323.out
          have hnb63 := NB323_333.out
          have hnc63 := NB333_323.out
          obtain ⟨hcz64_0, hcz64_1, hcz64_2, hcz64_3, hcz64_4, hcz64_5, hcz64_6, hcz64_7, hcz64_8, hfz64_0, hfz64_1, hfz64_2, hfz64_3, hfz64_4, hfz64_5, hfz64_6, hfz64_7, hfz64_8⟩ := bk9 BK323.out
          have hnb65 := NB333_322.out
          have hnc65 := NB322_333.out
          obtain ⟨hcz66_0, hcz66_1, hcz66_2, hcz66_3, hcz66_4, hfz66_0, hfz66_1, hfz66_2, hfz66_3, hfz66_4⟩ := bk5 BK333.out
          go_wp2
          go_ret
          exact QT (BT HB.out)
         rw [if_neg c61] at H
         have c61b0 : decide (a2_3 < t330) = false := decide_eq_false c61
         clear c61
         by_cases c67 : t331 > a2_3
         ·rw [if_pos c67] at H
          have c67b0 : decide (a2_3 < t331) = true := decide_eq_true c67
          clear c67
          obtain rfl := Option.some.inj H
          have hnb68 := NB323_322.out
          have hnc68 := NB322_323.out
          have hnb69 := NB323_333.out
          have hnc69 := NB333_323.out
          obtain ⟨hcz70_0, hcz70_1, hcz70_2, hcz70_3, hcz70_4, hcz70_5, hcz70_6, hcz70_7, hcz70_8, hfz70_0, hfz70_1, hfz70_2, hfz70_3, hfz70_4, hfz70_5, hfz70_6, hfz70_7, hfz70_8⟩ := bk9 BK323.out
          have hnb71 := NB333_322.out
          have hnc71 := NB322_333.out
          obtain ⟨hcz72_0, hcz72_1, hcz72_2, hcz72_3, hcz72_4, hfz72_0, hfz72_1, hfz72_2, hfz72_3, hfz72_4⟩ := bk5 BK333.out
          go_wp2
          go_ret
          exact QT (BT HB.out)
         rw [if_neg c67] at H
         have c67b0 : decide (a2_3 < t331) = false := decide_eq_false c67
         clear c67
         obtain rfl := Option.some.inj H
         have hnb73 := NB323_322.out
         have hnc73 := NB322_323.out
         have hnb74 := NB323_333.out
         have hnc74 := NB333_323.out
         obtain ⟨hcz75_0, hcz75_1, hcz75_2, hcz75_3, hcz75_4, hcz75_5, hcz75_6, hcz75_7, hcz75_8, hfz75_0, hfz75_1, hfz75_2, hfz75_3, hfz75_4, hfz75_5, hfz75_6, hfz75_7, hfz75_8⟩ := bk9 BK323.out
         have hnb76 := NB333_322.out
         have hnc76 := NB322_333.out
         obtain ⟨hcz77_0, hcz77_1, hcz77_2, hcz77_3, hcz77_4, hfz77_0, hfz77_1, hfz77_2, hfz77_3, hfz77_4⟩ := bk5 BK333.out
         go_wp2
         go_ret
         exact QT (BT HB.out)

end Go.Proofs.Ytakpkmlbklahhaa.PFnExactWriteCode
