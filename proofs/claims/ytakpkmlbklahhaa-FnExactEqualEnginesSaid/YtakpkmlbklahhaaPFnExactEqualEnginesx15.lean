-- Printed by a program of mine (wip/myprint.py), which runs the printer of the kit with contracts of mine beside it.
import Derived.Test.YtakpkmlbklahhaaPFnExactEqualEnginesx0
import Derived.Test.YtakpkmlbklahhaaPFnExactEqualEnginesx1
import Derived.Test.YtakpkmlbklahhaaPFnExactEqualEnginesx4
import Derived.Test.YtakpkmlbklahhaaPFnExactEqualEnginesx13
import Derived.Test.YtakpkmlbklahhaaPFnExactEqualEnginesx14
namespace Go.Proofs.Ytakpkmlbklahhaa.PFnExactEqualEngines
open Go.RowKit Go.Proofs.YtakpkmlbklahhaaW.PrintWords Go.Proofs.YtakpkmlbklahhaaW.PrintLast Go.Proofs.YtakpkmlbklahhaaW.PrintMore
attribute [local go_sem] max2_int min2_int max_two min_two max_three min_three max_four min_four   -- for this text's walks alone
set_option linter.unusedVariables false
set_option linter.unusedSimpArgs false

attribute [local go_sem high] eqA36 eqA150
/-! ### spec_EqualEngines: function 47 -/
mutual
def spec_EqualEngines.j0 : Nat → Bool → Bool → List (List (S76)) → List (S68) → List (S150) → List (S36) → Int → Bool → List (List (S76)) → List (S68) → List (S150) → List (S36) → Int → Option (Bool)
 | 0, _, _, _, _, _, _, _, _, _, _, _, _, _ => none
 | k + 1, x54, x282000, x282001, x282002, x282003, x282004, x282005, x283000, x283001, x283002, x283003, x283004, x283005 => if x54 = true then (some false) else (spec_EqualEngines.l0 k 0 x282000 x282001 x282002 x282003 x282004 x282005 x283000 x283001 x283002 x283003 x283004 x283005)
def spec_EqualEngines.l0 : Nat → Int → Bool → List (List (S76)) → List (S68) → List (S150) → List (S36) → Int → Bool → List (List (S76)) → List (S68) → List (S150) → List (S36) → Int → Option (Bool)
 | 0, _, _, _, _, _, _, _, _, _, _, _, _, _ => none
 | k + 1, x5, x282000, x282001, x282002, x282003, x282004, x282005, x283000, x283001, x283002, x283003, x283004, x283005 => if x5 < (x282002.length : Int) then (if 0 ≤ x5 then (if x5 < (x283002.length : Int) then ((spec_EqualTransactions.f k ((rd_T68 x282002 x5).f0) ((rd_T68 x282002 x5).f1) ((rd_T68 x282002 x5).f2) ((rd_T68 x282002 x5).f3) ((rd_T68 x282002 x5).f4) ((rd_T68 x282002 x5).f5) ((rd_T68 x282002 x5).f6) ((rd_T68 x282002 x5).f7) ((rd_T68 x282002 x5).f8) ((rd_T68 x283002 x5).f0) ((rd_T68 x283002 x5).f1) ((rd_T68 x283002 x5).f2) ((rd_T68 x283002 x5).f3) ((rd_T68 x283002 x5).f4) ((rd_T68 x283002 x5).f5) ((rd_T68 x283002 x5).f6) ((rd_T68 x283002 x5).f7) ((rd_T68 x283002 x5).f8)).bind fun t286 => (if t286 = true then (spec_EqualEngines.l0 k (wrap64 (x5 + 1)) x282000 x282001 x282002 x282003 x282004 x282005 x283000 x283001 x283002 x283003 x283004 x283005) else (some false))) else (none)) else (none)) else (spec_EqualEngines.l1 k 0 x282000 x282001 x282002 x282003 x282004 x282005 x283000 x283001 x283002 x283003 x283004 x283005)
def spec_EqualEngines.l1 : Nat → Int → Bool → List (List (S76)) → List (S68) → List (S150) → List (S36) → Int → Bool → List (List (S76)) → List (S68) → List (S150) → List (S36) → Int → Option (Bool)
 | 0, _, _, _, _, _, _, _, _, _, _, _, _, _ => none
 | k + 1, x6, x282000, x282001, x282002, x282003, x282004, x282005, x283000, x283001, x283002, x283003, x283004, x283005 => if x6 < (x282003.length : Int) then (if 0 ≤ x6 then (if x6 < (x283003.length : Int) then (if (!(((rd_T150 x282003 x6).f0) == ((rd_T150 x283003 x6).f0)) || (!(((rd_T150 x282003 x6).f1) == ((rd_T150 x283003 x6).f1)))) = true then (some false) else (spec_EqualEngines.l1 k (wrap64 (x6 + 1)) x282000 x282001 x282002 x282003 x282004 x282005 x283000 x283001 x283002 x283003 x283004 x283005)) else (none)) else (none)) else (spec_EqualEngines.l2 k 0 x282000 x282001 x282002 x282003 x282004 x282005 x283000 x283001 x283002 x283003 x283004 x283005)
def spec_EqualEngines.l2 : Nat → Int → Bool → List (List (S76)) → List (S68) → List (S150) → List (S36) → Int → Bool → List (List (S76)) → List (S68) → List (S150) → List (S36) → Int → Option (Bool)
 | 0, _, _, _, _, _, _, _, _, _, _, _, _, _ => none
 | k + 1, x7, x282000, x282001, x282002, x282003, x282004, x282005, x283000, x283001, x283002, x283003, x283004, x283005 => if x7 < (x282004.length : Int) then (if 0 ≤ x7 then (if x7 < (x283004.length : Int) then (if (!(((rd_T36 x282004 x7).f0) == ((rd_T36 x283004 x7).f0)) || (!(((rd_T36 x282004 x7).f1) == ((rd_T36 x283004 x7).f1)))) = true then (some false) else (spec_EqualEngines.l2 k (wrap64 (x7 + 1)) x282000 x282001 x282002 x282003 x282004 x282005 x283000 x283001 x283002 x283003 x283004 x283005)) else (none)) else (none)) else (some true)
end
def spec_EqualEngines.f (k : Nat) (a0_0 : Bool) (l0_1 : List (List (S76))) (l0_2 : List (S68)) (l0_3 : List (S150)) (l0_4 : List (S36)) (a0_5 : Int) (a1_0 : Bool) (l1_1 : List (List (S76))) (l1_2 : List (S68)) (l1_3 : List (S150)) (l1_4 : List (S36)) (a1_5 : Int) : Option (Bool) := if (a0_0 != a1_0) = true then (spec_EqualEngines.j0 k true a0_0 l0_1 l0_2 l0_3 l0_4 a0_5 a1_0 l1_1 l1_2 l1_3 l1_4 a1_5) else ((spec_EqualStores.f k l0_1 l1_1).bind fun t283 => (if t283 = true then (if (l0_2.length : Int) = (l1_2.length : Int) then (if (l0_3.length : Int) = (l1_3.length : Int) then (if (l0_4.length : Int) = (l1_4.length : Int) then (spec_EqualEngines.j0 k (a0_5 != a1_5) a0_0 l0_1 l0_2 l0_3 l0_4 a0_5 a1_0 l1_1 l1_2 l1_3 l1_4 a1_5) else (spec_EqualEngines.j0 k true a0_0 l0_1 l0_2 l0_3 l0_4 a0_5 a1_0 l1_1 l1_2 l1_3 l1_4 a1_5)) else (spec_EqualEngines.j0 k true a0_0 l0_1 l0_2 l0_3 l0_4 a0_5 a1_0 l1_1 l1_2 l1_3 l1_4 a1_5)) else (spec_EqualEngines.j0 k true a0_0 l0_1 l0_2 l0_3 l0_4 a0_5 a1_0 l1_1 l1_2 l1_3 l1_4 a1_5)) else (spec_EqualEngines.j0 k true a0_0 l0_1 l0_2 l0_3 l0_4 a0_5 a1_0 l1_1 l1_2 l1_3 l1_4 a1_5)))
theorem spec_EqualEngines.mono_l : ∀ k, (∀ y0 y1 y2 y3 y4 y5 y6 y7 y8 y9 y10 y11 y12, LeO (spec_EqualEngines.j0 k y0 y1 y2 y3 y4 y5 y6 y7 y8 y9 y10 y11 y12) (spec_EqualEngines.j0 (k + 1) y0 y1 y2 y3 y4 y5 y6 y7 y8 y9 y10 y11 y12)) ∧ (∀ y0 y1 y2 y3 y4 y5 y6 y7 y8 y9 y10 y11 y12, LeO (spec_EqualEngines.l0 k y0 y1 y2 y3 y4 y5 y6 y7 y8 y9 y10 y11 y12) (spec_EqualEngines.l0 (k + 1) y0 y1 y2 y3 y4 y5 y6 y7 y8 y9 y10 y11 y12)) ∧ (∀ y0 y1 y2 y3 y4 y5 y6 y7 y8 y9 y10 y11 y12, LeO (spec_EqualEngines.l1 k y0 y1 y2 y3 y4 y5 y6 y7 y8 y9 y10 y11 y12) (spec_EqualEngines.l1 (k + 1) y0 y1 y2 y3 y4 y5 y6 y7 y8 y9 y10 y11 y12)) ∧ (∀ y0 y1 y2 y3 y4 y5 y6 y7 y8 y9 y10 y11 y12, LeO (spec_EqualEngines.l2 k y0 y1 y2 y3 y4 y5 y6 y7 y8 y9 y10 y11 y12) (spec_EqualEngines.l2 (k + 1) y0 y1 y2 y3 y4 y5 y6 y7 y8 y9 y10 y11 y12))
 | 0 => ⟨fun _ _ _ _ _ _ _ _ _ _ _ _ _ r h => by simp [spec_EqualEngines.j0] at h, fun _ _ _ _ _ _ _ _ _ _ _ _ _ r h => by simp [spec_EqualEngines.l0] at h, fun _ _ _ _ _ _ _ _ _ _ _ _ _ r h => by simp [spec_EqualEngines.l1] at h, fun _ _ _ _ _ _ _ _ _ _ _ _ _ r h => by simp [spec_EqualEngines.l2] at h⟩
 | k + 1 => by
  obtain ⟨ih0, ih1, ih2, ih3⟩ := spec_EqualEngines.mono_l k
  refine ⟨?_, ?_, ?_, ?_⟩
  ·intro y0 y1 y2 y3 y4 y5 y6 y7 y8 y9 y10 y11 y12
   unfold spec_EqualEngines.j0
   repeat' first
   | (with_reducible exact ih0 _ _ _ _ _ _ _ _ _ _ _ _ _)
   | (with_reducible exact ih1 _ _ _ _ _ _ _ _ _ _ _ _ _)
   | (with_reducible exact ih2 _ _ _ _ _ _ _ _ _ _ _ _ _)
   | (with_reducible exact ih3 _ _ _ _ _ _ _ _ _ _ _ _ _)
   | (with_reducible exact spec_EqualStores.mono _ _ _)
   | (with_reducible exact spec_EqualTransactions.mono _ _ _ _ _ _ _ _ _ _ _ _ _ _ _ _ _ _ _)
   | (with_reducible exact LeO.refl _)
   | (with_reducible exact LeO.none _)
   | (with_reducible refine LeO.ite ?_ ?_)
   | (with_reducible refine LeO.bind ?_ (fun _ => ?_))
   | exact ih0 _ _ _ _ _ _ _ _ _ _ _ _ _
   | exact ih1 _ _ _ _ _ _ _ _ _ _ _ _ _
   | exact ih2 _ _ _ _ _ _ _ _ _ _ _ _ _
   | exact ih3 _ _ _ _ _ _ _ _ _ _ _ _ _
   | exact spec_EqualStores.mono _ _ _
   | exact spec_EqualTransactions.mono _ _ _ _ _ _ _ _ _ _ _ _ _ _ _ _ _ _ _
   | exact LeO.none _
   | refine LeO.ite ?_ ?_
   | refine LeO.bind ?_ (fun _ => ?_)
  ·intro y0 y1 y2 y3 y4 y5 y6 y7 y8 y9 y10 y11 y12
   unfold spec_EqualEngines.l0
   repeat' first
   | (with_reducible exact ih0 _ _ _ _ _ _ _ _ _ _ _ _ _)
   | (with_reducible exact ih1 _ _ _ _ _ _ _ _ _ _ _ _ _)
   | (with_reducible exact ih2 _ _ _ _ _ _ _ _ _ _ _ _ _)
   | (with_reducible exact ih3 _ _ _ _ _ _ _ _ _ _ _ _ _)
   | (with_reducible exact spec_EqualStores.mono _ _ _)
   | (with_reducible exact spec_EqualTransactions.mono _ _ _ _ _ _ _ _ _ _ _ _ _ _ _ _ _ _ _)
   | (with_reducible exact LeO.refl _)
   | (with_reducible exact LeO.none _)
   | (with_reducible refine LeO.ite ?_ ?_)
   | (with_reducible refine LeO.bind ?_ (fun _ => ?_))
   | exact ih0 _ _ _ _ _ _ _ _ _ _ _ _ _
   | exact ih1 _ _ _ _ _ _ _ _ _ _ _ _ _
   | exact ih2 _ _ _ _ _ _ _ _ _ _ _ _ _
   | exact ih3 _ _ _ _ _ _ _ _ _ _ _ _ _
   | exact spec_EqualStores.mono _ _ _
   | exact spec_EqualTransactions.mono _ _ _ _ _ _ _ _ _ _ _ _ _ _ _ _ _ _ _
   | exact LeO.none _
   | refine LeO.ite ?_ ?_
   | refine LeO.bind ?_ (fun _ => ?_)
  ·intro y0 y1 y2 y3 y4 y5 y6 y7 y8 y9 y10 y11 y12
   unfold spec_EqualEngines.l1
   repeat' first
   | (with_reducible exact ih0 _ _ _ _ _ _ _ _ _ _ _ _ _)
   | (with_reducible exact ih1 _ _ _ _ _ _ _ _ _ _ _ _ _)
   | (with_reducible exact ih2 _ _ _ _ _ _ _ _ _ _ _ _ _)
   | (with_reducible exact ih3 _ _ _ _ _ _ _ _ _ _ _ _ _)
   | (with_reducible exact spec_EqualStores.mono _ _ _)
   | (with_reducible exact spec_EqualTransactions.mono _ _ _ _ _ _ _ _ _ _ _ _ _ _ _ _ _ _ _)
   | (with_reducible exact LeO.refl _)
   | (with_reducible exact LeO.none _)
   | (with_reducible refine LeO.ite ?_ ?_)
   | (with_reducible refine LeO.bind ?_ (fun _ => ?_))
   | exact ih0 _ _ _ _ _ _ _ _ _ _ _ _ _
   | exact ih1 _ _ _ _ _ _ _ _ _ _ _ _ _
   | exact ih2 _ _ _ _ _ _ _ _ _ _ _ _ _
   | exact ih3 _ _ _ _ _ _ _ _ _ _ _ _ _
   | exact spec_EqualStores.mono _ _ _
   | exact spec_EqualTransactions.mono _ _ _ _ _ _ _ _ _ _ _ _ _ _ _ _ _ _ _
   | exact LeO.none _
   | refine LeO.ite ?_ ?_
   | refine LeO.bind ?_ (fun _ => ?_)
  ·intro y0 y1 y2 y3 y4 y5 y6 y7 y8 y9 y10 y11 y12
   unfold spec_EqualEngines.l2
   repeat' first
   | (with_reducible exact ih0 _ _ _ _ _ _ _ _ _ _ _ _ _)
   | (with_reducible exact ih1 _ _ _ _ _ _ _ _ _ _ _ _ _)
   | (with_reducible exact ih2 _ _ _ _ _ _ _ _ _ _ _ _ _)
   | (with_reducible exact ih3 _ _ _ _ _ _ _ _ _ _ _ _ _)
   | (with_reducible exact spec_EqualStores.mono _ _ _)
   | (with_reducible exact spec_EqualTransactions.mono _ _ _ _ _ _ _ _ _ _ _ _ _ _ _ _ _ _ _)
   | (with_reducible exact LeO.refl _)
   | (with_reducible exact LeO.none _)
   | (with_reducible refine LeO.ite ?_ ?_)
   | (with_reducible refine LeO.bind ?_ (fun _ => ?_))
   | exact ih0 _ _ _ _ _ _ _ _ _ _ _ _ _
   | exact ih1 _ _ _ _ _ _ _ _ _ _ _ _ _
   | exact ih2 _ _ _ _ _ _ _ _ _ _ _ _ _
   | exact ih3 _ _ _ _ _ _ _ _ _ _ _ _ _
   | exact spec_EqualStores.mono _ _ _
   | exact spec_EqualTransactions.mono _ _ _ _ _ _ _ _ _ _ _ _ _ _ _ _ _ _ _
   | exact LeO.none _
   | refine LeO.ite ?_ ?_
   | refine LeO.bind ?_ (fun _ => ?_)
theorem spec_EqualEngines.mono : ∀ a0 a1 a2 a3 a4 a5 a6 a7 a8 a9 a10 a11 k, LeO (spec_EqualEngines.f k a0 a1 a2 a3 a4 a5 a6 a7 a8 a9 a10 a11) (spec_EqualEngines.f (k + 1) a0 a1 a2 a3 a4 a5 a6 a7 a8 a9 a10 a11) := by
 intro a0 a1 a2 a3 a4 a5 a6 a7 a8 a9 a10 a11 k
 obtain ⟨ih0, ih1, ih2, ih3⟩ := spec_EqualEngines.mono_l k
 unfold spec_EqualEngines.f
 repeat' first
   | (with_reducible exact ih0 _ _ _ _ _ _ _ _ _ _ _ _ _)
   | (with_reducible exact ih1 _ _ _ _ _ _ _ _ _ _ _ _ _)
   | (with_reducible exact ih2 _ _ _ _ _ _ _ _ _ _ _ _ _)
   | (with_reducible exact ih3 _ _ _ _ _ _ _ _ _ _ _ _ _)
   | (with_reducible exact spec_EqualStores.mono _ _ _)
   | (with_reducible exact spec_EqualTransactions.mono _ _ _ _ _ _ _ _ _ _ _ _ _ _ _ _ _ _ _)
   | (with_reducible exact LeO.refl _)
   | (with_reducible exact LeO.none _)
   | (with_reducible refine LeO.ite ?_ ?_)
   | (with_reducible refine LeO.bind ?_ (fun _ => ?_))
   | exact ih0 _ _ _ _ _ _ _ _ _ _ _ _ _
   | exact ih1 _ _ _ _ _ _ _ _ _ _ _ _ _
   | exact ih2 _ _ _ _ _ _ _ _ _ _ _ _ _
   | exact ih3 _ _ _ _ _ _ _ _ _ _ _ _ _
   | exact spec_EqualStores.mono _ _ _
   | exact spec_EqualTransactions.mono _ _ _ _ _ _ _ _ _ _ _ _ _ _ _ _ _ _ _
   | exact LeO.none _
   | refine LeO.ite ?_ ?_
   | refine LeO.bind ?_ (fun _ => ?_)
def spec_EqualEngines.T6 : Bool × List (List Nat × List Nat) := (true, [([], []), ([0], [0]), ([], []), ([1, 2], [1, 2]), ([3], [3]), ([], []), ([5], [5]), ([], []), ([6, 7], [6, 7]), ([8], [8]), ([4, 9], [4, 9]), ([10], [10])])
def spec_EqualEngines.B6 : List Nat := [0, 1, 0, 7, 15, 0, 32, 0, 224, 480, 1023, 2047]
theorem spec_EqualEngines.tab6 : rtab .any (opsOf Try.f47 6) = spec_EqualEngines.T6 := by kernel_rfl
theorem spec_EqualEngines.bits6 : waitsOk spec_EqualEngines.T6.2 spec_EqualEngines.B6 = true := by kernel_rfl
def spec_EqualEngines.T11 : Bool × List (List Nat × List Nat) := (true, [([], []), ([0], [0]), ([], []), ([1, 2], [1, 2]), ([3], [3]), ([], []), ([5], [5]), ([], []), ([6, 7], [6, 7]), ([8], [8]), ([4, 9], [4, 9])])
def spec_EqualEngines.B11 : List Nat := [0, 1, 0, 7, 15, 0, 32, 0, 224, 480, 1023]
theorem spec_EqualEngines.tab11 : rtab .any (opsOf Try.f47 11) = spec_EqualEngines.T11 := by kernel_rfl
theorem spec_EqualEngines.bits11 : waitsOk spec_EqualEngines.T11.2 spec_EqualEngines.B11 = true := by kernel_rfl
def spec_EqualEngines.T16 : Bool × List (List Nat × List Nat) := (true, [([], []), ([0], [0]), ([], []), ([1, 2], [1, 2]), ([3], [3]), ([], []), ([5], [5]), ([], []), ([6, 7], [6, 7]), ([8], [8]), ([4, 9], [4, 9])])
def spec_EqualEngines.B16 : List Nat := [0, 1, 0, 7, 15, 0, 32, 0, 224, 480, 1023]
theorem spec_EqualEngines.tab16 : rtab .any (opsOf Try.f47 16) = spec_EqualEngines.T16 := by kernel_rfl
theorem spec_EqualEngines.bits16 : waitsOk spec_EqualEngines.T16.2 spec_EqualEngines.B16 = true := by kernel_rfl
set_option maxHeartbeats 8000000 in
set_option maxRecDepth 100000 in
theorem spec_EqualEngines.calls (k : Nat) (a0_0 : Bool) (A0_1 : Option Addr) (c0_1 : Nat) (l0_1 : List (List (S76))) (A0_2 : Option Addr) (c0_2 : Nat) (l0_2 : List (S68)) (A0_3 : Option Addr) (c0_3 : Nat) (l0_3 : List (S150)) (A0_4 : Option Addr) (c0_4 : Nat) (l0_4 : List (S36)) (a0_5 : Int) (a1_0 : Bool) (A1_1 : Option Addr) (c1_1 : Nat) (l1_1 : List (List (S76))) (A1_2 : Option Addr) (c1_2 : Nat) (l1_2 : List (S68)) (A1_3 : Option Addr) (c1_3 : Nat) (l1_3 : List (S150)) (A1_4 : Option Addr) (c1_4 : Nat) (l1_4 : List (S36)) (a1_5 : Int) (r : Bool) (w : World) (hr0_1 : Kd.C (Kd.slice 76 k76) w A0_1 l0_1.length l0_1) (hc0_1 : l0_1.length ≤ c0_1) (hr0_2 : Kd.C k68 w A0_2 l0_2.length l0_2) (hc0_2 : l0_2.length ≤ c0_2) (hr0_3 : Kd.C k150 w A0_3 l0_3.length l0_3) (hc0_3 : l0_3.length ≤ c0_3) (hr0_4 : Kd.C k36 w A0_4 l0_4.length l0_4) (hc0_4 : l0_4.length ≤ c0_4) (hr1_1 : Kd.C (Kd.slice 76 k76) w A1_1 l1_1.length l1_1) (hc1_1 : l1_1.length ≤ c1_1) (hr1_2 : Kd.C k68 w A1_2 l1_2.length l1_2) (hc1_2 : l1_2.length ≤ c1_2) (hr1_3 : Kd.C k150 w A1_3 l1_3.length l1_3) (hc1_3 : l1_3.length ≤ c1_3) (hr1_4 : Kd.C k36 w A1_4 l1_4.length l1_4) (hc1_4 : l1_4.length ≤ c1_4) (h : spec_EqualEngines.f k a0_0 l0_1 l0_2 l0_3 l0_4 a0_5 a1_0 l1_1 l1_2 l1_3 l1_4 a1_5 = some r) :
  Calls Try.prog 47 #[.agg #[.bool a0_0, .slice A0_1 l0_1.length c0_1, .slice A0_2 l0_2.length c0_2, .slice A0_3 l0_3.length c0_3, .slice A0_4 l0_4.length c0_4, .int .i64 a0_5], .agg #[.bool a1_0, .slice A1_1 l1_1.length c1_1, .slice A1_2 l1_2.length c1_2, .slice A1_3 l1_3.length c1_3, .slice A1_4 l1_4.length c1_4, .int .i64 a1_5]] w fun e w' => e = .returned (.bool r) ∧ Below w.heap.size w w' := by
 have hu53 := Try.underlying53
 have hu49 := Try.underlying49
 have hu68 := Try.underlying68
 have hu150 := Try.underlying150
 have hu36 := Try.underlying36
 have HR0_1 := AM_ hr0_1
 have HC0_1 := AM_ hc0_1
 clear hr0_1 hc0_1
 have HR0_2 := AM_ hr0_2
 have HC0_2 := AM_ hc0_2
 clear hr0_2 hc0_2
 have HR0_3 := AM_ hr0_3
 have HC0_3 := AM_ hc0_3
 clear hr0_3 hc0_3
 have HR0_4 := AM_ hr0_4
 have HC0_4 := AM_ hc0_4
 clear hr0_4 hc0_4
 have HR1_1 := AM_ hr1_1
 have HC1_1 := AM_ hc1_1
 clear hr1_1 hc1_1
 have HR1_2 := AM_ hr1_2
 have HC1_2 := AM_ hc1_2
 clear hr1_2 hc1_2
 have HR1_3 := AM_ hr1_3
 have HC1_3 := AM_ hc1_3
 clear hr1_3 hc1_3
 have HR1_4 := AM_ hr1_4
 have HC1_4 := AM_ hc1_4
 clear hr1_4 hc1_4
 have HB := AM_ (Below.refl w.heap.size w)
 have H : (if (a0_0 != a1_0) = true then (spec_EqualEngines.j0 k true a0_0 l0_1 l0_2 l0_3 l0_4 a0_5 a1_0 l1_1 l1_2 l1_3 l1_4 a1_5) else ((spec_EqualStores.f k l0_1 l1_1).bind fun t283 => (if t283 = true then (if (l0_2.length : Int) = (l1_2.length : Int) then (if (l0_3.length : Int) = (l1_3.length : Int) then (if (l0_4.length : Int) = (l1_4.length : Int) then (spec_EqualEngines.j0 k (a0_5 != a1_5) a0_0 l0_1 l0_2 l0_3 l0_4 a0_5 a1_0 l1_1 l1_2 l1_3 l1_4 a1_5) else (spec_EqualEngines.j0 k true a0_0 l0_1 l0_2 l0_3 l0_4 a0_5 a1_0 l1_1 l1_2 l1_3 l1_4 a1_5)) else (spec_EqualEngines.j0 k true a0_0 l0_1 l0_2 l0_3 l0_4 a0_5 a1_0 l1_1 l1_2 l1_3 l1_4 a1_5)) else (spec_EqualEngines.j0 k true a0_0 l0_1 l0_2 l0_3 l0_4 a0_5 a1_0 l1_1 l1_2 l1_3 l1_4 a1_5)) else (spec_EqualEngines.j0 k true a0_0 l0_1 l0_2 l0_3 l0_4 a0_5 a1_0 l1_1 l1_2 l1_3 l1_4 a1_5)))) = some r := h
 clear h
 have HC3 := AM_ H
 clear H
 go_enter Try.func47, Try.ntmps47
 go_upto_region 1 with (first | ((with_reducible refine gate_dst (N := 2) rfl ?_); (try (refine gate_guard (by rfl) ?_; dsimp only)); refine box_event ?hg (N := 2) ?hd (cs := #[.bool a0_0, .slice A0_1 l0_1.length c0_1, .slice A0_2 l0_2.length c0_2, .slice A0_3 l0_3.length c0_3, .slice A0_4 l0_4.length c0_4, .int .i64 a0_5]) (t := 53) ?hr ?_; (case hd => rfl); (case hg => rfl); (case hr => first | (go_simp; done) | (go_simp; rfl)); intro gb281 hg w4 hbox hb; have BK281 := AM_ (hbox); have GW281 := AM_ ((GS HB.out hg)); have GE281 := AM_ ((GS HB.out hg)); replace HB := AM_ (below_step (BT HB.out) hb); clear hb hbox hg) | ((with_reducible refine gate_dst (N := 3) rfl ?_); (try (refine gate_guard (by rfl) ?_; dsimp only)); refine box_event ?hg (N := 3) ?hd (cs := #[.bool a1_0, .slice A1_1 l1_1.length c1_1, .slice A1_2 l1_2.length c1_2, .slice A1_3 l1_3.length c1_3, .slice A1_4 l1_4.length c1_4, .int .i64 a1_5]) (t := 53) ?hr ?_; (case hd => rfl); (case hg => rfl); (case hr => first | (go_simp; done) | (go_simp; rfl)); intro gb282 hg w5 hbox hb; have BK282 := AM_ (hbox); have GW282 := AM_ ((GS HB.out hg)); have GE282 := AM_ ((GS HB.out hg)); replace HB := AM_ (below_step (BT HB.out) hb); have NB281_282 := AM_ ((NL BK281.out hg)); have NB282_281 := AM_ ((NG BK281.out hg)); replace BK281 := AM_ (BB BK281.out hb); clear hb hbox hg))
 (try simp only [pA, pS, pZ, pK])
 go_cut [54] (fun v54 wc => ∃ (kq : Nat) (x54_2 : Bool), v54 = .bool x54_2 ∧ Aside0 (spec_EqualEngines.j0 kq x54_2 a0_0 l0_1 l0_2 l0_3 l0_4 a0_5 a1_0 l1_1 l1_2 l1_3 l1_4 a1_5 = some r) ∧ Aside0 (kq ≤ k) ∧ Aside0 (wc.heap[gb281]? = some (.cells #[.bool a0_0, (.slice A0_1 l0_1.length c0_1), (.slice A0_2 l0_2.length c0_2), (.slice A0_3 l0_3.length c0_3), (.slice A0_4 l0_4.length c0_4), .int .i64 a0_5] 53 (0, 0))) ∧ Aside0 (wc.heap[gb282]? = some (.cells #[.bool a1_0, (.slice A1_1 l1_1.length c1_1), (.slice A1_2 l1_2.length c1_2), (.slice A1_3 l1_3.length c1_3), (.slice A1_4 l1_4.length c1_4), .int .i64 a1_5] 53 (0, 0))) ∧ Aside0 (Below w.heap.size w wc))
 case first =>
  have H := HC3.out
  clear HC3
  by_cases c6 : (a0_0 != a1_0) = true
  ·rw [if_pos c6] at H
   have c6b0 : (a0_0 != a1_0) = true := c6
   (try (have c6b1 : decide (a0_0 = a1_0) = false := by simpa using c6))
   (try (have c6b2 : (a0_0 == a1_0) = false := by simpa using c6))
   (try (have c6b3 : ¬ (a0_0 = a1_0) := by simpa using c6))
   clear c6
   (first | rw [c6b0] | (simp only [i64_w, i32_w]; rw [c6b0]) | skip)
   have H' := AM_ H
   clear H
   have hnb7 := NB281_282.out
   have hnc7 := NB282_281.out
   obtain ⟨hcz8_0, hcz8_1, hcz8_2, hcz8_3, hcz8_4, hcz8_5, hfz8_0, hfz8_1, hfz8_2, hfz8_3, hfz8_4, hfz8_5⟩ := bk6 BK281.out
   obtain ⟨hcz9_0, hcz9_1, hcz9_2, hcz9_3, hcz9_4, hcz9_5, hfz9_0, hfz9_1, hfz9_2, hfz9_3, hfz9_4, hfz9_5⟩ := bk6 BK282.out
   go_wp2
   go_meet
   case rel => exact ⟨_, (true), (by first | rfl | (simp; done) | (simp [*]; done)), H', ⟨by first | omega | exact Nat.le_refl _⟩, ⟨BH BK281.out⟩, ⟨BH BK282.out⟩, ⟨BT HB.out⟩⟩
  rw [if_neg c6] at H
  have c6b0 : (a0_0 != a1_0) = false := by simpa using c6
  (try (have c6b1 : decide (a0_0 = a1_0) = true := by simpa using c6))
  (try (have c6b2 : (a0_0 == a1_0) = true := by simpa using c6))
  clear c6
  (first | rw [c6b0] | (simp only [i64_w, i32_w]; rw [c6b0]) | skip)
  replace H := Option.bind_eq_some_iff.mp H
  obtain ⟨t283, A100, H⟩ := H
  replace H : (if t283 = true then (if (l0_2.length : Int) = (l1_2.length : Int) then (if (l0_3.length : Int) = (l1_3.length : Int) then (if (l0_4.length : Int) = (l1_4.length : Int) then (spec_EqualEngines.j0 k (a0_5 != a1_5) a0_0 l0_1 l0_2 l0_3 l0_4 a0_5 a1_0 l1_1 l1_2 l1_3 l1_4 a1_5) else (spec_EqualEngines.j0 k true a0_0 l0_1 l0_2 l0_3 l0_4 a0_5 a1_0 l1_1 l1_2 l1_3 l1_4 a1_5)) else (spec_EqualEngines.j0 k true a0_0 l0_1 l0_2 l0_3 l0_4 a0_5 a1_0 l1_1 l1_2 l1_3 l1_4 a1_5)) else (spec_EqualEngines.j0 k true a0_0 l0_1 l0_2 l0_3 l0_4 a0_5 a1_0 l1_1 l1_2 l1_3 l1_4 a1_5)) else (spec_EqualEngines.j0 k true a0_0 l0_1 l0_2 l0_3 l0_4 a0_5 a1_0 l1_1 l1_2 l1_3 l1_4 a1_5)) = some r := H
  have A10 := AM_ A100
  clear A100
  by_cases c11 : t283 = true
  rotate_left
  ·replace c11 := Bool.eq_false_iff.mpr c11
   subst c11
   have H1 : (spec_EqualEngines.j0 k true a0_0 l0_1 l0_2 l0_3 l0_4 a0_5 a1_0 l1_1 l1_2 l1_3 l1_4 a1_5) = some r := by rw [if_neg (show ¬ (false = true) by decide)] at H; exact H
   clear H
   have H := H1
   clear H1
   have H' := AM_ H
   clear H
   have hnb39 := NB281_282.out
   have hnc39 := NB282_281.out
   obtain ⟨hcz40_0, hcz40_1, hcz40_2, hcz40_3, hcz40_4, hcz40_5, hfz40_0, hfz40_1, hfz40_2, hfz40_3, hfz40_4, hfz40_5⟩ := bk6 BK281.out
   obtain ⟨hcz41_0, hcz41_1, hcz41_2, hcz41_3, hcz41_4, hcz41_5, hfz41_0, hfz41_1, hfz41_2, hfz41_3, hfz41_4, hfz41_5⟩ := bk6 BK282.out
   go_wp2_with (first | (go_at_call 122; (with_reducible refine (spec_EqualStores.calls k _ _ l0_1 _ _ l1_1 false _ ?side1 ?side2 ?side3 ?side4 A10.out).mono ?_); (case side1 => exact CB HR0_1.out HB.out); (case side2 => exact HC0_1.out); (case side3 => exact CB HR1_1.out HB.out); (case side4 => exact HC1_1.out); rintro e w42 ⟨rfl, hb⟩; replace BK281 := AM_ (BB BK281.out hb); replace BK282 := AM_ (BB BK282.out hb); replace HB := AM_ (below_step (BT HB.out) hb); (try clear hb); (try clear hb2); (try clear hk); (try clear hi)))
   go_meet
   case rel => exact ⟨_, (true), (by first | rfl | (simp; done) | (simp [*]; done)), H', ⟨by first | omega | exact Nat.le_refl _⟩, ⟨BH BK281.out⟩, ⟨BH BK282.out⟩, ⟨BT HB.out⟩⟩
  subst c11
  have H1 : (if (l0_2.length : Int) = (l1_2.length : Int) then (if (l0_3.length : Int) = (l1_3.length : Int) then (if (l0_4.length : Int) = (l1_4.length : Int) then (spec_EqualEngines.j0 k (a0_5 != a1_5) a0_0 l0_1 l0_2 l0_3 l0_4 a0_5 a1_0 l1_1 l1_2 l1_3 l1_4 a1_5) else (spec_EqualEngines.j0 k true a0_0 l0_1 l0_2 l0_3 l0_4 a0_5 a1_0 l1_1 l1_2 l1_3 l1_4 a1_5)) else (spec_EqualEngines.j0 k true a0_0 l0_1 l0_2 l0_3 l0_4 a0_5 a1_0 l1_1 l1_2 l1_3 l1_4 a1_5)) else (spec_EqualEngines.j0 k true a0_0 l0_1 l0_2 l0_3 l0_4 a0_5 a1_0 l1_1 l1_2 l1_3 l1_4 a1_5)) = some r := by rw [if_pos rfl] at H; exact H
  clear H
  have H := H1
  clear H1
  by_cases c12 : (l0_2.length : Int) = (l1_2.length : Int)
  rotate_left
  ·rw [if_neg c12] at H
   have c12b0 : ((l0_2.length : Int) == (l1_2.length : Int)) = false := beq_eq_false_iff_ne.mpr c12
   have c12b1 : ((l0_2.length : Int) != (l1_2.length : Int)) = true := bne_iff_ne.mpr c12
   have c12b2 : (l0_2.length == l1_2.length) = false := by first | simpa using c12 | (simp at c12 ⊢; omega)
   have H' := AM_ H
   clear H
   have hnb33 := NB281_282.out
   have hnc33 := NB282_281.out
   obtain ⟨hcz34_0, hcz34_1, hcz34_2, hcz34_3, hcz34_4, hcz34_5, hfz34_0, hfz34_1, hfz34_2, hfz34_3, hfz34_4, hfz34_5⟩ := bk6 BK281.out
   obtain ⟨hcz35_0, hcz35_1, hcz35_2, hcz35_3, hcz35_4, hcz35_5, hfz35_0, hfz35_1, hfz35_2, hfz35_3, hfz35_4, hfz35_5⟩ := bk6 BK282.out
   go_wp2_with (first | (go_at_call 122; (with_reducible refine (spec_EqualStores.calls k _ _ l0_1 _ _ l1_1 true _ ?side1 ?side2 ?side3 ?side4 A10.out).mono ?_); (case side1 => exact CB HR0_1.out HB.out); (case side2 => exact HC0_1.out); (case side3 => exact CB HR1_1.out HB.out); (case side4 => exact HC1_1.out); rintro e w36 ⟨rfl, hb⟩; replace BK281 := AM_ (BB BK281.out hb); replace BK282 := AM_ (BB BK282.out hb); replace HB := AM_ (below_step (BT HB.out) hb); (try clear hb); (try clear hb2); (try clear hk); (try clear hi); obtain ⟨hcz37_0, hcz37_1, hcz37_2, hcz37_3, hcz37_4, hcz37_5, hfz37_0, hfz37_1, hfz37_2, hfz37_3, hfz37_4, hfz37_5⟩ := bk6 BK281.out; obtain ⟨hcz38_0, hcz38_1, hcz38_2, hcz38_3, hcz38_4, hcz38_5, hfz38_0, hfz38_1, hfz38_2, hfz38_3, hfz38_4, hfz38_5⟩ := bk6 BK282.out))
   go_meet
   case rel => exact ⟨_, (true), (by first | rfl | (simp; done) | (simp [*]; done)), H', ⟨by first | omega | exact Nat.le_refl _⟩, ⟨BH BK281.out⟩, ⟨BH BK282.out⟩, ⟨BT HB.out⟩⟩
  rw [if_pos c12] at H
  have c12b0 : ((l0_2.length : Int) == (l1_2.length : Int)) = true := beq_iff_eq.mpr c12
  have c12b1 : ((l0_2.length : Int) != (l1_2.length : Int)) = false := bne_eq_false_iff_eq.mpr c12
  have c12b2 : (l0_2.length == l1_2.length) = true := by first | simpa using c12 | (simp at c12 ⊢; omega)
  clear c12
  by_cases c13 : (l0_3.length : Int) = (l1_3.length : Int)
  rotate_left
  ·rw [if_neg c13] at H
   have c13b0 : ((l0_3.length : Int) == (l1_3.length : Int)) = false := beq_eq_false_iff_ne.mpr c13
   have c13b1 : ((l0_3.length : Int) != (l1_3.length : Int)) = true := bne_iff_ne.mpr c13
   have c13b2 : (l0_3.length == l1_3.length) = false := by first | simpa using c13 | (simp at c13 ⊢; omega)
   have H' := AM_ H
   clear H
   have hnb27 := NB281_282.out
   have hnc27 := NB282_281.out
   obtain ⟨hcz28_0, hcz28_1, hcz28_2, hcz28_3, hcz28_4, hcz28_5, hfz28_0, hfz28_1, hfz28_2, hfz28_3, hfz28_4, hfz28_5⟩ := bk6 BK281.out
   obtain ⟨hcz29_0, hcz29_1, hcz29_2, hcz29_3, hcz29_4, hcz29_5, hfz29_0, hfz29_1, hfz29_2, hfz29_3, hfz29_4, hfz29_5⟩ := bk6 BK282.out
   go_wp2_with (first | (go_at_call 122; (with_reducible refine (spec_EqualStores.calls k _ _ l0_1 _ _ l1_1 true _ ?side1 ?side2 ?side3 ?side4 A10.out).mono ?_); (case side1 => exact CB HR0_1.out HB.out); (case side2 => exact HC0_1.out); (case side3 => exact CB HR1_1.out HB.out); (case side4 => exact HC1_1.out); rintro e w30 ⟨rfl, hb⟩; replace BK281 := AM_ (BB BK281.out hb); replace BK282 := AM_ (BB BK282.out hb); replace HB := AM_ (below_step (BT HB.out) hb); (try clear hb); (try clear hb2); (try clear hk); (try clear hi); obtain ⟨hcz31_0, hcz31_1, hcz31_2, hcz31_3, hcz31_4, hcz31_5, hfz31_0, hfz31_1, hfz31_2, hfz31_3, hfz31_4, hfz31_5⟩ := bk6 BK281.out; obtain ⟨hcz32_0, hcz32_1, hcz32_2, hcz32_3, hcz32_4, hcz32_5, hfz32_0, hfz32_1, hfz32_2, hfz32_3, hfz32_4, hfz32_5⟩ := bk6 BK282.out))
   go_meet
   case rel => exact ⟨_, (true), (by first | rfl | (simp; done) | (simp [*]; done)), H', ⟨by first | omega | exact Nat.le_refl _⟩, ⟨BH BK281.out⟩, ⟨BH BK282.out⟩, ⟨BT HB.out⟩⟩
  rw [if_pos c13] at H
  have c13b0 : ((l0_3.length : Int) == (l1_3.length : Int)) = true := beq_iff_eq.mpr c13
  have c13b1 : ((l0_3.length : Int) != (l1_3.length : Int)) = false := bne_eq_false_iff_eq.mpr c13
  have c13b2 : (l0_3.length == l1_3.length) = true := by first | simpa using c13 | (simp at c13 ⊢; omega)
  clear c13
  by_cases c14 : (l0_4.length : Int) = (l1_4.length : Int)
  rotate_left
  ·rw [if_neg c14] at H
   have c14b0 : ((l0_4.length : Int) == (l1_4.length : Int)) = false := beq_eq_false_iff_ne.mpr c14
   have c14b1 : ((l0_4.length : Int) != (l1_4.length : Int)) = true := bne_iff_ne.mpr c14
   have c14b2 : (l0_4.length == l1_4.length) = false := by first | simpa using c14 | (simp at c14 ⊢; omega)
   have H' := AM_ H
   clear H
   have hnb21 := NB281_282.out
   have hnc21 := NB282_281.out
   obtain ⟨hcz22_0, hcz22_1, hcz22_2, hcz22_3, hcz22_4, hcz22_5, hfz22_0, hfz22_1, hfz22_2, hfz22_3, hfz22_4, hfz22_5⟩ := bk6 BK281.out
   obtain ⟨hcz23_0, hcz23_1, hcz23_2, hcz23_3, hcz23_4, hcz23_5, hfz23_0, hfz23_1, hfz23_2, hfz23_3, hfz23_4, hfz23_5⟩ := bk6 BK282.out
   go_wp2_with (first | (go_at_call 122; (with_reducible refine (spec_EqualStores.calls k _ _ l0_1 _ _ l1_1 true _ ?side1 ?side2 ?side3 ?side4 A10.out).mono ?_); (case side1 => exact CB HR0_1.out HB.out); (case side2 => exact HC0_1.out); (case side3 => exact CB HR1_1.out HB.out); (case side4 => exact HC1_1.out); rintro e w24 ⟨rfl, hb⟩; replace BK281 := AM_ (BB BK281.out hb); replace BK282 := AM_ (BB BK282.out hb); replace HB := AM_ (below_step (BT HB.out) hb); (try clear hb); (try clear hb2); (try clear hk); (try clear hi); obtain ⟨hcz25_0, hcz25_1, hcz25_2, hcz25_3, hcz25_4, hcz25_5, hfz25_0, hfz25_1, hfz25_2, hfz25_3, hfz25_4, hfz25_5⟩ := bk6 BK281.out; obtain ⟨hcz26_0, hcz26_1, hcz26_2, hcz26_3, hcz26_4, hcz26_5, hfz26_0, hfz26_1, hfz26_2, hfz26_3, hfz26_4, hfz26_5⟩ := bk6 BK282.out))
   go_meet
   case rel => exact ⟨_, (true), (by first | rfl | (simp; done) | (simp [*]; done)), H', ⟨by first | omega | exact Nat.le_refl _⟩, ⟨BH BK281.out⟩, ⟨BH BK282.out⟩, ⟨BT HB.out⟩⟩
  rw [if_pos c14] at H
  have c14b0 : ((l0_4.length : Int) == (l1_4.length : Int)) = true := beq_iff_eq.mpr c14
  have c14b1 : ((l0_4.length : Int) != (l1_4.length : Int)) = false := bne_eq_false_iff_eq.mpr c14
  have c14b2 : (l0_4.length == l1_4.length) = true := by first | simpa using c14 | (simp at c14 ⊢; omega)
  clear c14
  have H' := AM_ H
  clear H
  have hnb15 := NB281_282.out
  have hnc15 := NB282_281.out
  obtain ⟨hcz16_0, hcz16_1, hcz16_2, hcz16_3, hcz16_4, hcz16_5, hfz16_0, hfz16_1, hfz16_2, hfz16_3, hfz16_4, hfz16_5⟩ := bk6 BK281.out
  obtain ⟨hcz17_0, hcz17_1, hcz17_2, hcz17_3, hcz17_4, hcz17_5, hfz17_0, hfz17_1, hfz17_2, hfz17_3, hfz17_4, hfz17_5⟩ := bk6 BK282.out
  go_wp2_with (first | (go_at_call 122; (with_reducible refine (spec_EqualStores.calls k _ _ l0_1 _ _ l1_1 true _ ?side1 ?side2 ?side3 ?side4 A10.out).mono ?_); (case side1 => exact CB HR0_1.out HB.out); (case side2 => exact HC0_1.out); (case side3 => exact CB HR1_1.out HB.out); (case side4 => exact HC1_1.out); rintro e w18 ⟨rfl, hb⟩; replace BK281 := AM_ (BB BK281.out hb); replace BK282 := AM_ (BB BK282.out hb); replace HB := AM_ (below_step (BT HB.out) hb); (try clear hb); (try clear hb2); (try clear hk); (try clear hi); obtain ⟨hcz19_0, hcz19_1, hcz19_2, hcz19_3, hcz19_4, hcz19_5, hfz19_0, hfz19_1, hfz19_2, hfz19_3, hfz19_4, hfz19_5⟩ := bk6 BK281.out; obtain ⟨hcz20_0, hcz20_1, hcz20_2, hcz20_3, hcz20_4, hcz20_5, hfz20_0, hfz20_1, hfz20_2, hfz20_3, hfz20_4, hfz20_5⟩ := bk6 BK282.out))
  go_meet
  case rel => exact ⟨_, ((a0_5 != a1_5)), (by first | rfl | (simp; done) | (simp [*]; done)), H', ⟨by first | omega | exact Nat.le_refl _⟩, ⟨BH BK281.out⟩, ⟨BH BK282.out⟩, ⟨BT HB.out⟩⟩
 case rest =>
  clear HC3
  try clear c1
  try clear c2
  try clear p2
  try clear c3
  try clear c4
  try clear c6
  try clear c6b0
  try clear c6b1
  try clear c6b2
  try clear c7
  try clear c11
  try clear c12
  try clear c12b0
  try clear c12b1
  try clear c12b2
  try clear c13
  try clear c13b0
  try clear c13b1
  try clear c13b2
  try clear c14
  try clear c14b0
  try clear c14b1
  try clear c14b2
  try clear c15
  try clear c21
  try clear c27
  try clear c33
  try clear c39
  try clear hcz16_0
  try clear hcz16_1
  try clear hcz16_2
  try clear hcz16_3
  try clear hcz16_4
  try clear hcz16_5
  try clear hcz17_0
  try clear hcz17_1
  try clear hcz17_2
  try clear hcz17_3
  try clear hcz17_4
  try clear hcz17_5
  try clear hcz19_0
  try clear hcz19_1
  try clear hcz19_2
  try clear hcz19_3
  try clear hcz19_4
  try clear hcz19_5
  try clear hcz20_0
  try clear hcz20_1
  try clear hcz20_2
  try clear hcz20_3
  try clear hcz20_4
  try clear hcz20_5
  try clear hcz22_0
  try clear hcz22_1
  try clear hcz22_2
  try clear hcz22_3
  try clear hcz22_4
  try clear hcz22_5
  try clear hcz23_0
  try clear hcz23_1
  try clear hcz23_2
  try clear hcz23_3
  try clear hcz23_4
  try clear hcz23_5
  try clear hcz25_0
  try clear hcz25_1
  try clear hcz25_2
  try clear hcz25_3
  try clear hcz25_4
  try clear hcz25_5
  try clear hcz26_0
  try clear hcz26_1
  try clear hcz26_2
  try clear hcz26_3
  try clear hcz26_4
  try clear hcz26_5
  try clear hcz28_0
  try clear hcz28_1
  try clear hcz28_2
  try clear hcz28_3
  try clear hcz28_4
  try clear hcz28_5
  try clear hcz29_0
  try clear hcz29_1
  try clear hcz29_2
  try clear hcz29_3
  try clear hcz29_4
  try clear hcz29_5
  try clear hcz31_0
  try clear hcz31_1
  try clear hcz31_2
  try clear hcz31_3
  try clear hcz31_4
  try clear hcz31_5
  try clear hcz32_0
  try clear hcz32_1
  try clear hcz32_2
  try clear hcz32_3
  try clear hcz32_4
  try clear hcz32_5
  try clear hcz34_0
  try clear hcz34_1
  try clear hcz34_2
  try clear hcz34_3
  try clear hcz34_4
  try clear hcz34_5
  try clear hcz35_0
  try clear hcz35_1
  try clear hcz35_2
  try clear hcz35_3
  try clear hcz35_4
  try clear hcz35_5
  try clear hcz37_0
  try clear hcz37_1
  try clear hcz37_2
  try clear hcz37_3
  try clear hcz37_4
  try clear hcz37_5
  try clear hcz38_0
  try clear hcz38_1
  try clear hcz38_2
  try clear hcz38_3
  try clear hcz38_4
  try clear hcz38_5
  try clear hcz40_0
  try clear hcz40_1
  try clear hcz40_2
  try clear hcz40_3
  try clear hcz40_4
  try clear hcz40_5
  try clear hcz41_0
  try clear hcz41_1
  try clear hcz41_2
  try clear hcz41_3
  try clear hcz41_4
  try clear hcz41_5
  try clear hcz8_0
  try clear hcz8_1
  try clear hcz8_2
  try clear hcz8_3
  try clear hcz8_4
  try clear hcz8_5
  try clear hcz9_0
  try clear hcz9_1
  try clear hcz9_2
  try clear hcz9_3
  try clear hcz9_4
  try clear hcz9_5
  try clear hfz16_0
  try clear hfz16_1
  try clear hfz16_2
  try clear hfz16_3
  try clear hfz16_4
  try clear hfz16_5
  try clear hfz17_0
  try clear hfz17_1
  try clear hfz17_2
  try clear hfz17_3
  try clear hfz17_4
  try clear hfz17_5
  try clear hfz19_0
  try clear hfz19_1
  try clear hfz19_2
  try clear hfz19_3
  try clear hfz19_4
  try clear hfz19_5
  try clear hfz20_0
  try clear hfz20_1
  try clear hfz20_2
  try clear hfz20_3
  try clear hfz20_4
  try clear hfz20_5
  try clear hfz22_0
  try clear hfz22_1
  try clear hfz22_2
  try clear hfz22_3
  try clear hfz22_4
  try clear hfz22_5
  try clear hfz23_0
  try clear hfz23_1
  try clear hfz23_2
  try clear hfz23_3
  try clear hfz23_4
  try clear hfz23_5
  try clear hfz25_0
  try clear hfz25_1
  try clear hfz25_2
  try clear hfz25_3
  try clear hfz25_4
  try clear hfz25_5
  try clear hfz26_0
  try clear hfz26_1
  try clear hfz26_2
  try clear hfz26_3
  try clear hfz26_4
  try clear hfz26_5
  try clear hfz28_0
  try clear hfz28_1
  try clear hfz28_2
  try clear hfz28_3
  try clear hfz28_4
  try clear hfz28_5
  try clear hfz29_0
  try clear hfz29_1
  try clear hfz29_2
  try clear hfz29_3
  try clear hfz29_4
  try clear hfz29_5
  try clear hfz31_0
  try clear hfz31_1
  try clear hfz31_2
  try clear hfz31_3
  try clear hfz31_4
  try clear hfz31_5
  try clear hfz32_0
  try clear hfz32_1
  try clear hfz32_2
  try clear hfz32_3
  try clear hfz32_4
  try clear hfz32_5
  try clear hfz34_0
  try clear hfz34_1
  try clear hfz34_2
  try clear hfz34_3
  try clear hfz34_4
  try clear hfz34_5
  try clear hfz35_0
  try clear hfz35_1
  try clear hfz35_2
  try clear hfz35_3
  try clear hfz35_4
  try clear hfz35_5
  try clear hfz37_0
  try clear hfz37_1
  try clear hfz37_2
  try clear hfz37_3
  try clear hfz37_4
  try clear hfz37_5
  try clear hfz38_0
  try clear hfz38_1
  try clear hfz38_2
  try clear hfz38_3
  try clear hfz38_4
  try clear hfz38_5
  try clear hfz40_0
  try clear hfz40_1
  try clear hfz40_2
  try clear hfz40_3
  try clear hfz40_4
  try clear hfz40_5
  try clear hfz41_0
  try clear hfz41_1
  try clear hfz41_2
  try clear hfz41_3
  try clear hfz41_4
  try clear hfz41_5
  try clear hfz8_0
  try clear hfz8_1
  try clear hfz8_2
  try clear hfz8_3
  try clear hfz8_4
  try clear hfz8_5
  try clear hfz9_0
  try clear hfz9_1
  try clear hfz9_2
  try clear hfz9_3
  try clear hfz9_4
  try clear hfz9_5
  obtain ⟨kq, x54_2, rfl, HA, HJ2, BK281, BK282, HB⟩ := hcut
  cases kq with
  | zero => exact absurd HA.out (by simp [spec_EqualEngines.j0])
  | succ kj2 =>
   have H := HA.out
   clear HA
   simp only [spec_EqualEngines.j0] at H
   by_cases c43 : x54_2 = true
   ·subst c43
    have H1 : (some false) = some r := by rw [if_pos rfl] at H; exact H
    clear H
    have H := H1
    clear H1
    obtain rfl := Option.some.inj H
    go_wp2
    go_ret
    exact QT (BT HB.out)
   replace c43 := Bool.eq_false_iff.mpr c43
   subst c43
   have H1 : (spec_EqualEngines.l0 kj2 0 a0_0 l0_1 l0_2 l0_3 l0_4 a0_5 a1_0 l1_1 l1_2 l1_3 l1_4 a1_5) = some r := by rw [if_neg (show ¬ (false = true) by decide)] at H; exact H
   clear H
   have H := H1
   clear H1
   have H' := AM_ H
   clear H
   go_wp2
   go_loopg [5] kj2 (fun kq v5 w' => ∃ (x5_2 : Int), v5 = .int .i64 x5_2 ∧ Aside0 (spec_EqualEngines.l0 kq x5_2 a0_0 l0_1 l0_2 l0_3 l0_4 a0_5 a1_0 l1_1 l1_2 l1_3 l1_4 a1_5 = some r) ∧ Aside0 (kq ≤ kj2) ∧ Aside0 (w'.heap[gb281]? = some (.cells #[.bool a0_0, (.slice A0_1 l0_1.length c0_1), (.slice A0_2 l0_2.length c0_2), (.slice A0_3 l0_3.length c0_3), (.slice A0_4 l0_4.length c0_4), .int .i64 a0_5] 53 (0, 0))) ∧ Aside0 (w'.heap[gb282]? = some (.cells #[.bool a1_0, (.slice A1_1 l1_1.length c1_1), (.slice A1_2 l1_2.length c1_2), (.slice A1_3 l1_3.length c1_3), (.slice A1_4 l1_4.length c1_4), .int .i64 a1_5] 53 (0, 0))) ∧ Aside0 (Below w.heap.size w w'))
   case atStart => exact ⟨(0), (by first | rfl | (simp; done) | (simp [*]; done)), H', ⟨Nat.le_refl _⟩, ⟨BH BK281.out⟩, ⟨BH BK282.out⟩, ⟨BT HB.out⟩⟩
   case round =>
    clear H'
    try clear c1
    try clear c2
    try clear p2
    try clear c3
    try clear c4
    try clear c6
    try clear c6b0
    try clear c6b1
    try clear c6b2
    try clear c7
    try clear c11
    try clear c12
    try clear c12b0
    try clear c12b1
    try clear c12b2
    try clear c13
    try clear c13b0
    try clear c13b1
    try clear c13b2
    try clear c14
    try clear c14b0
    try clear c14b1
    try clear c14b2
    try clear c15
    try clear c21
    try clear c27
    try clear c33
    try clear c39
    try clear c43
    try clear hcz16_0
    try clear hcz16_1
    try clear hcz16_2
    try clear hcz16_3
    try clear hcz16_4
    try clear hcz16_5
    try clear hcz17_0
    try clear hcz17_1
    try clear hcz17_2
    try clear hcz17_3
    try clear hcz17_4
    try clear hcz17_5
    try clear hcz19_0
    try clear hcz19_1
    try clear hcz19_2
    try clear hcz19_3
    try clear hcz19_4
    try clear hcz19_5
    try clear hcz20_0
    try clear hcz20_1
    try clear hcz20_2
    try clear hcz20_3
    try clear hcz20_4
    try clear hcz20_5
    try clear hcz22_0
    try clear hcz22_1
    try clear hcz22_2
    try clear hcz22_3
    try clear hcz22_4
    try clear hcz22_5
    try clear hcz23_0
    try clear hcz23_1
    try clear hcz23_2
    try clear hcz23_3
    try clear hcz23_4
    try clear hcz23_5
    try clear hcz25_0
    try clear hcz25_1
    try clear hcz25_2
    try clear hcz25_3
    try clear hcz25_4
    try clear hcz25_5
    try clear hcz26_0
    try clear hcz26_1
    try clear hcz26_2
    try clear hcz26_3
    try clear hcz26_4
    try clear hcz26_5
    try clear hcz28_0
    try clear hcz28_1
    try clear hcz28_2
    try clear hcz28_3
    try clear hcz28_4
    try clear hcz28_5
    try clear hcz29_0
    try clear hcz29_1
    try clear hcz29_2
    try clear hcz29_3
    try clear hcz29_4
    try clear hcz29_5
    try clear hcz31_0
    try clear hcz31_1
    try clear hcz31_2
    try clear hcz31_3
    try clear hcz31_4
    try clear hcz31_5
    try clear hcz32_0
    try clear hcz32_1
    try clear hcz32_2
    try clear hcz32_3
    try clear hcz32_4
    try clear hcz32_5
    try clear hcz34_0
    try clear hcz34_1
    try clear hcz34_2
    try clear hcz34_3
    try clear hcz34_4
    try clear hcz34_5
    try clear hcz35_0
    try clear hcz35_1
    try clear hcz35_2
    try clear hcz35_3
    try clear hcz35_4
    try clear hcz35_5
    try clear hcz37_0
    try clear hcz37_1
    try clear hcz37_2
    try clear hcz37_3
    try clear hcz37_4
    try clear hcz37_5
    try clear hcz38_0
    try clear hcz38_1
    try clear hcz38_2
    try clear hcz38_3
    try clear hcz38_4
    try clear hcz38_5
    try clear hcz40_0
    try clear hcz40_1
    try clear hcz40_2
    try clear hcz40_3
    try clear hcz40_4
    try clear hcz40_5
    try clear hcz41_0
    try clear hcz41_1
    try clear hcz41_2
    try clear hcz41_3
    try clear hcz41_4
    try clear hcz41_5
    try clear hcz8_0
    try clear hcz8_1
    try clear hcz8_2
    try clear hcz8_3
    try clear hcz8_4
    try clear hcz8_5
    try clear hcz9_0
    try clear hcz9_1
    try clear hcz9_2
    try clear hcz9_3
    try clear hcz9_4
    try clear hcz9_5
    try clear hfz16_0
    try clear hfz16_1
    try clear hfz16_2
    try clear hfz16_3
    try clear hfz16_4
    try clear hfz16_5
    try clear hfz17_0
    try clear hfz17_1
    try clear hfz17_2
    try clear hfz17_3
    try clear hfz17_4
    try clear hfz17_5
    try clear hfz19_0
    try clear hfz19_1
    try clear hfz19_2
    try clear hfz19_3
    try clear hfz19_4
    try clear hfz19_5
    try clear hfz20_0
    try clear hfz20_1
    try clear hfz20_2
    try clear hfz20_3
    try clear hfz20_4
    try clear hfz20_5
    try clear hfz22_0
    try clear hfz22_1
    try clear hfz22_2
    try clear hfz22_3
    try clear hfz22_4
    try clear hfz22_5
    try clear hfz23_0
    try clear hfz23_1
    try clear hfz23_2
    try clear hfz23_3
    try clear hfz23_4
    try clear hfz23_5
    try clear hfz25_0
    try clear hfz25_1
    try clear hfz25_2
    try clear hfz25_3
    try clear hfz25_4
    try clear hfz25_5
    try clear hfz26_0
    try clear hfz26_1
    try clear hfz26_2
    try clear hfz26_3
    try clear hfz26_4
    try clear hfz26_5
    try clear hfz28_0
    try clear hfz28_1
    try clear hfz28_2
    try clear hfz28_3
    try clear hfz28_4
    try clear hfz28_5
    try clear hfz29_0
    try clear hfz29_1
    try clear hfz29_2
    try clear hfz29_3
    try clear hfz29_4
    try clear hfz29_5
    try clear hfz31_0
    try clear hfz31_1
    try clear hfz31_2
    try clear hfz31_3
    try clear hfz31_4
    try clear hfz31_5
    try clear hfz32_0
    try clear hfz32_1
    try clear hfz32_2
    try clear hfz32_3
    try clear hfz32_4
    try clear hfz32_5
    try clear hfz34_0
    try clear hfz34_1
    try clear hfz34_2
    try clear hfz34_3
    try clear hfz34_4
    try clear hfz34_5
    try clear hfz35_0
    try clear hfz35_1
    try clear hfz35_2
    try clear hfz35_3
    try clear hfz35_4
    try clear hfz35_5
    try clear hfz37_0
    try clear hfz37_1
    try clear hfz37_2
    try clear hfz37_3
    try clear hfz37_4
    try clear hfz37_5
    try clear hfz38_0
    try clear hfz38_1
    try clear hfz38_2
    try clear hfz38_3
    try clear hfz38_4
    try clear hfz38_5
    try clear hfz40_0
    try clear hfz40_1
    try clear hfz40_2
    try clear hfz40_3
    try clear hfz40_4
    try clear hfz40_5
    try clear hfz41_0
    try clear hfz41_1
    try clear hfz41_2
    try clear hfz41_3
    try clear hfz41_4
    try clear hfz41_5
    try clear hfz8_0
    try clear hfz8_1
    try clear hfz8_2
    try clear hfz8_3
    try clear hfz8_4
    try clear hfz8_5
    try clear hfz9_0
    try clear hfz9_1
    try clear hfz9_2
    try clear hfz9_3
    try clear hfz9_4
    try clear hfz9_5
    try clear p2
    obtain ⟨x5_2, rfl, HA, HK2, BK281, BK282, HB⟩ := hrel
    cases gk with
    | zero => exact absurd HA.out (by simp [spec_EqualEngines.l0])
    | succ k2 =>
     have H := HA.out
     clear HA
     simp only [spec_EqualEngines.l0] at H
     by_cases c44 : x5_2 < (l0_2.length : Int)
     ·rw [if_pos c44] at H
      have c44b0 : decide (x5_2 < (l0_2.length : Int)) = true := decide_eq_true c44
      clear c44
      by_cases c45 : 0 ≤ x5_2
      rotate_left
      ·rw [if_neg c45] at H
       exact absurd H (by simp)
      rw [if_pos c45] at H
      have c45b0 : decide (0 ≤ x5_2) = true := decide_eq_true c45
      clear c45
      by_cases c46 : x5_2 < (l1_2.length : Int)
      rotate_left
      ·rw [if_neg c46] at H
       exact absurd H (by simp)
      rw [if_pos c46] at H
      have c46b0 : decide (x5_2 < (l1_2.length : Int)) = true := decide_eq_true c46
      clear c46
      replace H := Option.bind_eq_some_iff.mp H
      obtain ⟨t286, A470, H⟩ := H
      replace H : (if t286 = true then (spec_EqualEngines.l0 k2 (wrap64 (x5_2 + 1)) a0_0 l0_1 l0_2 l0_3 l0_4 a0_5 a1_0 l1_1 l1_2 l1_3 l1_4 a1_5) else (some false)) = some r := H
      have A47 := AM_ A470
      clear A470
      by_cases c48 : t286 = true
      rotate_left
      ·replace c48 := Bool.eq_false_iff.mpr c48
       subst c48
       have H1 : (some false) = some r := by rw [if_neg (show ¬ (false = true) by decide)] at H; exact H
       clear H
       have H := H1
       clear H1
       obtain rfl := Option.some.inj H
       have hnb53 := NB281_282.out
       have hnc53 := NB282_281.out
       obtain ⟨hcz54_0, hcz54_1, hcz54_2, hcz54_3, hcz54_4, hcz54_5, hfz54_0, hfz54_1, hfz54_2, hfz54_3, hfz54_4, hfz54_5⟩ := bk6 BK281.out
       try go_wp2
       replace BK281 := AM_ (blk_drew BK281.out)
       replace BK282 := AM_ (blk_drew BK282.out)
       replace HB := AM_ (below_drew1 HB.out)
       have p284 : 0 ≤ (x5_2 : Int) := DT
       have q284 : x5_2 < (l0_2.length : Int) := DT
       obtain ⟨ad284, A284_7, c284_7, A284_8, c284_8, e284, hx284_0, hx284_1, hx284_2, hx284_3, hx284_4, hx284_5, hx284_6, hx284_7, hx284_8, hl284_7, hi284_7, hl284_8, hi284_8⟩ := at_T68 HR0_2.out x5_2 p284 q284
       have hw284_8 := hx284_8
       have hw284_7 := hx284_7
       have hw284_6 := hx284_6
       have hw284_5 := hx284_5
       have hw284_4 := hx284_4
       have hw284_3 := hx284_3
       have hw284_2 := hx284_2
       have hw284_1 := hx284_1
       have hw284_0 := hx284_0
       cases e284
       replace hx284_0 := BC HB.out hx284_0
       replace hx284_1 := BC HB.out hx284_1
       replace hx284_2 := BC HB.out hx284_2
       replace hx284_3 := BC HB.out hx284_3
       replace hx284_4 := BC HB.out hx284_4
       replace hx284_5 := BC HB.out hx284_5
       replace hx284_6 := BC HB.out hx284_6
       replace hx284_7 := BC HB.out hx284_7
       replace hx284_8 := BC HB.out hx284_8
       have HR284_7 := AM_ hi284_7
       have HC284_7 := AM_ hl284_7
       clear hi284_7 hl284_7
       have HR284_8 := AM_ hi284_8
       have HC284_8 := AM_ hl284_8
       clear hi284_8 hl284_8
       replace p284 := eq_true p284
       replace q284 := eq_true q284
       have p285 : 0 ≤ (x5_2 : Int) := DT
       have q285 : x5_2 < (l1_2.length : Int) := DT
       obtain ⟨ad285, A285_7, c285_7, A285_8, c285_8, e285, hx285_0, hx285_1, hx285_2, hx285_3, hx285_4, hx285_5, hx285_6, hx285_7, hx285_8, hl285_7, hi285_7, hl285_8, hi285_8⟩ := at_T68 HR1_2.out x5_2 p285 q285
       have hw285_8 := hx285_8
       have hw285_7 := hx285_7
       have hw285_6 := hx285_6
       have hw285_5 := hx285_5
       have hw285_4 := hx285_4
       have hw285_3 := hx285_3
       have hw285_2 := hx285_2
       have hw285_1 := hx285_1
       have hw285_0 := hx285_0
       cases e285
       replace hx285_0 := BC HB.out hx285_0
       replace hx285_1 := BC HB.out hx285_1
       replace hx285_2 := BC HB.out hx285_2
       replace hx285_3 := BC HB.out hx285_3
       replace hx285_4 := BC HB.out hx285_4
       replace hx285_5 := BC HB.out hx285_5
       replace hx285_6 := BC HB.out hx285_6
       replace hx285_7 := BC HB.out hx285_7
       replace hx285_8 := BC HB.out hx285_8
       have HR285_7 := AM_ hi285_7
       have HC285_7 := AM_ hl285_7
       clear hi285_7 hl285_7
       have HR285_8 := AM_ hi285_8
       have HC285_8 := AM_ hl285_8
       clear hi285_8 hl285_8
       replace p285 := eq_true p285
       replace q285 := eq_true q285
       refine start_ (n := 12) (S := fun w' => w'.cell? ⟨gb281, 0, none⟩ = some (.bool a0_0) ∧ w'.cell? ⟨gb281, 1, none⟩ = some (.slice A0_1 l0_1.length c0_1) ∧ w'.cell? ⟨gb281, 2, none⟩ = some (.slice (some ad284) l0_2.length c0_2) ∧ w'.cell? ⟨gb281, 3, none⟩ = some (.slice A0_3 l0_3.length c0_3) ∧ w'.cell? ⟨gb281, 4, none⟩ = some (.slice A0_4 l0_4.length c0_4) ∧ w'.cell? ⟨gb281, 5, none⟩ = some (.int .i64 a0_5) ∧ w'.cell? ⟨gb282, 0, none⟩ = some (.bool a1_0) ∧ w'.cell? ⟨gb282, 1, none⟩ = some (.slice A1_1 l1_1.length c1_1) ∧ w'.cell? ⟨gb282, 2, none⟩ = some (.slice (some ad285) l1_2.length c1_2) ∧ w'.cell? ⟨gb282, 3, none⟩ = some (.slice A1_3 l1_3.length c1_3) ∧ w'.cell? ⟨gb282, 4, none⟩ = some (.slice A1_4 l1_4.length c1_4) ∧ w'.cell? ⟨gb282, 5, none⟩ = some (.int .i64 a1_5) ∧ w'.cell? (ad284.add ((x5_2).toNat * 9)) = some (.int .i64 ((rd_T68 l0_2 x5_2).f0)) ∧ w'.cell? ⟨(ad284.add ((x5_2).toNat * 9)).block, (ad284.add ((x5_2).toNat * 9)).off + 1, none⟩ = some (.int .i64 ((rd_T68 l0_2 x5_2).f1)) ∧ w'.cell? ⟨(ad284.add ((x5_2).toNat * 9)).block, (ad284.add ((x5_2).toNat * 9)).off + 2, none⟩ = some (.int .i64 ((rd_T68 l0_2 x5_2).f2)) ∧ w'.cell? ⟨(ad284.add ((x5_2).toNat * 9)).block, (ad284.add ((x5_2).toNat * 9)).off + 3, none⟩ = some (.int .i64 ((rd_T68 l0_2 x5_2).f3)) ∧ w'.cell? ⟨(ad284.add ((x5_2).toNat * 9)).block, (ad284.add ((x5_2).toNat * 9)).off + 4, none⟩ = some (.int .i64 ((rd_T68 l0_2 x5_2).f4)) ∧ w'.cell? ⟨(ad284.add ((x5_2).toNat * 9)).block, (ad284.add ((x5_2).toNat * 9)).off + 5, none⟩ = some (.int .i64 ((rd_T68 l0_2 x5_2).f5)) ∧ w'.cell? ⟨(ad284.add ((x5_2).toNat * 9)).block, (ad284.add ((x5_2).toNat * 9)).off + 6, none⟩ = some (.int .i64 ((rd_T68 l0_2 x5_2).f6)) ∧ w'.cell? ⟨(ad284.add ((x5_2).toNat * 9)).block, (ad284.add ((x5_2).toNat * 9)).off + 7, none⟩ = some (.slice A284_7 ((rd_T68 l0_2 x5_2).f7).length c284_7) ∧ w'.cell? ⟨(ad284.add ((x5_2).toNat * 9)).block, (ad284.add ((x5_2).toNat * 9)).off + 8, none⟩ = some (.slice A284_8 ((rd_T68 l0_2 x5_2).f8).length c284_8) ∧ w'.cell? (ad285.add ((x5_2).toNat * 9)) = some (.int .i64 ((rd_T68 l1_2 x5_2).f0)) ∧ w'.cell? ⟨(ad285.add ((x5_2).toNat * 9)).block, (ad285.add ((x5_2).toNat * 9)).off + 1, none⟩ = some (.int .i64 ((rd_T68 l1_2 x5_2).f1)) ∧ w'.cell? ⟨(ad285.add ((x5_2).toNat * 9)).block, (ad285.add ((x5_2).toNat * 9)).off + 2, none⟩ = some (.int .i64 ((rd_T68 l1_2 x5_2).f2)) ∧ w'.cell? ⟨(ad285.add ((x5_2).toNat * 9)).block, (ad285.add ((x5_2).toNat * 9)).off + 3, none⟩ = some (.int .i64 ((rd_T68 l1_2 x5_2).f3)) ∧ w'.cell? ⟨(ad285.add ((x5_2).toNat * 9)).block, (ad285.add ((x5_2).toNat * 9)).off + 4, none⟩ = some (.int .i64 ((rd_T68 l1_2 x5_2).f4)) ∧ w'.cell? ⟨(ad285.add ((x5_2).toNat * 9)).block, (ad285.add ((x5_2).toNat * 9)).off + 5, none⟩ = some (.int .i64 ((rd_T68 l1_2 x5_2).f5)) ∧ w'.cell? ⟨(ad285.add ((x5_2).toNat * 9)).block, (ad285.add ((x5_2).toNat * 9)).off + 6, none⟩ = some (.int .i64 ((rd_T68 l1_2 x5_2).f6)) ∧ w'.cell? ⟨(ad285.add ((x5_2).toNat * 9)).block, (ad285.add ((x5_2).toNat * 9)).off + 7, none⟩ = some (.slice A285_7 ((rd_T68 l1_2 x5_2).f7).length c285_7) ∧ w'.cell? ⟨(ad285.add ((x5_2).toNat * 9)).block, (ad285.add ((x5_2).toNat * 9)).off + 8, none⟩ = some (.slice A285_8 ((rd_T68 l1_2 x5_2).f8).length c285_8)) (ds := []) (bs 0 12) (by kernel_rfl) rfl rfl ⟨bc BK281.out 0, bc BK281.out 1, bc BK281.out 2, bc BK281.out 3, bc BK281.out 4, bc BK281.out 5, bc BK282.out 0, bc BK282.out 1, bc BK282.out 2, bc BK282.out 3, bc BK282.out 4, bc BK282.out 5, (BD HB.out hw284_0), (BD HB.out hw284_1), (BD HB.out hw284_2), (BD HB.out hw284_3), (BD HB.out hw284_4), (BD HB.out hw284_5), (BD HB.out hw284_6), (BD HB.out hw284_7), (BD HB.out hw284_8), (BD HB.out hw285_0), (BD HB.out hw285_1), (BD HB.out hw285_2), (BD HB.out hw285_3), (BD HB.out hw285_4), (BD HB.out hw285_5), (BD HB.out hw285_6), (BD HB.out hw285_7), (BD HB.out hw285_8)⟩ (fun hHeld => ?_); refine with_tabW spec_EqualEngines.tab6 spec_EqualEngines.bits6 (fun HT_ HW_ => ?_)
       generalize wr.drew = w55 at BK281 BK282 HB HR284_7 HR284_8 HR285_7 HR285_8 hx284_0 hx284_1 hx284_2 hx284_3 hx284_4 hx284_5 hx284_6 hx284_7 hx284_8 hx285_0 hx285_1 hx285_2 hx285_3 hx285_4 hx285_5 hx285_6 hx285_7 hx285_8 hHeld ⊢
       refine pu (i := 0) (N := some 62) (v := ?_) (a' := ?_) (bs 1 12) rfl rfl HT_ ?_ ?_ ?_
       rotate_left
       ·intro w'
        go_simp
        with_reducible rfl
       rotate_left
       ·simp only [pA, pS, pZ, pK, i64_w, i32_w]
        rfl
       refine pu (i := 2) (N := some 64) (v := ?_) (a' := ?_) (bs 5 12) rfl rfl HT_ ?_ ?_ ?_
       rotate_left
       ·intro w'
        go_simp
        with_reducible rfl
       rotate_left
       ·simp only [pA, pS, pZ, pK, i64_w, i32_w]
        rfl
       refine pu (i := 5) (N := some 67) (v := ?_) (a' := ?_) (bs 37 12) rfl rfl HT_ ?_ ?_ ?_
       rotate_left
       ·intro w'
        go_simp
        with_reducible rfl
       rotate_left
       ·simp only [pA, pS, pZ, pK, i64_w, i32_w]
        rfl
       refine pu (i := 7) (N := some 69) (v := ?_) (a' := ?_) (bs 165 12) rfl rfl HT_ ?_ ?_ ?_
       rotate_left
       ·intro w'
        go_simp
        with_reducible rfl
       rotate_left
       ·simp only [pA, pS, pZ, pK, i64_w, i32_w]
        rfl
       refine tk (i := 1) (N := some 63) (v := ?_) (a' := ?_) (bs 167 12) rfl rfl HT_ HW_ ?_ hHeld ?_ ?_
       rotate_left
       ·rintro w' ⟨s0, s1, s2, s3, s4, s5, s6, s7, s8, s9, s10, s11, s12, s13, s14, s15, s16, s17, s18, s19, s20, s21, s22, s23, s24, s25, s26, s27, s28, s29⟩
        go_simp
        with_reducible rfl
       rotate_left
       ·simp only [pA, pS, pZ, pK, i64_w, i32_w]
        rfl
       refine pu (i := 3) (N := some 65) (v := ?_) (a' := ?_) (bs 175 12) rfl rfl HT_ ?_ ?_ ?_
       rotate_left
       ·intro w'
        go_simp
        with_reducible rfl
       rotate_left
       ·simp only [pA, pS, pZ, pK, i64_w, i32_w]
        rfl
       refine tk (i := 4) (N := some 66) (v := ?_) (a' := ?_) (bs 191 12) rfl rfl HT_ HW_ ?_ hHeld ?_ ?_
       rotate_left
       ·rintro w' ⟨s0, s1, s2, s3, s4, s5, s6, s7, s8, s9, s10, s11, s12, s13, s14, s15, s16, s17, s18, s19, s20, s21, s22, s23, s24, s25, s26, s27, s28, s29⟩
        go_simp
        with_reducible rfl
       rotate_left
       ·simp only [pA, pS, pZ, pK, i64_w, i32_w]
        rfl
       refine tk (i := 6) (N := some 68) (v := ?_) (a' := ?_) (bs 255 12) rfl rfl HT_ HW_ ?_ hHeld ?_ ?_
       rotate_left
       ·rintro w' ⟨s0, s1, s2, s3, s4, s5, s6, s7, s8, s9, s10, s11, s12, s13, s14, s15, s16, s17, s18, s19, s20, s21, s22, s23, s24, s25, s26, s27, s28, s29⟩
        go_simp
        with_reducible rfl
       rotate_left
       ·simp only [pA, pS, pZ, pK, i64_w, i32_w]
        rfl
       refine pu (i := 8) (N := some 70) (v := ?_) (a' := ?_) (bs 511 12) rfl rfl HT_ ?_ ?_ ?_
       rotate_left
       ·intro w'
        go_simp
        with_reducible rfl
       rotate_left
       ·simp only [pA, pS, pZ, pK, i64_w, i32_w]
        rfl
       refine tk (i := 9) (N := some 71) (v := ?_) (a' := ?_) (bs 1023 12) rfl rfl HT_ HW_ ?_ hHeld ?_ ?_
       rotate_left
       ·rintro w' ⟨s0, s1, s2, s3, s4, s5, s6, s7, s8, s9, s10, s11, s12, s13, s14, s15, s16, s17, s18, s19, s20, s21, s22, s23, s24, s25, s26, s27, s28, s29⟩
        go_simp
        with_reducible rfl
       rotate_left
       ·simp only [pA, pS, pZ, pK, i64_w, i32_w]
        rfl
       refine one_ (i := 10) (N := some 72) (bs 2047 12) rfl rfl (one_of HT_.out (by kernel_rfl)) (by decide) (fun K hK => ?_)
       refine goes_ Try.func123 (by kernel_rfl) rfl #[.agg #[.int .i64 ((rd_T68 l0_2 x5_2).f0), .int .i64 ((rd_T68 l0_2 x5_2).f1), .int .i64 ((rd_T68 l0_2 x5_2).f2), .int .i64 ((rd_T68 l0_2 x5_2).f3), .int .i64 ((rd_T68 l0_2 x5_2).f4), .int .i64 ((rd_T68 l0_2 x5_2).f5), .int .i64 ((rd_T68 l0_2 x5_2).f6), .slice A284_7 ((rd_T68 l0_2 x5_2).f7).length c284_7, .slice A284_8 ((rd_T68 l0_2 x5_2).f8).length c284_8], .agg #[.int .i64 ((rd_T68 l1_2 x5_2).f0), .int .i64 ((rd_T68 l1_2 x5_2).f1), .int .i64 ((rd_T68 l1_2 x5_2).f2), .int .i64 ((rd_T68 l1_2 x5_2).f3), .int .i64 ((rd_T68 l1_2 x5_2).f4), .int .i64 ((rd_T68 l1_2 x5_2).f5), .int .i64 ((rd_T68 l1_2 x5_2).f6), .slice A285_7 ((rd_T68 l1_2 x5_2).f7).length c285_7, .slice A285_8 ((rd_T68 l1_2 x5_2).f8).length c285_8]] (by rfl) rfl rfl (by (try simp only [List.map_toArray, List.map_cons, List.map_nil]); first | done | rfl | (simp only [List.length_drop, List.length_take]; rfl)) ?_
       with_reducible refine (spec_EqualTransactions.calls k2 ((rd_T68 l0_2 x5_2).f0) ((rd_T68 l0_2 x5_2).f1) ((rd_T68 l0_2 x5_2).f2) ((rd_T68 l0_2 x5_2).f3) ((rd_T68 l0_2 x5_2).f4) ((rd_T68 l0_2 x5_2).f5) ((rd_T68 l0_2 x5_2).f6) _ _ ((rd_T68 l0_2 x5_2).f7) _ _ ((rd_T68 l0_2 x5_2).f8) ((rd_T68 l1_2 x5_2).f0) ((rd_T68 l1_2 x5_2).f1) ((rd_T68 l1_2 x5_2).f2) ((rd_T68 l1_2 x5_2).f3) ((rd_T68 l1_2 x5_2).f4) ((rd_T68 l1_2 x5_2).f5) ((rd_T68 l1_2 x5_2).f6) _ _ ((rd_T68 l1_2 x5_2).f7) _ _ ((rd_T68 l1_2 x5_2).f8) false _ ?side1 ?side2 ?side3 ?side4 ?side5 ?side6 ?side7 ?side8 A47.out).mono ?_
       (case side1 => exact CB HR284_7.out HB.out)
       (case side2 => exact HC284_7.out)
       (case side3 => exact CB HR284_8.out HB.out)
       (case side4 => exact HC284_8.out)
       (case side5 => exact CB HR285_7.out HB.out)
       (case side6 => exact HC285_7.out)
       (case side7 => exact CB HR285_8.out HB.out)
       (case side8 => exact HC285_8.out)
       rintro e w56 ⟨rfl, hb⟩
       refine ⟨_, rfl, ?_⟩
       replace BK281 := AM_ (BB BK281.out hb)
       replace BK282 := AM_ (BB BK282.out hb)
       replace HB := AM_ (below_step (BT HB.out) hb)
       (try clear hb)
       (try clear hb2)
       (try clear hk)
       (try clear hi)
       refine hK.out _ _ ⟨bc BK281.out 0, bc BK281.out 1, bc BK281.out 2, bc BK281.out 3, bc BK281.out 4, bc BK281.out 5, bc BK282.out 0, bc BK282.out 1, bc BK282.out 2, bc BK282.out 3, bc BK282.out 4, bc BK282.out 5, (BD HB.out hw284_0), (BD HB.out hw284_1), (BD HB.out hw284_2), (BD HB.out hw284_3), (BD HB.out hw284_4), (BD HB.out hw284_5), (BD HB.out hw284_6), (BD HB.out hw284_7), (BD HB.out hw284_8), (BD HB.out hw285_0), (BD HB.out hw285_1), (BD HB.out hw285_2), (BD HB.out hw285_3), (BD HB.out hw285_4), (BD HB.out hw285_5), (BD HB.out hw285_6), (BD HB.out hw285_7), (BD HB.out hw285_8)⟩ (fun hHeld => ?_)
       clear hK K
       refine norm_ (a' := ?_) ?_ ?_
       rotate_left
       ·show Act.put _ (some 72) _ = _
        simp only [pA, pS, pZ, pK, i64_w, i32_w]
        rfl
       refine pu (i := 11) (N := some 73) (v := ?_) (a' := ?_) (bs 4095 12) rfl rfl HT_ ?_ ?_ ?_
       rotate_left
       ·intro w'
        go_simp
        with_reducible rfl
       rotate_left
       ·simp only [pA, pS, pZ, pK, i64_w, i32_w]
        rfl
       refine done_ (done_of HT_.out (by kernel_rfl)) ?_
       try go_wp2
       go_ret
       exact QT (BT HB.out)
      subst c48
      have H1 : (spec_EqualEngines.l0 k2 (wrap64 (x5_2 + 1)) a0_0 l0_1 l0_2 l0_3 l0_4 a0_5 a1_0 l1_1 l1_2 l1_3 l1_4 a1_5) = some r := by rw [if_pos rfl] at H; exact H
      clear H
      have H := H1
      clear H1
      have H' := AM_ H
      clear H
      have hnb49 := NB281_282.out
      have hnc49 := NB282_281.out
      obtain ⟨hcz50_0, hcz50_1, hcz50_2, hcz50_3, hcz50_4, hcz50_5, hfz50_0, hfz50_1, hfz50_2, hfz50_3, hfz50_4, hfz50_5⟩ := bk6 BK281.out
      try go_wp2
      replace BK281 := AM_ (blk_drew BK281.out)
      replace BK282 := AM_ (blk_drew BK282.out)
      replace HB := AM_ (below_drew1 HB.out)
      have p284 : 0 ≤ (x5_2 : Int) := DT
      have q284 : x5_2 < (l0_2.length : Int) := DT
      obtain ⟨ad284, A284_7, c284_7, A284_8, c284_8, e284, hx284_0, hx284_1, hx284_2, hx284_3, hx284_4, hx284_5, hx284_6, hx284_7, hx284_8, hl284_7, hi284_7, hl284_8, hi284_8⟩ := at_T68 HR0_2.out x5_2 p284 q284
      have hw284_8 := hx284_8
      have hw284_7 := hx284_7
      have hw284_6 := hx284_6
      have hw284_5 := hx284_5
      have hw284_4 := hx284_4
      have hw284_3 := hx284_3
      have hw284_2 := hx284_2
      have hw284_1 := hx284_1
      have hw284_0 := hx284_0
      cases e284
      replace hx284_0 := BC HB.out hx284_0
      replace hx284_1 := BC HB.out hx284_1
      replace hx284_2 := BC HB.out hx284_2
      replace hx284_3 := BC HB.out hx284_3
      replace hx284_4 := BC HB.out hx284_4
      replace hx284_5 := BC HB.out hx284_5
      replace hx284_6 := BC HB.out hx284_6
      replace hx284_7 := BC HB.out hx284_7
      replace hx284_8 := BC HB.out hx284_8
      have HR284_7 := AM_ hi284_7
      have HC284_7 := AM_ hl284_7
      clear hi284_7 hl284_7
      have HR284_8 := AM_ hi284_8
      have HC284_8 := AM_ hl284_8
      clear hi284_8 hl284_8
      replace p284 := eq_true p284
      replace q284 := eq_true q284
      have p285 : 0 ≤ (x5_2 : Int) := DT
      have q285 : x5_2 < (l1_2.length : Int) := DT
      obtain ⟨ad285, A285_7, c285_7, A285_8, c285_8, e285, hx285_0, hx285_1, hx285_2, hx285_3, hx285_4, hx285_5, hx285_6, hx285_7, hx285_8, hl285_7, hi285_7, hl285_8, hi285_8⟩ := at_T68 HR1_2.out x5_2 p285 q285
      have hw285_8 := hx285_8
      have hw285_7 := hx285_7
      have hw285_6 := hx285_6
      have hw285_5 := hx285_5
      have hw285_4 := hx285_4
      have hw285_3 := hx285_3
      have hw285_2 := hx285_2
      have hw285_1 := hx285_1
      have hw285_0 := hx285_0
      cases e285
      replace hx285_0 := BC HB.out hx285_0
      replace hx285_1 := BC HB.out hx285_1
      replace hx285_2 := BC HB.out hx285_2
      replace hx285_3 := BC HB.out hx285_3
      replace hx285_4 := BC HB.out hx285_4
      replace hx285_5 := BC HB.out hx285_5
      replace hx285_6 := BC HB.out hx285_6
      replace hx285_7 := BC HB.out hx285_7
      replace hx285_8 := BC HB.out hx285_8
      have HR285_7 := AM_ hi285_7
      have HC285_7 := AM_ hl285_7
      clear hi285_7 hl285_7
      have HR285_8 := AM_ hi285_8
      have HC285_8 := AM_ hl285_8
      clear hi285_8 hl285_8
      replace p285 := eq_true p285
      replace q285 := eq_true q285
      refine start_ (n := 12) (S := fun w' => w'.cell? ⟨gb281, 0, none⟩ = some (.bool a0_0) ∧ w'.cell? ⟨gb281, 1, none⟩ = some (.slice A0_1 l0_1.length c0_1) ∧ w'.cell? ⟨gb281, 2, none⟩ = some (.slice (some ad284) l0_2.length c0_2) ∧ w'.cell? ⟨gb281, 3, none⟩ = some (.slice A0_3 l0_3.length c0_3) ∧ w'.cell? ⟨gb281, 4, none⟩ = some (.slice A0_4 l0_4.length c0_4) ∧ w'.cell? ⟨gb281, 5, none⟩ = some (.int .i64 a0_5) ∧ w'.cell? ⟨gb282, 0, none⟩ = some (.bool a1_0) ∧ w'.cell? ⟨gb282, 1, none⟩ = some (.slice A1_1 l1_1.length c1_1) ∧ w'.cell? ⟨gb282, 2, none⟩ = some (.slice (some ad285) l1_2.length c1_2) ∧ w'.cell? ⟨gb282, 3, none⟩ = some (.slice A1_3 l1_3.length c1_3) ∧ w'.cell? ⟨gb282, 4, none⟩ = some (.slice A1_4 l1_4.length c1_4) ∧ w'.cell? ⟨gb282, 5, none⟩ = some (.int .i64 a1_5) ∧ w'.cell? (ad284.add ((x5_2).toNat * 9)) = some (.int .i64 ((rd_T68 l0_2 x5_2).f0)) ∧ w'.cell? ⟨(ad284.add ((x5_2).toNat * 9)).block, (ad284.add ((x5_2).toNat * 9)).off + 1, none⟩ = some (.int .i64 ((rd_T68 l0_2 x5_2).f1)) ∧ w'.cell? ⟨(ad284.add ((x5_2).toNat * 9)).block, (ad284.add ((x5_2).toNat * 9)).off + 2, none⟩ = some (.int .i64 ((rd_T68 l0_2 x5_2).f2)) ∧ w'.cell? ⟨(ad284.add ((x5_2).toNat * 9)).block, (ad284.add ((x5_2).toNat * 9)).off + 3, none⟩ = some (.int .i64 ((rd_T68 l0_2 x5_2).f3)) ∧ w'.cell? ⟨(ad284.add ((x5_2).toNat * 9)).block, (ad284.add ((x5_2).toNat * 9)).off + 4, none⟩ = some (.int .i64 ((rd_T68 l0_2 x5_2).f4)) ∧ w'.cell? ⟨(ad284.add ((x5_2).toNat * 9)).block, (ad284.add ((x5_2).toNat * 9)).off + 5, none⟩ = some (.int .i64 ((rd_T68 l0_2 x5_2).f5)) ∧ w'.cell? ⟨(ad284.add ((x5_2).toNat * 9)).block, (ad284.add ((x5_2).toNat * 9)).off + 6, none⟩ = some (.int .i64 ((rd_T68 l0_2 x5_2).f6)) ∧ w'.cell? ⟨(ad284.add ((x5_2).toNat * 9)).block, (ad284.add ((x5_2).toNat * 9)).off + 7, none⟩ = some (.slice A284_7 ((rd_T68 l0_2 x5_2).f7).length c284_7) ∧ w'.cell? ⟨(ad284.add ((x5_2).toNat * 9)).block, (ad284.add ((x5_2).toNat * 9)).off + 8, none⟩ = some (.slice A284_8 ((rd_T68 l0_2 x5_2).f8).length c284_8) ∧ w'.cell? (ad285.add ((x5_2).toNat * 9)) = some (.int .i64 ((rd_T68 l1_2 x5_2).f0)) ∧ w'.cell? ⟨(ad285.add ((x5_2).toNat * 9)).block, (ad285.add ((x5_2).toNat * 9)).off + 1, none⟩ = some (.int .i64 ((rd_T68 l1_2 x5_2).f1)) ∧ w'.cell? ⟨(ad285.add ((x5_2).toNat * 9)).block, (ad285.add ((x5_2).toNat * 9)).off + 2, none⟩ = some (.int .i64 ((rd_T68 l1_2 x5_2).f2)) ∧ w'.cell? ⟨(ad285.add ((x5_2).toNat * 9)).block, (ad285.add ((x5_2).toNat * 9)).off + 3, none⟩ = some (.int .i64 ((rd_T68 l1_2 x5_2).f3)) ∧ w'.cell? ⟨(ad285.add ((x5_2).toNat * 9)).block, (ad285.add ((x5_2).toNat * 9)).off + 4, none⟩ = some (.int .i64 ((rd_T68 l1_2 x5_2).f4)) ∧ w'.cell? ⟨(ad285.add ((x5_2).toNat * 9)).block, (ad285.add ((x5_2).toNat * 9)).off + 5, none⟩ = some (.int .i64 ((rd_T68 l1_2 x5_2).f5)) ∧ w'.cell? ⟨(ad285.add ((x5_2).toNat * 9)).block, (ad285.add ((x5_2).toNat * 9)).off + 6, none⟩ = some (.int .i64 ((rd_T68 l1_2 x5_2).f6)) ∧ w'.cell? ⟨(ad285.add ((x5_2).toNat * 9)).block, (ad285.add ((x5_2).toNat * 9)).off + 7, none⟩ = some (.slice A285_7 ((rd_T68 l1_2 x5_2).f7).length c285_7) ∧ w'.cell? ⟨(ad285.add ((x5_2).toNat * 9)).block, (ad285.add ((x5_2).toNat * 9)).off + 8, none⟩ = some (.slice A285_8 ((rd_T68 l1_2 x5_2).f8).length c285_8)) (ds := []) (bs 0 12) (by kernel_rfl) rfl rfl ⟨bc BK281.out 0, bc BK281.out 1, bc BK281.out 2, bc BK281.out 3, bc BK281.out 4, bc BK281.out 5, bc BK282.out 0, bc BK282.out 1, bc BK282.out 2, bc BK282.out 3, bc BK282.out 4, bc BK282.out 5, (BD HB.out hw284_0), (BD HB.out hw284_1), (BD HB.out hw284_2), (BD HB.out hw284_3), (BD HB.out hw284_4), (BD HB.out hw284_5), (BD HB.out hw284_6), (BD HB.out hw284_7), (BD HB.out hw284_8), (BD HB.out hw285_0), (BD HB.out hw285_1), (BD HB.out hw285_2), (BD HB.out hw285_3), (BD HB.out hw285_4), (BD HB.out hw285_5), (BD HB.out hw285_6), (BD HB.out hw285_7), (BD HB.out hw285_8)⟩ (fun hHeld => ?_); refine with_tabW spec_EqualEngines.tab6 spec_EqualEngines.bits6 (fun HT_ HW_ => ?_)
      generalize wr.drew = w51 at BK281 BK282 HB HR284_7 HR284_8 HR285_7 HR285_8 hx284_0 hx284_1 hx284_2 hx284_3 hx284_4 hx284_5 hx284_6 hx284_7 hx284_8 hx285_0 hx285_1 hx285_2 hx285_3 hx285_4 hx285_5 hx285_6 hx285_7 hx285_8 hHeld ⊢
      refine pu (i := 0) (N := some 62) (v := ?_) (a' := ?_) (bs 1 12) rfl rfl HT_ ?_ ?_ ?_
      rotate_left
      ·intro w'
       go_simp
       with_reducible rfl
      rotate_left
      ·simp only [pA, pS, pZ, pK, i64_w, i32_w]
       rfl
      refine pu (i := 2) (N := some 64) (v := ?_) (a' := ?_) (bs 5 12) rfl rfl HT_ ?_ ?_ ?_
      rotate_left
      ·intro w'
       go_simp
       with_reducible rfl
      rotate_left
      ·simp only [pA, pS, pZ, pK, i64_w, i32_w]
       rfl
      refine pu (i := 5) (N := some 67) (v := ?_) (a' := ?_) (bs 37 12) rfl rfl HT_ ?_ ?_ ?_
      rotate_left
      ·intro w'
       go_simp
       with_reducible rfl
      rotate_left
      ·simp only [pA, pS, pZ, pK, i64_w, i32_w]
       rfl
      refine pu (i := 7) (N := some 69) (v := ?_) (a' := ?_) (bs 165 12) rfl rfl HT_ ?_ ?_ ?_
      rotate_left
      ·intro w'
       go_simp
       with_reducible rfl
      rotate_left
      ·simp only [pA, pS, pZ, pK, i64_w, i32_w]
       rfl
      refine tk (i := 1) (N := some 63) (v := ?_) (a' := ?_) (bs 167 12) rfl rfl HT_ HW_ ?_ hHeld ?_ ?_
      rotate_left
      ·rintro w' ⟨s0, s1, s2, s3, s4, s5, s6, s7, s8, s9, s10, s11, s12, s13, s14, s15, s16, s17, s18, s19, s20, s21, s22, s23, s24, s25, s26, s27, s28, s29⟩
       go_simp
       with_reducible rfl
      rotate_left
      ·simp only [pA, pS, pZ, pK, i64_w, i32_w]
       rfl
      refine pu (i := 3) (N := some 65) (v := ?_) (a' := ?_) (bs 175 12) rfl rfl HT_ ?_ ?_ ?_
      rotate_left
      ·intro w'
       go_simp
       with_reducible rfl
      rotate_left
      ·simp only [pA, pS, pZ, pK, i64_w, i32_w]
       rfl
      refine tk (i := 4) (N := some 66) (v := ?_) (a' := ?_) (bs 191 12) rfl rfl HT_ HW_ ?_ hHeld ?_ ?_
      rotate_left
      ·rintro w' ⟨s0, s1, s2, s3, s4, s5, s6, s7, s8, s9, s10, s11, s12, s13, s14, s15, s16, s17, s18, s19, s20, s21, s22, s23, s24, s25, s26, s27, s28, s29⟩
       go_simp
       with_reducible rfl
      rotate_left
      ·simp only [pA, pS, pZ, pK, i64_w, i32_w]
       rfl
      refine tk (i := 6) (N := some 68) (v := ?_) (a' := ?_) (bs 255 12) rfl rfl HT_ HW_ ?_ hHeld ?_ ?_
      rotate_left
      ·rintro w' ⟨s0, s1, s2, s3, s4, s5, s6, s7, s8, s9, s10, s11, s12, s13, s14, s15, s16, s17, s18, s19, s20, s21, s22, s23, s24, s25, s26, s27, s28, s29⟩
       go_simp
       with_reducible rfl
      rotate_left
      ·simp only [pA, pS, pZ, pK, i64_w, i32_w]
       rfl
      refine pu (i := 8) (N := some 70) (v := ?_) (a' := ?_) (bs 511 12) rfl rfl HT_ ?_ ?_ ?_
      rotate_left
      ·intro w'
       go_simp
       with_reducible rfl
      rotate_left
      ·simp only [pA, pS, pZ, pK, i64_w, i32_w]
       rfl
      refine tk (i := 9) (N := some 71) (v := ?_) (a' := ?_) (bs 1023 12) rfl rfl HT_ HW_ ?_ hHeld ?_ ?_
      rotate_left
      ·rintro w' ⟨s0, s1, s2, s3, s4, s5, s6, s7, s8, s9, s10, s11, s12, s13, s14, s15, s16, s17, s18, s19, s20, s21, s22, s23, s24, s25, s26, s27, s28, s29⟩
       go_simp
       with_reducible rfl
      rotate_left
      ·simp only [pA, pS, pZ, pK, i64_w, i32_w]
       rfl
      refine one_ (i := 10) (N := some 72) (bs 2047 12) rfl rfl (one_of HT_.out (by kernel_rfl)) (by decide) (fun K hK => ?_)
      refine goes_ Try.func123 (by kernel_rfl) rfl #[.agg #[.int .i64 ((rd_T68 l0_2 x5_2).f0), .int .i64 ((rd_T68 l0_2 x5_2).f1), .int .i64 ((rd_T68 l0_2 x5_2).f2), .int .i64 ((rd_T68 l0_2 x5_2).f3), .int .i64 ((rd_T68 l0_2 x5_2).f4), .int .i64 ((rd_T68 l0_2 x5_2).f5), .int .i64 ((rd_T68 l0_2 x5_2).f6), .slice A284_7 ((rd_T68 l0_2 x5_2).f7).length c284_7, .slice A284_8 ((rd_T68 l0_2 x5_2).f8).length c284_8], .agg #[.int .i64 ((rd_T68 l1_2 x5_2).f0), .int .i64 ((rd_T68 l1_2 x5_2).f1), .int .i64 ((rd_T68 l1_2 x5_2).f2), .int .i64 ((rd_T68 l1_2 x5_2).f3), .int .i64 ((rd_T68 l1_2 x5_2).f4), .int .i64 ((rd_T68 l1_2 x5_2).f5), .int .i64 ((rd_T68 l1_2 x5_2).f6), .slice A285_7 ((rd_T68 l1_2 x5_2).f7).length c285_7, .slice A285_8 ((rd_T68 l1_2 x5_2).f8).length c285_8]] (by rfl) rfl rfl (by (try simp only [List.map_toArray, List.map_cons, List.map_nil]); first | done | rfl | (simp only [List.length_drop, List.length_take]; rfl)) ?_
      with_reducible refine (spec_EqualTransactions.calls k2 ((rd_T68 l0_2 x5_2).f0) ((rd_T68 l0_2 x5_2).f1) ((rd_T68 l0_2 x5_2).f2) ((rd_T68 l0_2 x5_2).f3) ((rd_T68 l0_2 x5_2).f4) ((rd_T68 l0_2 x5_2).f5) ((rd_T68 l0_2 x5_2).f6) _ _ ((rd_T68 l0_2 x5_2).f7) _ _ ((rd_T68 l0_2 x5_2).f8) ((rd_T68 l1_2 x5_2).f0) ((rd_T68 l1_2 x5_2).f1) ((rd_T68 l1_2 x5_2).f2) ((rd_T68 l1_2 x5_2).f3) ((rd_T68 l1_2 x5_2).f4) ((rd_T68 l1_2 x5_2).f5) ((rd_T68 l1_2 x5_2).f6) _ _ ((rd_T68 l1_2 x5_2).f7) _ _ ((rd_T68 l1_2 x5_2).f8) true _ ?side1 ?side2 ?side3 ?side4 ?side5 ?side6 ?side7 ?side8 A47.out).mono ?_
      (case side1 => exact CB HR284_7.out HB.out)
      (case side2 => exact HC284_7.out)
      (case side3 => exact CB HR284_8.out HB.out)
      (case side4 => exact HC284_8.out)
      (case side5 => exact CB HR285_7.out HB.out)
      (case side6 => exact HC285_7.out)
      (case side7 => exact CB HR285_8.out HB.out)
      (case side8 => exact HC285_8.out)
      rintro e w52 ⟨rfl, hb⟩
      refine ⟨_, rfl, ?_⟩
      replace BK281 := AM_ (BB BK281.out hb)
      replace BK282 := AM_ (BB BK282.out hb)
      replace HB := AM_ (below_step (BT HB.out) hb)
      (try clear hb)
      (try clear hb2)
      (try clear hk)
      (try clear hi)
      refine hK.out _ _ ⟨bc BK281.out 0, bc BK281.out 1, bc BK281.out 2, bc BK281.out 3, bc BK281.out 4, bc BK281.out 5, bc BK282.out 0, bc BK282.out 1, bc BK282.out 2, bc BK282.out 3, bc BK282.out 4, bc BK282.out 5, (BD HB.out hw284_0), (BD HB.out hw284_1), (BD HB.out hw284_2), (BD HB.out hw284_3), (BD HB.out hw284_4), (BD HB.out hw284_5), (BD HB.out hw284_6), (BD HB.out hw284_7), (BD HB.out hw284_8), (BD HB.out hw285_0), (BD HB.out hw285_1), (BD HB.out hw285_2), (BD HB.out hw285_3), (BD HB.out hw285_4), (BD HB.out hw285_5), (BD HB.out hw285_6), (BD HB.out hw285_7), (BD HB.out hw285_8)⟩ (fun hHeld => ?_)
      clear hK K
      refine norm_ (a' := ?_) ?_ ?_
      rotate_left
      ·show Act.put _ (some 72) _ = _
       simp only [pA, pS, pZ, pK, i64_w, i32_w]
       rfl
      refine pu (i := 11) (N := some 73) (v := ?_) (a' := ?_) (bs 4095 12) rfl rfl HT_ ?_ ?_ ?_
      rotate_left
      ·intro w'
       go_simp
       with_reducible rfl
      rotate_left
      ·simp only [pA, pS, pZ, pK, i64_w, i32_w]
       rfl
      refine done_ (done_of HT_.out (by kernel_rfl)) ?_
      try go_wp2
      go_roundg k2
      case measure => have := HJ2.out; have := HK2.out; omega
      case rel => exact ⟨(wrap64 (x5_2 + 1)), (by first | rfl | (simp; done) | (simp [*]; done)), H', ⟨by have := HJ2.out; have := HK2.out; omega⟩, ⟨BH BK281.out⟩, ⟨BH BK282.out⟩, ⟨BT HB.out⟩⟩
     rw [if_neg c44] at H
     have c44b0 : decide (x5_2 < (l0_2.length : Int)) = false := decide_eq_false c44
     clear c44
     have H' := AM_ H
     clear H
     have hnb57 := NB281_282.out
     have hnc57 := NB282_281.out
     obtain ⟨hcz58_0, hcz58_1, hcz58_2, hcz58_3, hcz58_4, hcz58_5, hfz58_0, hfz58_1, hfz58_2, hfz58_3, hfz58_4, hfz58_5⟩ := bk6 BK281.out
     go_wp2
     go_loopg [6] k2 (fun kq v6 w' => ∃ (x6_3 : Int), v6 = .int .i64 x6_3 ∧ Aside0 (spec_EqualEngines.l1 kq x6_3 a0_0 l0_1 l0_2 l0_3 l0_4 a0_5 a1_0 l1_1 l1_2 l1_3 l1_4 a1_5 = some r) ∧ Aside0 (kq ≤ k2) ∧ Aside0 (w'.heap[gb281]? = some (.cells #[.bool a0_0, (.slice A0_1 l0_1.length c0_1), (.slice A0_2 l0_2.length c0_2), (.slice A0_3 l0_3.length c0_3), (.slice A0_4 l0_4.length c0_4), .int .i64 a0_5] 53 (0, 0))) ∧ Aside0 (w'.heap[gb282]? = some (.cells #[.bool a1_0, (.slice A1_1 l1_1.length c1_1), (.slice A1_2 l1_2.length c1_2), (.slice A1_3 l1_3.length c1_3), (.slice A1_4 l1_4.length c1_4), .int .i64 a1_5] 53 (0, 0))) ∧ Aside0 (Below w.heap.size w w'))
     case atStart => exact ⟨(0), (by first | rfl | (simp; done) | (simp [*]; done)), H', ⟨Nat.le_refl _⟩, ⟨BH BK281.out⟩, ⟨BH BK282.out⟩, ⟨BT HB.out⟩⟩
     case round =>
      clear H'
      try clear c1
      try clear c2
      try clear p2
      try clear q2
      try clear hx2
      try clear c4
      try clear c5
      try clear p6
      try clear c12
      try clear c28
      try clear p28
      try clear q28
      try clear hx28
      try clear c44
      try clear c44b0
      try clear c45
      try clear c45b0
      try clear c46
      try clear c46b0
      try clear c48
      try clear c49
      try clear c53
      try clear c57
      try clear hcz50_0
      try clear hcz50_1
      try clear hcz50_2
      try clear hcz50_3
      try clear hcz50_4
      try clear hcz50_5
      try clear hcz54_0
      try clear hcz54_1
      try clear hcz54_2
      try clear hcz54_3
      try clear hcz54_4
      try clear hcz54_5
      try clear hcz58_0
      try clear hcz58_1
      try clear hcz58_2
      try clear hcz58_3
      try clear hcz58_4
      try clear hcz58_5
      try clear hfz19_3
      try clear hfz19_4
      try clear hfz19_5
      try clear hfz20_0
      try clear hfz20_1
      try clear hfz20_2
      try clear hfz20_3
      try clear hfz20_4
      try clear hfz20_5
      try clear hfz22_0
      try clear hfz22_1
      try clear hfz22_2
      try clear hfz22_3
      try clear hfz22_4
      try clear hfz22_5
      try clear hfz23_0
      try clear hfz23_1
      try clear hfz23_2
      try clear hfz23_3
      try clear hfz23_4
      try clear hfz23_5
      try clear hfz25_0
      try clear hfz25_1
      try clear hfz25_2
      try clear hfz25_3
      try clear hfz25_4
      try clear hfz25_5
      try clear hfz26_0
      try clear hfz26_1
      try clear hfz26_2
      try clear hfz26_3
      try clear hfz26_4
      try clear hfz26_5
      try clear hfz28_0
      try clear hfz28_1
      try clear hfz28_2
      try clear hfz28_3
      try clear hfz28_4
      try clear hfz28_5
      try clear hfz29_0
      try clear hfz29_1
      try clear hfz29_2
      try clear hfz29_3
      try clear hfz29_4
      try clear hfz29_5
      try clear hfz31_0
      try clear hfz31_1
      try clear hfz31_2
      try clear hfz31_3
      try clear hfz31_4
      try clear hfz31_5
      try clear hfz32_0
      try clear hfz32_1
      try clear hfz32_2
      try clear hfz32_3
      try clear hfz32_4
      try clear hfz32_5
      try clear hfz34_0
      try clear hfz34_1
      try clear hfz34_2
      try clear hfz34_3
      try clear hfz34_4
      try clear hfz34_5
      try clear hfz35_0
      try clear hfz35_1
      try clear hfz35_2
      try clear hfz35_3
      try clear hfz35_4
      try clear hfz35_5
      try clear hfz37_0
      try clear hfz37_1
      try clear hfz37_2
      try clear hfz37_3
      try clear hfz37_4
      try clear hfz37_5
      try clear hfz38_0
      try clear hfz38_1
      try clear hfz38_2
      try clear hfz38_3
      try clear hfz38_4
      try clear hfz38_5
      try clear hfz40_0
      try clear hfz40_1
      try clear hfz40_2
      try clear hfz40_3
      try clear hfz40_4
      try clear hfz40_5
      try clear hfz41_0
      try clear hfz41_1
      try clear hfz41_2
      try clear hfz41_3
      try clear hfz41_4
      try clear hfz41_5
      try clear hfz50_0
      try clear hfz50_1
      try clear hfz50_2
      try clear hfz50_3
      try clear hfz50_4
      try clear hfz50_5
      try clear hfz54_0
      try clear hfz54_1
      try clear hfz54_2
      try clear hfz54_3
      try clear hfz54_4
      try clear hfz54_5
      try clear hfz58_0
      try clear hfz58_1
      try clear hfz58_2
      try clear hfz58_3
      try clear hfz58_4
      try clear hfz58_5
      try clear hfz8_0
      try clear hfz8_1
      try clear hfz8_2
      try clear hfz8_3
      try clear hfz8_4
      try clear hfz8_5
      try clear hfz9_0
      try clear hfz9_1
      try clear hfz9_2
      try clear hfz9_3
      try clear hfz9_4
      try clear hfz9_5
      try clear hx284_0
      try clear hx284_1
      try clear hx284_2
      try clear hx284_3
      try clear hx284_4
      try clear hx284_5
      try clear hx284_6
      try clear hx284_7
      try clear hx284_8
      try clear hx285_0
      try clear hx285_1
      try clear hx285_2
      try clear hx285_3
      try clear hx285_4
      try clear hx285_5
      try clear hx285_6
      try clear hx285_7
      try clear hx285_8
      try clear p2
      try clear p284
      try clear p285
      try clear q284
      try clear q285
      obtain ⟨x6_3, rfl, HA, HK3, BK281, BK282, HB⟩ := hrel
      cases gk with
      | zero => exact absurd HA.out (by simp [spec_EqualEngines.l1])
      | succ k3 =>
       have H := HA.out
       clear HA
       simp only [spec_EqualEngines.l1] at H
       by_cases c59 : x6_3 < (l0_3.length : Int)
       ·rw [if_pos c59] at H
        have c59b0 : decide (x6_3 < (l0_3.length : Int)) = true := decide_eq_true c59
        clear c59
        by_cases c60 : 0 ≤ x6_3
        rotate_left
        ·rw [if_neg c60] at H
         exact absurd H (by simp)
        rw [if_pos c60] at H
        have c60b0 : decide (0 ≤ x6_3) = true := decide_eq_true c60
        clear c60
        by_cases c61 : x6_3 < (l1_3.length : Int)
        rotate_left
        ·rw [if_neg c61] at H
         exact absurd H (by simp)
        rw [if_pos c61] at H
        have c61b0 : decide (x6_3 < (l1_3.length : Int)) = true := decide_eq_true c61
        clear c61
        by_cases c62 : (!(((rd_T150 l0_3 x6_3).f0) == ((rd_T150 l1_3 x6_3).f0)) || (!(((rd_T150 l0_3 x6_3).f1) == ((rd_T150 l1_3 x6_3).f1)))) = true
        ·rw [if_pos c62] at H
         have c62b0 : (!(((rd_T150 l0_3 x6_3).f0) == ((rd_T150 l1_3 x6_3).f0)) || (!(((rd_T150 l0_3 x6_3).f1) == ((rd_T150 l1_3 x6_3).f1)))) = true := c62
         clear c62
         obtain rfl := Option.some.inj H
         have hnb63 := NB281_282.out
         have hnc63 := NB282_281.out
         obtain ⟨hcz64_0, hcz64_1, hcz64_2, hcz64_3, hcz64_4, hcz64_5, hfz64_0, hfz64_1, hfz64_2, hfz64_3, hfz64_4, hfz64_5⟩ := bk6 BK281.out
         try go_wp2
         replace BK281 := AM_ (blk_drew BK281.out)
         replace BK282 := AM_ (blk_drew BK282.out)
         replace HB := AM_ (below_drew1 HB.out)
         have p287 : 0 ≤ (x6_3 : Int) := DT
         have q287 : x6_3 < (l0_3.length : Int) := DT
         obtain ⟨ad287, e287, hx287_0, hx287_1⟩ := at_T150 HR0_3.out x6_3 p287 q287
         have hw287_1 := hx287_1
         have hw287_0 := hx287_0
         cases e287
         replace hx287_0 := BC HB.out hx287_0
         replace hx287_1 := BC HB.out hx287_1
         replace p287 := eq_true p287
         replace q287 := eq_true q287
         have p288 : 0 ≤ (x6_3 : Int) := DT
         have q288 : x6_3 < (l1_3.length : Int) := DT
         obtain ⟨ad288, e288, hx288_0, hx288_1⟩ := at_T150 HR1_3.out x6_3 p288 q288
         have hw288_1 := hx288_1
         have hw288_0 := hx288_0
         cases e288
         replace hx288_0 := BC HB.out hx288_0
         replace hx288_1 := BC HB.out hx288_1
         replace p288 := eq_true p288
         replace q288 := eq_true q288
         refine start_ (n := 11) (S := fun w' => w'.cell? ⟨gb281, 0, none⟩ = some (.bool a0_0) ∧ w'.cell? ⟨gb281, 1, none⟩ = some (.slice A0_1 l0_1.length c0_1) ∧ w'.cell? ⟨gb281, 2, none⟩ = some (.slice A0_2 l0_2.length c0_2) ∧ w'.cell? ⟨gb281, 3, none⟩ = some (.slice (some ad287) l0_3.length c0_3) ∧ w'.cell? ⟨gb281, 4, none⟩ = some (.slice A0_4 l0_4.length c0_4) ∧ w'.cell? ⟨gb281, 5, none⟩ = some (.int .i64 a0_5) ∧ w'.cell? ⟨gb282, 0, none⟩ = some (.bool a1_0) ∧ w'.cell? ⟨gb282, 1, none⟩ = some (.slice A1_1 l1_1.length c1_1) ∧ w'.cell? ⟨gb282, 2, none⟩ = some (.slice A1_2 l1_2.length c1_2) ∧ w'.cell? ⟨gb282, 3, none⟩ = some (.slice (some ad288) l1_3.length c1_3) ∧ w'.cell? ⟨gb282, 4, none⟩ = some (.slice A1_4 l1_4.length c1_4) ∧ w'.cell? ⟨gb282, 5, none⟩ = some (.int .i64 a1_5) ∧ w'.cell? (ad287.add ((x6_3).toNat * 2)) = some (.int .i64 ((rd_T150 l0_3 x6_3).f0)) ∧ w'.cell? ⟨(ad287.add ((x6_3).toNat * 2)).block, (ad287.add ((x6_3).toNat * 2)).off + 1, none⟩ = some (.int .i64 ((rd_T150 l0_3 x6_3).f1)) ∧ w'.cell? (ad288.add ((x6_3).toNat * 2)) = some (.int .i64 ((rd_T150 l1_3 x6_3).f0)) ∧ w'.cell? ⟨(ad288.add ((x6_3).toNat * 2)).block, (ad288.add ((x6_3).toNat * 2)).off + 1, none⟩ = some (.int .i64 ((rd_T150 l1_3 x6_3).f1))) (ds := []) (bs 0 11) (by kernel_rfl) rfl rfl ⟨bc BK281.out 0, bc BK281.out 1, bc BK281.out 2, bc BK281.out 3, bc BK281.out 4, bc BK281.out 5, bc BK282.out 0, bc BK282.out 1, bc BK282.out 2, bc BK282.out 3, bc BK282.out 4, bc BK282.out 5, (BD HB.out hw287_0), (BD HB.out hw287_1), (BD HB.out hw288_0), (BD HB.out hw288_1)⟩ (fun hHeld => ?_); refine with_tabW spec_EqualEngines.tab11 spec_EqualEngines.bits11 (fun HT_ HW_ => ?_)
         generalize wr.drew = w65 at BK281 BK282 HB hx287_0 hx287_1 hx288_0 hx288_1 hHeld ⊢
         refine pu (i := 0) (N := some 81) (v := ?_) (a' := ?_) (bs 1 11) rfl rfl HT_ ?_ ?_ ?_
         rotate_left
         ·intro w'
          go_simp
          with_reducible rfl
         rotate_left
         ·simp only [pA, pS, pZ, pK, i64_w, i32_w]
          rfl
         refine pu (i := 2) (N := some 83) (v := ?_) (a' := ?_) (bs 5 11) rfl rfl HT_ ?_ ?_ ?_
         rotate_left
         ·intro w'
          go_simp
          with_reducible rfl
         rotate_left
         ·simp only [pA, pS, pZ, pK, i64_w, i32_w]
          rfl
         refine pu (i := 5) (N := some 86) (v := ?_) (a' := ?_) (bs 37 11) rfl rfl HT_ ?_ ?_ ?_
         rotate_left
         ·intro w'
          go_simp
          with_reducible rfl
         rotate_left
         ·simp only [pA, pS, pZ, pK, i64_w, i32_w]
          rfl
         refine pu (i := 7) (N := some 88) (v := ?_) (a' := ?_) (bs 165 11) rfl rfl HT_ ?_ ?_ ?_
         rotate_left
         ·intro w'
          go_simp
          with_reducible rfl
         rotate_left
         ·simp only [pA, pS, pZ, pK, i64_w, i32_w]
          rfl
         refine tk (i := 1) (N := some 82) (v := ?_) (a' := ?_) (bs 167 11) rfl rfl HT_ HW_ ?_ hHeld ?_ ?_
         rotate_left
         ·rintro w' ⟨s0, s1, s2, s3, s4, s5, s6, s7, s8, s9, s10, s11, s12, s13, s14, s15⟩
          go_simp
          with_reducible rfl
         rotate_left
         ·simp only [pA, pS, pZ, pK, i64_w, i32_w]
          rfl
         refine pu (i := 3) (N := some 84) (v := ?_) (a' := ?_) (bs 175 11) rfl rfl HT_ ?_ ?_ ?_
         rotate_left
         ·intro w'
          go_simp
          with_reducible rfl
         rotate_left
         ·simp only [pA, pS, pZ, pK, i64_w, i32_w]
          rfl
         refine tk (i := 4) (N := some 85) (v := ?_) (a' := ?_) (bs 191 11) rfl rfl HT_ HW_ ?_ hHeld ?_ ?_
         rotate_left
         ·rintro w' ⟨s0, s1, s2, s3, s4, s5, s6, s7, s8, s9, s10, s11, s12, s13, s14, s15⟩
          go_simp
          with_reducible rfl
         rotate_left
         ·simp only [pA, pS, pZ, pK, i64_w, i32_w]
          rfl
         refine tk (i := 6) (N := some 87) (v := ?_) (a' := ?_) (bs 255 11) rfl rfl HT_ HW_ ?_ hHeld ?_ ?_
         rotate_left
         ·rintro w' ⟨s0, s1, s2, s3, s4, s5, s6, s7, s8, s9, s10, s11, s12, s13, s14, s15⟩
          go_simp
          with_reducible rfl
         rotate_left
         ·simp only [pA, pS, pZ, pK, i64_w, i32_w]
          rfl
         refine pu (i := 8) (N := some 89) (v := ?_) (a' := ?_) (bs 511 11) rfl rfl HT_ ?_ ?_ ?_
         rotate_left
         ·intro w'
          go_simp
          with_reducible rfl
         rotate_left
         ·simp only [pA, pS, pZ, pK, i64_w, i32_w]
          rfl
         refine tk (i := 9) (N := some 90) (v := ?_) (a' := ?_) (bs 1023 11) rfl rfl HT_ HW_ ?_ hHeld ?_ ?_
         rotate_left
         ·rintro w' ⟨s0, s1, s2, s3, s4, s5, s6, s7, s8, s9, s10, s11, s12, s13, s14, s15⟩
          go_simp
          with_reducible rfl
         rotate_left
         ·simp only [pA, pS, pZ, pK, i64_w, i32_w]
          rfl
         refine pu (i := 10) (N := some 91) (v := ?_) (a' := ?_) (bs 2047 11) rfl rfl HT_ ?_ ?_ ?_
         rotate_left
         ·intro w'
          go_simp
          with_reducible rfl
         rotate_left
         ·simp only [pA, pS, pZ, pK, i64_w, i32_w]
          rfl
         refine done_ (done_of HT_.out (by kernel_rfl)) ?_
         try go_wp2
         go_ret
         exact QT (BT HB.out)
        rw [if_neg c62] at H
        have c62b0 : (!(((rd_T150 l0_3 x6_3).f0) == ((rd_T150 l1_3 x6_3).f0)) || (!(((rd_T150 l0_3 x6_3).f1) == ((rd_T150 l1_3 x6_3).f1)))) = false := by simpa using c62
        clear c62
        have H' := AM_ H
        clear H
        have hnb66 := NB281_282.out
        have hnc66 := NB282_281.out
        obtain ⟨hcz67_0, hcz67_1, hcz67_2, hcz67_3, hcz67_4, hcz67_5, hfz67_0, hfz67_1, hfz67_2, hfz67_3, hfz67_4, hfz67_5⟩ := bk6 BK281.out
        try go_wp2
        replace BK281 := AM_ (blk_drew BK281.out)
        replace BK282 := AM_ (blk_drew BK282.out)
        replace HB := AM_ (below_drew1 HB.out)
        have p287 : 0 ≤ (x6_3 : Int) := DT
        have q287 : x6_3 < (l0_3.length : Int) := DT
        obtain ⟨ad287, e287, hx287_0, hx287_1⟩ := at_T150 HR0_3.out x6_3 p287 q287
        have hw287_1 := hx287_1
        have hw287_0 := hx287_0
        cases e287
        replace hx287_0 := BC HB.out hx287_0
        replace hx287_1 := BC HB.out hx287_1
        replace p287 := eq_true p287
        replace q287 := eq_true q287
        have p288 : 0 ≤ (x6_3 : Int) := DT
        have q288 : x6_3 < (l1_3.length : Int) := DT
        obtain ⟨ad288, e288, hx288_0, hx288_1⟩ := at_T150 HR1_3.out x6_3 p288 q288
        have hw288_1 := hx288_1
        have hw288_0 := hx288_0
        cases e288
        replace hx288_0 := BC HB.out hx288_0
        replace hx288_1 := BC HB.out hx288_1
        replace p288 := eq_true p288
        replace q288 := eq_true q288
        refine start_ (n := 11) (S := fun w' => w'.cell? ⟨gb281, 0, none⟩ = some (.bool a0_0) ∧ w'.cell? ⟨gb281, 1, none⟩ = some (.slice A0_1 l0_1.length c0_1) ∧ w'.cell? ⟨gb281, 2, none⟩ = some (.slice A0_2 l0_2.length c0_2) ∧ w'.cell? ⟨gb281, 3, none⟩ = some (.slice (some ad287) l0_3.length c0_3) ∧ w'.cell? ⟨gb281, 4, none⟩ = some (.slice A0_4 l0_4.length c0_4) ∧ w'.cell? ⟨gb281, 5, none⟩ = some (.int .i64 a0_5) ∧ w'.cell? ⟨gb282, 0, none⟩ = some (.bool a1_0) ∧ w'.cell? ⟨gb282, 1, none⟩ = some (.slice A1_1 l1_1.length c1_1) ∧ w'.cell? ⟨gb282, 2, none⟩ = some (.slice A1_2 l1_2.length c1_2) ∧ w'.cell? ⟨gb282, 3, none⟩ = some (.slice (some ad288) l1_3.length c1_3) ∧ w'.cell? ⟨gb282, 4, none⟩ = some (.slice A1_4 l1_4.length c1_4) ∧ w'.cell? ⟨gb282, 5, none⟩ = some (.int .i64 a1_5) ∧ w'.cell? (ad287.add ((x6_3).toNat * 2)) = some (.int .i64 ((rd_T150 l0_3 x6_3).f0)) ∧ w'.cell? ⟨(ad287.add ((x6_3).toNat * 2)).block, (ad287.add ((x6_3).toNat * 2)).off + 1, none⟩ = some (.int .i64 ((rd_T150 l0_3 x6_3).f1)) ∧ w'.cell? (ad288.add ((x6_3).toNat * 2)) = some (.int .i64 ((rd_T150 l1_3 x6_3).f0)) ∧ w'.cell? ⟨(ad288.add ((x6_3).toNat * 2)).block, (ad288.add ((x6_3).toNat * 2)).off + 1, none⟩ = some (.int .i64 ((rd_T150 l1_3 x6_3).f1))) (ds := []) (bs 0 11) (by kernel_rfl) rfl rfl ⟨bc BK281.out 0, bc BK281.out 1, bc BK281.out 2, bc BK281.out 3, bc BK281.out 4, bc BK281.out 5, bc BK282.out 0, bc BK282.out 1, bc BK282.out 2, bc BK282.out 3, bc BK282.out 4, bc BK282.out 5, (BD HB.out hw287_0), (BD HB.out hw287_1), (BD HB.out hw288_0), (BD HB.out hw288_1)⟩ (fun hHeld => ?_); refine with_tabW spec_EqualEngines.tab11 spec_EqualEngines.bits11 (fun HT_ HW_ => ?_)
        generalize wr.drew = w68 at BK281 BK282 HB hx287_0 hx287_1 hx288_0 hx288_1 hHeld ⊢
        refine pu (i := 0) (N := some 81) (v := ?_) (a' := ?_) (bs 1 11) rfl rfl HT_ ?_ ?_ ?_
        rotate_left
        ·intro w'
         go_simp
         with_reducible rfl
        rotate_left
        ·simp only [pA, pS, pZ, pK, i64_w, i32_w]
         rfl
        refine pu (i := 2) (N := some 83) (v := ?_) (a' := ?_) (bs 5 11) rfl rfl HT_ ?_ ?_ ?_
        rotate_left
        ·intro w'
         go_simp
         with_reducible rfl
        rotate_left
        ·simp only [pA, pS, pZ, pK, i64_w, i32_w]
         rfl
        refine pu (i := 5) (N := some 86) (v := ?_) (a' := ?_) (bs 37 11) rfl rfl HT_ ?_ ?_ ?_
        rotate_left
        ·intro w'
         go_simp
         with_reducible rfl
        rotate_left
        ·simp only [pA, pS, pZ, pK, i64_w, i32_w]
         rfl
        refine pu (i := 7) (N := some 88) (v := ?_) (a' := ?_) (bs 165 11) rfl rfl HT_ ?_ ?_ ?_
        rotate_left
        ·intro w'
         go_simp
         with_reducible rfl
        rotate_left
        ·simp only [pA, pS, pZ, pK, i64_w, i32_w]
         rfl
        refine tk (i := 1) (N := some 82) (v := ?_) (a' := ?_) (bs 167 11) rfl rfl HT_ HW_ ?_ hHeld ?_ ?_
        rotate_left
        ·rintro w' ⟨s0, s1, s2, s3, s4, s5, s6, s7, s8, s9, s10, s11, s12, s13, s14, s15⟩
         go_simp
         with_reducible rfl
        rotate_left
        ·simp only [pA, pS, pZ, pK, i64_w, i32_w]
         rfl
        refine pu (i := 3) (N := some 84) (v := ?_) (a' := ?_) (bs 175 11) rfl rfl HT_ ?_ ?_ ?_
        rotate_left
        ·intro w'
         go_simp
         with_reducible rfl
        rotate_left
        ·simp only [pA, pS, pZ, pK, i64_w, i32_w]
         rfl
        refine tk (i := 4) (N := some 85) (v := ?_) (a' := ?_) (bs 191 11) rfl rfl HT_ HW_ ?_ hHeld ?_ ?_
        rotate_left
        ·rintro w' ⟨s0, s1, s2, s3, s4, s5, s6, s7, s8, s9, s10, s11, s12, s13, s14, s15⟩
         go_simp
         with_reducible rfl
        rotate_left
        ·simp only [pA, pS, pZ, pK, i64_w, i32_w]
         rfl
        refine tk (i := 6) (N := some 87) (v := ?_) (a' := ?_) (bs 255 11) rfl rfl HT_ HW_ ?_ hHeld ?_ ?_
        rotate_left
        ·rintro w' ⟨s0, s1, s2, s3, s4, s5, s6, s7, s8, s9, s10, s11, s12, s13, s14, s15⟩
         go_simp
         with_reducible rfl
        rotate_left
        ·simp only [pA, pS, pZ, pK, i64_w, i32_w]
         rfl
        refine pu (i := 8) (N := some 89) (v := ?_) (a' := ?_) (bs 511 11) rfl rfl HT_ ?_ ?_ ?_
        rotate_left
        ·intro w'
         go_simp
         with_reducible rfl
        rotate_left
        ·simp only [pA, pS, pZ, pK, i64_w, i32_w]
         rfl
        refine tk (i := 9) (N := some 90) (v := ?_) (a' := ?_) (bs 1023 11) rfl rfl HT_ HW_ ?_ hHeld ?_ ?_
        rotate_left
        ·rintro w' ⟨s0, s1, s2, s3, s4, s5, s6, s7, s8, s9, s10, s11, s12, s13, s14, s15⟩
         go_simp
         with_reducible rfl
        rotate_left
        ·simp only [pA, pS, pZ, pK, i64_w, i32_w]
         rfl
        refine pu (i := 10) (N := some 91) (v := ?_) (a' := ?_) (bs 2047 11) rfl rfl HT_ ?_ ?_ ?_
        rotate_left
        ·intro w'
         go_simp
         with_reducible rfl
        rotate_left
        ·simp only [pA, pS, pZ, pK, i64_w, i32_w]
         rfl
        refine done_ (done_of HT_.out (by kernel_rfl)) ?_
        try go_wp2
        go_roundg k3
        case measure => have := HJ2.out; have := HK2.out; have := HK3.out; omega
        case rel => exact ⟨(wrap64 (x6_3 + 1)), (by first | rfl | (simp; done) | (simp [*]; done)), H', ⟨by have := HJ2.out; have := HK2.out; have := HK3.out; omega⟩, ⟨BH BK281.out⟩, ⟨BH BK282.out⟩, ⟨BT HB.out⟩⟩
       rw [if_neg c59] at H
       have c59b0 : decide (x6_3 < (l0_3.length : Int)) = false := decide_eq_false c59
       clear c59
       have H' := AM_ H
       clear H
       have hnb69 := NB281_282.out
       have hnc69 := NB282_281.out
       obtain ⟨hcz70_0, hcz70_1, hcz70_2, hcz70_3, hcz70_4, hcz70_5, hfz70_0, hfz70_1, hfz70_2, hfz70_3, hfz70_4, hfz70_5⟩ := bk6 BK281.out
       go_wp2
       go_loopg [7] k3 (fun kq v7 w' => ∃ (x7_4 : Int), v7 = .int .i64 x7_4 ∧ Aside0 (spec_EqualEngines.l2 kq x7_4 a0_0 l0_1 l0_2 l0_3 l0_4 a0_5 a1_0 l1_1 l1_2 l1_3 l1_4 a1_5 = some r) ∧ Aside0 (kq ≤ k3) ∧ Aside0 (w'.heap[gb281]? = some (.cells #[.bool a0_0, (.slice A0_1 l0_1.length c0_1), (.slice A0_2 l0_2.length c0_2), (.slice A0_3 l0_3.length c0_3), (.slice A0_4 l0_4.length c0_4), .int .i64 a0_5] 53 (0, 0))) ∧ Aside0 (w'.heap[gb282]? = some (.cells #[.bool a1_0, (.slice A1_1 l1_1.length c1_1), (.slice A1_2 l1_2.length c1_2), (.slice A1_3 l1_3.length c1_3), (.slice A1_4 l1_4.length c1_4), .int .i64 a1_5] 53 (0, 0))) ∧ Aside0 (Below w.heap.size w w'))
       case atStart => exact ⟨(0), (by first | rfl | (simp; done) | (simp [*]; done)), H', ⟨Nat.le_refl _⟩, ⟨BH BK281.out⟩, ⟨BH BK282.out⟩, ⟨BT HB.out⟩⟩
       case round =>
        clear H'
        try clear c1
        try clear c2
        try clear p2
        try clear q2
        try clear hx2
        try clear c4
        try clear c5
        try clear c6
        try clear p6
        try clear c12
        try clear c28
        try clear p28
        try clear q28
        try clear hx28
        try clear c44
        try clear c44b0
        try clear c45
        try clear c45b0
        try clear c46
        try clear c46b0
        try clear c48
        try clear c49
        try clear c53
        try clear c57
        try clear c59
        try clear c59b0
        try clear c60
        try clear c60b0
        try clear c61
        try clear c61b0
        try clear c62
        try clear c62b0
        try clear c63
        try clear p64
        try clear c66
        try clear c69
        try clear hcz50_0
        try clear hcz50_1
        try clear hcz50_2
        try clear hcz50_3
        try clear hcz50_4
        try clear hcz50_5
        try clear hcz54_0
        try clear hcz54_1
        try clear hcz54_2
        try clear hcz54_3
        try clear hcz54_4
        try clear hcz54_5
        try clear hcz58_0
        try clear hcz58_1
        try clear hcz58_2
        try clear hcz58_3
        try clear hcz58_4
        try clear hcz58_5
        try clear hcz64_0
        try clear hcz64_1
        try clear hcz64_2
        try clear hcz64_3
        try clear hcz64_4
        try clear hcz64_5
        try clear hcz67_0
        try clear hcz67_1
        try clear hcz67_2
        try clear hcz67_3
        try clear hcz67_4
        try clear hcz67_5
        try clear hcz70_0
        try clear hcz70_1
        try clear hcz70_2
        try clear hcz70_3
        try clear hcz70_4
        try clear hcz70_5
        try clear hfz19_3
        try clear hfz19_4
        try clear hfz19_5
        try clear hfz20_0
        try clear hfz20_1
        try clear hfz20_2
        try clear hfz20_3
        try clear hfz20_4
        try clear hfz20_5
        try clear hfz22_0
        try clear hfz22_1
        try clear hfz22_2
        try clear hfz22_3
        try clear hfz22_4
        try clear hfz22_5
        try clear hfz23_0
        try clear hfz23_1
        try clear hfz23_2
        try clear hfz23_3
        try clear hfz23_4
        try clear hfz23_5
        try clear hfz25_0
        try clear hfz25_1
        try clear hfz25_2
        try clear hfz25_3
        try clear hfz25_4
        try clear hfz25_5
        try clear hfz26_0
        try clear hfz26_1
        try clear hfz26_2
        try clear hfz26_3
        try clear hfz26_4
        try clear hfz26_5
        try clear hfz28_0
        try clear hfz28_1
        try clear hfz28_2
        try clear hfz28_3
        try clear hfz28_4
        try clear hfz28_5
        try clear hfz29_0
        try clear hfz29_1
        try clear hfz29_2
        try clear hfz29_3
        try clear hfz29_4
        try clear hfz29_5
        try clear hfz31_0
        try clear hfz31_1
        try clear hfz31_2
        try clear hfz31_3
        try clear hfz31_4
        try clear hfz31_5
        try clear hfz32_0
        try clear hfz32_1
        try clear hfz32_2
        try clear hfz32_3
        try clear hfz32_4
        try clear hfz32_5
        try clear hfz34_0
        try clear hfz34_1
        try clear hfz34_2
        try clear hfz34_3
        try clear hfz34_4
        try clear hfz34_5
        try clear hfz35_0
        try clear hfz35_1
        try clear hfz35_2
        try clear hfz35_3
        try clear hfz35_4
        try clear hfz35_5
        try clear hfz37_0
        try clear hfz37_1
        try clear hfz37_2
        try clear hfz37_3
        try clear hfz37_4
        try clear hfz37_5
        try clear hfz38_0
        try clear hfz38_1
        try clear hfz38_2
        try clear hfz38_3
        try clear hfz38_4
        try clear hfz38_5
        try clear hfz40_0
        try clear hfz40_1
        try clear hfz40_2
        try clear hfz40_3
        try clear hfz40_4
        try clear hfz40_5
        try clear hfz41_0
        try clear hfz41_1
        try clear hfz41_2
        try clear hfz41_3
        try clear hfz41_4
        try clear hfz41_5
        try clear hfz50_0
        try clear hfz50_1
        try clear hfz50_2
        try clear hfz50_3
        try clear hfz50_4
        try clear hfz50_5
        try clear hfz54_0
        try clear hfz54_1
        try clear hfz54_2
        try clear hfz54_3
        try clear hfz54_4
        try clear hfz54_5
        try clear hfz58_0
        try clear hfz58_1
        try clear hfz58_2
        try clear hfz58_3
        try clear hfz58_4
        try clear hfz58_5
        try clear hfz64_0
        try clear hfz64_1
        try clear hfz64_2
        try clear hfz64_3
        try clear hfz64_4
        try clear hfz64_5
        try clear hfz67_0
        try clear hfz67_1
        try clear hfz67_2
        try clear hfz67_3
        try clear hfz67_4
        try clear hfz67_5
        try clear hfz70_0
        try clear hfz70_1
        try clear hfz70_2
        try clear hfz70_3
        try clear hfz70_4
        try clear hfz70_5
        try clear hfz8_0
        try clear hfz8_1
        try clear hfz8_2
        try clear hfz8_3
        try clear hfz8_4
        try clear hfz8_5
        try clear hfz9_0
        try clear hfz9_1
        try clear hfz9_2
        try clear hfz9_3
        try clear hfz9_4
        try clear hfz9_5
        try clear hx284_0
        try clear hx284_1
        try clear hx284_2
        try clear hx284_3
        try clear hx284_4
        try clear hx284_5
        try clear hx284_6
        try clear hx284_7
        try clear hx284_8
        try clear hx285_0
        try clear hx285_1
        try clear hx285_2
        try clear hx285_3
        try clear hx285_4
        try clear hx285_5
        try clear hx285_6
        try clear hx285_7
        try clear hx285_8
        try clear hx287_0
        try clear hx287_1
        try clear hx288_0
        try clear hx288_1
        try clear p2
        try clear p28
        try clear p284
        try clear p285
        try clear p287
        try clear p288
        try clear p6
        try clear q2
        try clear q28
        try clear q284
        try clear q285
        try clear q287
        try clear q288
        obtain ⟨x7_4, rfl, HA, HK4, BK281, BK282, HB⟩ := hrel
        cases gk with
        | zero => exact absurd HA.out (by simp [spec_EqualEngines.l2])
        | succ k4 =>
         have H := HA.out
         clear HA
         simp only [spec_EqualEngines.l2] at H
         by_cases c71 : x7_4 < (l0_4.length : Int)
         rotate_left
         ·rw [if_neg c71] at H
          have c71b0 : decide (x7_4 < (l0_4.length : Int)) = false := decide_eq_false c71
          clear c71
          obtain rfl := Option.some.inj H
          have hnb81 := NB281_282.out
          have hnc81 := NB282_281.out
          obtain ⟨hcz82_0, hcz82_1, hcz82_2, hcz82_3, hcz82_4, hcz82_5, hfz82_0, hfz82_1, hfz82_2, hfz82_3, hfz82_4, hfz82_5⟩ := bk6 BK281.out
          go_wp2
          go_ret
          exact QT (BT HB.out)
         rw [if_pos c71] at H
         have c71b0 : decide (x7_4 < (l0_4.length : Int)) = true := decide_eq_true c71
         clear c71
         by_cases c72 : 0 ≤ x7_4
         rotate_left
         ·rw [if_neg c72] at H
          exact absurd H (by simp)
         rw [if_pos c72] at H
         have c72b0 : decide (0 ≤ x7_4) = true := decide_eq_true c72
         clear c72
         by_cases c73 : x7_4 < (l1_4.length : Int)
         rotate_left
         ·rw [if_neg c73] at H
          exact absurd H (by simp)
         rw [if_pos c73] at H
         have c73b0 : decide (x7_4 < (l1_4.length : Int)) = true := decide_eq_true c73
         clear c73
         by_cases c74 : (!(((rd_T36 l0_4 x7_4).f0) == ((rd_T36 l1_4 x7_4).f0)) || (!(((rd_T36 l0_4 x7_4).f1) == ((rd_T36 l1_4 x7_4).f1)))) = true
         ·rw [if_pos c74] at H
          have c74b0 : (!(((rd_T36 l0_4 x7_4).f0) == ((rd_T36 l1_4 x7_4).f0)) || (!(((rd_T36 l0_4 x7_4).f1) == ((rd_T36 l1_4 x7_4).f1)))) = true := c74
          clear c74
          obtain rfl := Option.some.inj H
          have hnb75 := NB281_282.out
          have hnc75 := NB282_281.out
          obtain ⟨hcz76_0, hcz76_1, hcz76_2, hcz76_3, hcz76_4, hcz76_5, hfz76_0, hfz76_1, hfz76_2, hfz76_3, hfz76_4, hfz76_5⟩ := bk6 BK281.out
          try go_wp2
          replace BK281 := AM_ (blk_drew BK281.out)
          replace BK282 := AM_ (blk_drew BK282.out)
          replace HB := AM_ (below_drew1 HB.out)
          have p289 : 0 ≤ (x7_4 : Int) := DT
          have q289 : x7_4 < (l0_4.length : Int) := DT
          obtain ⟨ad289, e289, hx289_0, hx289_1⟩ := at_T36 HR0_4.out x7_4 p289 q289
          have hw289_1 := hx289_1
          have hw289_0 := hx289_0
          cases e289
          replace hx289_0 := BC HB.out hx289_0
          replace hx289_1 := BC HB.out hx289_1
          replace p289 := eq_true p289
          replace q289 := eq_true q289
          have p290 : 0 ≤ (x7_4 : Int) := DT
          have q290 : x7_4 < (l1_4.length : Int) := DT
          obtain ⟨ad290, e290, hx290_0, hx290_1⟩ := at_T36 HR1_4.out x7_4 p290 q290
          have hw290_1 := hx290_1
          have hw290_0 := hx290_0
          cases e290
          replace hx290_0 := BC HB.out hx290_0
          replace hx290_1 := BC HB.out hx290_1
          replace p290 := eq_true p290
          replace q290 := eq_true q290
          refine start_ (n := 11) (S := fun w' => w'.cell? ⟨gb281, 0, none⟩ = some (.bool a0_0) ∧ w'.cell? ⟨gb281, 1, none⟩ = some (.slice A0_1 l0_1.length c0_1) ∧ w'.cell? ⟨gb281, 2, none⟩ = some (.slice A0_2 l0_2.length c0_2) ∧ w'.cell? ⟨gb281, 3, none⟩ = some (.slice A0_3 l0_3.length c0_3) ∧ w'.cell? ⟨gb281, 4, none⟩ = some (.slice (some ad289) l0_4.length c0_4) ∧ w'.cell? ⟨gb281, 5, none⟩ = some (.int .i64 a0_5) ∧ w'.cell? ⟨gb282, 0, none⟩ = some (.bool a1_0) ∧ w'.cell? ⟨gb282, 1, none⟩ = some (.slice A1_1 l1_1.length c1_1) ∧ w'.cell? ⟨gb282, 2, none⟩ = some (.slice A1_2 l1_2.length c1_2) ∧ w'.cell? ⟨gb282, 3, none⟩ = some (.slice A1_3 l1_3.length c1_3) ∧ w'.cell? ⟨gb282, 4, none⟩ = some (.slice (some ad290) l1_4.length c1_4) ∧ w'.cell? ⟨gb282, 5, none⟩ = some (.int .i64 a1_5) ∧ w'.cell? (ad289.add ((x7_4).toNat * 2)) = some (.int .i64 ((rd_T36 l0_4 x7_4).f0)) ∧ w'.cell? ⟨(ad289.add ((x7_4).toNat * 2)).block, (ad289.add ((x7_4).toNat * 2)).off + 1, none⟩ = some (.int .i64 ((rd_T36 l0_4 x7_4).f1)) ∧ w'.cell? (ad290.add ((x7_4).toNat * 2)) = some (.int .i64 ((rd_T36 l1_4 x7_4).f0)) ∧ w'.cell? ⟨(ad290.add ((x7_4).toNat * 2)).block, (ad290.add ((x7_4).toNat * 2)).off + 1, none⟩ = some (.int .i64 ((rd_T36 l1_4 x7_4).f1))) (ds := []) (bs 0 11) (by kernel_rfl) rfl rfl ⟨bc BK281.out 0, bc BK281.out 1, bc BK281.out 2, bc BK281.out 3, bc BK281.out 4, bc BK281.out 5, bc BK282.out 0, bc BK282.out 1, bc BK282.out 2, bc BK282.out 3, bc BK282.out 4, bc BK282.out 5, (BD HB.out hw289_0), (BD HB.out hw289_1), (BD HB.out hw290_0), (BD HB.out hw290_1)⟩ (fun hHeld => ?_); refine with_tabW spec_EqualEngines.tab16 spec_EqualEngines.bits16 (fun HT_ HW_ => ?_)
          generalize wr.drew = w77 at BK281 BK282 HB hx289_0 hx289_1 hx290_0 hx290_1 hHeld ⊢
          refine pu (i := 0) (N := some 99) (v := ?_) (a' := ?_) (bs 1 11) rfl rfl HT_ ?_ ?_ ?_
          rotate_left
          ·intro w'
           go_simp
           with_reducible rfl
          rotate_left
          ·simp only [pA, pS, pZ, pK, i64_w, i32_w]
           rfl
          refine pu (i := 2) (N := some 101) (v := ?_) (a' := ?_) (bs 5 11) rfl rfl HT_ ?_ ?_ ?_
          rotate_left
          ·intro w'
           go_simp
           with_reducible rfl
          rotate_left
          ·simp only [pA, pS, pZ, pK, i64_w, i32_w]
           rfl
          refine pu (i := 5) (N := some 104) (v := ?_) (a' := ?_) (bs 37 11) rfl rfl HT_ ?_ ?_ ?_
          rotate_left
          ·intro w'
           go_simp
           with_reducible rfl
          rotate_left
          ·simp only [pA, pS, pZ, pK, i64_w, i32_w]
           rfl
          refine pu (i := 7) (N := some 106) (v := ?_) (a' := ?_) (bs 165 11) rfl rfl HT_ ?_ ?_ ?_
          rotate_left
          ·intro w'
           go_simp
           with_reducible rfl
          rotate_left
          ·simp only [pA, pS, pZ, pK, i64_w, i32_w]
           rfl
          refine tk (i := 1) (N := some 100) (v := ?_) (a' := ?_) (bs 167 11) rfl rfl HT_ HW_ ?_ hHeld ?_ ?_
          rotate_left
          ·rintro w' ⟨s0, s1, s2, s3, s4, s5, s6, s7, s8, s9, s10, s11, s12, s13, s14, s15⟩
           go_simp
           with_reducible rfl
          rotate_left
          ·simp only [pA, pS, pZ, pK, i64_w, i32_w]
           rfl
          refine pu (i := 3) (N := some 102) (v := ?_) (a' := ?_) (bs 175 11) rfl rfl HT_ ?_ ?_ ?_
          rotate_left
          ·intro w'
           go_simp
           with_reducible rfl
          rotate_left
          ·simp only [pA, pS, pZ, pK, i64_w, i32_w]
           rfl
          refine tk (i := 4) (N := some 103) (v := ?_) (a' := ?_) (bs 191 11) rfl rfl HT_ HW_ ?_ hHeld ?_ ?_
          rotate_left
          ·rintro w' ⟨s0, s1, s2, s3, s4, s5, s6, s7, s8, s9, s10, s11, s12, s13, s14, s15⟩
           go_simp
           with_reducible rfl
          rotate_left
          ·simp only [pA, pS, pZ, pK, i64_w, i32_w]
           rfl
          refine tk (i := 6) (N := some 105) (v := ?_) (a' := ?_) (bs 255 11) rfl rfl HT_ HW_ ?_ hHeld ?_ ?_
          rotate_left
          ·rintro w' ⟨s0, s1, s2, s3, s4, s5, s6, s7, s8, s9, s10, s11, s12, s13, s14, s15⟩
           go_simp
           with_reducible rfl
          rotate_left
          ·simp only [pA, pS, pZ, pK, i64_w, i32_w]
           rfl
          refine pu (i := 8) (N := some 107) (v := ?_) (a' := ?_) (bs 511 11) rfl rfl HT_ ?_ ?_ ?_
          rotate_left
          ·intro w'
           go_simp
           with_reducible rfl
          rotate_left
          ·simp only [pA, pS, pZ, pK, i64_w, i32_w]
           rfl
          refine tk (i := 9) (N := some 108) (v := ?_) (a' := ?_) (bs 1023 11) rfl rfl HT_ HW_ ?_ hHeld ?_ ?_
          rotate_left
          ·rintro w' ⟨s0, s1, s2, s3, s4, s5, s6, s7, s8, s9, s10, s11, s12, s13, s14, s15⟩
           go_simp
           with_reducible rfl
          rotate_left
          ·simp only [pA, pS, pZ, pK, i64_w, i32_w]
           rfl
          refine pu (i := 10) (N := some 109) (v := ?_) (a' := ?_) (bs 2047 11) rfl rfl HT_ ?_ ?_ ?_
          rotate_left
          ·intro w'
           go_simp
           with_reducible rfl
          rotate_left
          ·simp only [pA, pS, pZ, pK, i64_w, i32_w]
           rfl
          refine done_ (done_of HT_.out (by kernel_rfl)) ?_
          try go_wp2
          go_ret
          exact QT (BT HB.out)
         rw [if_neg c74] at H
         have c74b0 : (!(((rd_T36 l0_4 x7_4).f0) == ((rd_T36 l1_4 x7_4).f0)) || (!(((rd_T36 l0_4 x7_4).f1) == ((rd_T36 l1_4 x7_4).f1)))) = false := by simpa using c74
         clear c74
         have H' := AM_ H
         clear H
         have hnb78 := NB281_282.out
         have hnc78 := NB282_281.out
         obtain ⟨hcz79_0, hcz79_1, hcz79_2, hcz79_3, hcz79_4, hcz79_5, hfz79_0, hfz79_1, hfz79_2, hfz79_3, hfz79_4, hfz79_5⟩ := bk6 BK281.out
         try go_wp2
         replace BK281 := AM_ (blk_drew BK281.out)
         replace BK282 := AM_ (blk_drew BK282.out)
         replace HB := AM_ (below_drew1 HB.out)
         have p289 : 0 ≤ (x7_4 : Int) := DT
         have q289 : x7_4 < (l0_4.length : Int) := DT
         obtain ⟨ad289, e289, hx289_0, hx289_1⟩ := at_T36 HR0_4.out x7_4 p289 q289
         have hw289_1 := hx289_1
         have hw289_0 := hx289_0
         cases e289
         replace hx289_0 := BC HB.out hx289_0
         replace hx289_1 := BC HB.out hx289_1
         replace p289 := eq_true p289
         replace q289 := eq_true q289
         have p290 : 0 ≤ (x7_4 : Int) := DT
         have q290 : x7_4 < (l1_4.length : Int) := DT
         obtain ⟨ad290, e290, hx290_0, hx290_1⟩ := at_T36 HR1_4.out x7_4 p290 q290
         have hw290_1 := hx290_1
         have hw290_0 := hx290_0
         cases e290
         replace hx290_0 := BC HB.out hx290_0
         replace hx290_1 := BC HB.out hx290_1
         replace p290 := eq_true p290
         replace q290 := eq_true q290
         refine start_ (n := 11) (S := fun w' => w'.cell? ⟨gb281, 0, none⟩ = some (.bool a0_0) ∧ w'.cell? ⟨gb281, 1, none⟩ = some (.slice A0_1 l0_1.length c0_1) ∧ w'.cell? ⟨gb281, 2, none⟩ = some (.slice A0_2 l0_2.length c0_2) ∧ w'.cell? ⟨gb281, 3, none⟩ = some (.slice A0_3 l0_3.length c0_3) ∧ w'.cell? ⟨gb281, 4, none⟩ = some (.slice (some ad289) l0_4.length c0_4) ∧ w'.cell? ⟨gb281, 5, none⟩ = some (.int .i64 a0_5) ∧ w'.cell? ⟨gb282, 0, none⟩ = some (.bool a1_0) ∧ w'.cell? ⟨gb282, 1, none⟩ = some (.slice A1_1 l1_1.length c1_1) ∧ w'.cell? ⟨gb282, 2, none⟩ = some (.slice A1_2 l1_2.length c1_2) ∧ w'.cell? ⟨gb282, 3, none⟩ = some (.slice A1_3 l1_3.length c1_3) ∧ w'.cell? ⟨gb282, 4, none⟩ = some (.slice (some ad290) l1_4.length c1_4) ∧ w'.cell? ⟨gb282, 5, none⟩ = some (.int .i64 a1_5) ∧ w'.cell? (ad289.add ((x7_4).toNat * 2)) = some (.int .i64 ((rd_T36 l0_4 x7_4).f0)) ∧ w'.cell? ⟨(ad289.add ((x7_4).toNat * 2)).block, (ad289.add ((x7_4).toNat * 2)).off + 1, none⟩ = some (.int .i64 ((rd_T36 l0_4 x7_4).f1)) ∧ w'.cell? (ad290.add ((x7_4).toNat * 2)) = some (.int .i64 ((rd_T36 l1_4 x7_4).f0)) ∧ w'.cell? ⟨(ad290.add ((x7_4).toNat * 2)).block, (ad290.add ((x7_4).toNat * 2)).off + 1, none⟩ = some (.int .i64 ((rd_T36 l1_4 x7_4).f1))) (ds := []) (bs 0 11) (by kernel_rfl) rfl rfl ⟨bc BK281.out 0, bc BK281.out 1, bc BK281.out 2, bc BK281.out 3, bc BK281.out 4, bc BK281.out 5, bc BK282.out 0, bc BK282.out 1, bc BK282.out 2, bc BK282.out 3, bc BK282.out 4, bc BK282.out 5, (BD HB.out hw289_0), (BD HB.out hw289_1), (BD HB.out hw290_0), (BD HB.out hw290_1)⟩ (fun hHeld => ?_); refine with_tabW spec_EqualEngines.tab16 spec_EqualEngines.bits16 (fun HT_ HW_ => ?_)
         generalize wr.drew = w80 at BK281 BK282 HB hx289_0 hx289_1 hx290_0 hx290_1 hHeld ⊢
         refine pu (i := 0) (N := some 99) (v := ?_) (a' := ?_) (bs 1 11) rfl rfl HT_ ?_ ?_ ?_
         rotate_left
         ·intro w'
          go_simp
          with_reducible rfl
         rotate_left
         ·simp only [pA, pS, pZ, pK, i64_w, i32_w]
          rfl
         refine pu (i := 2) (N := some 101) (v := ?_) (a' := ?_) (bs 5 11) rfl rfl HT_ ?_ ?_ ?_
         rotate_left
         ·intro w'
          go_simp
          with_reducible rfl
         rotate_left
         ·simp only [pA, pS, pZ, pK, i64_w, i32_w]
          rfl
         refine pu (i := 5) (N := some 104) (v := ?_) (a' := ?_) (bs 37 11) rfl rfl HT_ ?_ ?_ ?_
         rotate_left
         ·intro w'
          go_simp
          with_reducible rfl
         rotate_left
         ·simp only [pA, pS, pZ, pK, i64_w, i32_w]
          rfl
         refine pu (i := 7) (N := some 106) (v := ?_) (a' := ?_) (bs 165 11) rfl rfl HT_ ?_ ?_ ?_
         rotate_left
         ·intro w'
          go_simp
          with_reducible rfl
         rotate_left
         ·simp only [pA, pS, pZ, pK, i64_w, i32_w]
          rfl
         refine tk (i := 1) (N := some 100) (v := ?_) (a' := ?_) (bs 167 11) rfl rfl HT_ HW_ ?_ hHeld ?_ ?_
         rotate_left
         ·rintro w' ⟨s0, s1, s2, s3, s4, s5, s6, s7, s8, s9, s10, s11, s12, s13, s14, s15⟩
          go_simp
          with_reducible rfl
         rotate_left
         ·simp only [pA, pS, pZ, pK, i64_w, i32_w]
          rfl
         refine pu (i := 3) (N := some 102) (v := ?_) (a' := ?_) (bs 175 11) rfl rfl HT_ ?_ ?_ ?_
         rotate_left
         ·intro w'
          go_simp
          with_reducible rfl
         rotate_left
         ·simp only [pA, pS, pZ, pK, i64_w, i32_w]
          rfl
         refine tk (i := 4) (N := some 103) (v := ?_) (a' := ?_) (bs 191 11) rfl rfl HT_ HW_ ?_ hHeld ?_ ?_
         rotate_left
         ·rintro w' ⟨s0, s1, s2, s3, s4, s5, s6, s7, s8, s9, s10, s11, s12, s13, s14, s15⟩
          go_simp
          with_reducible rfl
         rotate_left
         ·simp only [pA, pS, pZ, pK, i64_w, i32_w]
          rfl
         refine tk (i := 6) (N := some 105) (v := ?_) (a' := ?_) (bs 255 11) rfl rfl HT_ HW_ ?_ hHeld ?_ ?_
         rotate_left
         ·rintro w' ⟨s0, s1, s2, s3, s4, s5, s6, s7, s8, s9, s10, s11, s12, s13, s14, s15⟩
          go_simp
          with_reducible rfl
         rotate_left
         ·simp only [pA, pS, pZ, pK, i64_w, i32_w]
          rfl
         refine pu (i := 8) (N := some 107) (v := ?_) (a' := ?_) (bs 511 11) rfl rfl HT_ ?_ ?_ ?_
         rotate_left
         ·intro w'
          go_simp
          with_reducible rfl
         rotate_left
         ·simp only [pA, pS, pZ, pK, i64_w, i32_w]
          rfl
         refine tk (i := 9) (N := some 108) (v := ?_) (a' := ?_) (bs 1023 11) rfl rfl HT_ HW_ ?_ hHeld ?_ ?_
         rotate_left
         ·rintro w' ⟨s0, s1, s2, s3, s4, s5, s6, s7, s8, s9, s10, s11, s12, s13, s14, s15⟩
          go_simp
          with_reducible rfl
         rotate_left
         ·simp only [pA, pS, pZ, pK, i64_w, i32_w]
          rfl
         refine pu (i := 10) (N := some 109) (v := ?_) (a' := ?_) (bs 2047 11) rfl rfl HT_ ?_ ?_ ?_
         rotate_left
         ·intro w'
          go_simp
          with_reducible rfl
         rotate_left
         ·simp only [pA, pS, pZ, pK, i64_w, i32_w]
          rfl
         refine done_ (done_of HT_.out (by kernel_rfl)) ?_
         try go_wp2
         go_roundg k4
         case measure => have := HJ2.out; have := HK2.out; have := HK3.out; have := HK4.out; omega
         case rel => exact ⟨(wrap64 (x7_4 + 1)), (by first | rfl | (simp; done) | (simp [*]; done)), H', ⟨by have := HJ2.out; have := HK2.out; have := HK3.out; have := HK4.out; omega⟩, ⟨BH BK281.out⟩, ⟨BH BK282.out⟩, ⟨BT HB.out⟩⟩

end Go.Proofs.Ytakpkmlbklahhaa.PFnExactEqualEngines
