-- Printed by wip/myprint.py.
import Derived.Test.YtdgknikgfjhohaaPFnExactIsValidEnginex3
import Derived.Test.YtdgknikgfjhohaaPFnExactIsValidEnginex4
import Derived.Test.YtdgknikgfjhohaaPFnExactIsValidEnginex7
namespace Go.Proofs.Ytdgknikgfjhohaa.PFnExactIsValidEngine
open Go.RowKit Go.Proofs.YtdgknikgfjhohaaW.PrintWords Go.Proofs.YtdgknikgfjhohaaW.PrintLast Go.Proofs.YtdgknikgfjhohaaW.PrintMore
set_option maxHeartbeats 8000000
set_option maxRecDepth 100000
set_option linter.unusedVariables false
set_option linter.unusedSimpArgs false

/-! ### spec_IsValidEngine: function 6 -/
mutual
def spec_IsValidEngine.j0 : Nat → Bool → Bool → List (List (S52)) → List (S48) → List (S76) → List (S78) → Int → Option (Bool)
 | 0, _, _, _, _, _, _, _ => none
 | k + 1, x37, x193000, x193001, x193002, x193003, x193004, x193005 => if x37 = true then (some false) else (spec_IsValidEngine.l0 k 0 x193000 x193001 x193002 x193003 x193004 x193005)
def spec_IsValidEngine.l0 : Nat → Int → Bool → List (List (S52)) → List (S48) → List (S76) → List (S78) → Int → Option (Bool)
 | 0, _, _, _, _, _, _, _ => none
 | k + 1, x3, x193000, x193001, x193002, x193003, x193004, x193005 => if x3 < (x193002.length : Int) then (if 0 ≤ x3 then ((spec_IsValidTransaction.f k ((rd_T48 x193002 x3).f0) ((rd_T48 x193002 x3).f1) ((rd_T48 x193002 x3).f2) ((rd_T48 x193002 x3).f3) ((rd_T48 x193002 x3).f4) ((rd_T48 x193002 x3).f5) ((rd_T48 x193002 x3).f6) ((rd_T48 x193002 x3).f7) ((rd_T48 x193002 x3).f8)).bind fun t200 => (if t200 = true then (if x3 > 0 then (if 0 ≤ (wrap64 (x3 - 1)) then (if (wrap64 (x3 - 1)) < (x193002.length : Int) then (if ((rd_T48 x193002 (wrap64 (x3 - 1))).f0) ≥ ((rd_T48 x193002 x3).f0) then (some false) else (if ((rd_T48 x193002 x3).f3) > x193005 then (some false) else (if ((rd_T48 x193002 x3).f6) > x193005 then (some false) else (if ((rd_T48 x193002 x3).f2) = 1 then ((spec_ReadsExist.f k x193001 ((rd_T48 x193002 x3).f0) ((rd_T48 x193002 x3).f1) ((rd_T48 x193002 x3).f2) ((rd_T48 x193002 x3).f3) ((rd_T48 x193002 x3).f4) ((rd_T48 x193002 x3).f5) ((rd_T48 x193002 x3).f6) ((rd_T48 x193002 x3).f7) ((rd_T48 x193002 x3).f8)).bind fun t202 => (if t202 = true then (spec_IsValidEngine.l0 k (wrap64 (x3 + 1)) x193000 x193001 x193002 x193003 x193004 x193005) else (some false))) else (spec_IsValidEngine.l0 k (wrap64 (x3 + 1)) x193000 x193001 x193002 x193003 x193004 x193005))))) else (none)) else (none)) else (if ((rd_T48 x193002 x3).f3) > x193005 then (some false) else (if ((rd_T48 x193002 x3).f6) > x193005 then (some false) else (if ((rd_T48 x193002 x3).f2) = 1 then ((spec_ReadsExist.f k x193001 ((rd_T48 x193002 x3).f0) ((rd_T48 x193002 x3).f1) ((rd_T48 x193002 x3).f2) ((rd_T48 x193002 x3).f3) ((rd_T48 x193002 x3).f4) ((rd_T48 x193002 x3).f5) ((rd_T48 x193002 x3).f6) ((rd_T48 x193002 x3).f7) ((rd_T48 x193002 x3).f8)).bind fun t203 => (if t203 = true then (spec_IsValidEngine.l0 k (wrap64 (x3 + 1)) x193000 x193001 x193002 x193003 x193004 x193005) else (some false))) else (spec_IsValidEngine.l0 k (wrap64 (x3 + 1)) x193000 x193001 x193002 x193003 x193004 x193005))))) else (some false))) else (none)) else (spec_IsValidEngine.l1 k 0 x193000 x193001 x193002 x193003 x193004 x193005)
def spec_IsValidEngine.l1 : Nat → Int → Bool → List (List (S52)) → List (S48) → List (S76) → List (S78) → Int → Option (Bool)
 | 0, _, _, _, _, _, _, _ => none
 | k + 1, x5, x193000, x193001, x193002, x193003, x193004, x193005 => if x5 < (x193003.length : Int) then (if 0 ≤ x5 then ((spec_l13Active.f k x193000 x193001 x193002 x193003 x193004 x193005 ((rd_T76 x193003 x5).f1)).bind fun t205 => (if t205 = true then (spec_IsValidEngine.l1 k (wrap64 (x5 + 1)) x193000 x193001 x193002 x193003 x193004 x193005) else (some false))) else (none)) else (spec_IsValidEngine.l2 k 0 x193000 x193001 x193002 x193003 x193004 x193005)
def spec_IsValidEngine.l2 : Nat → Int → Bool → List (List (S52)) → List (S48) → List (S76) → List (S78) → Int → Option (Bool)
 | 0, _, _, _, _, _, _, _ => none
 | k + 1, x6, x193000, x193001, x193002, x193003, x193004, x193005 => if x6 < (x193004.length : Int) then (if 0 ≤ x6 then ((spec_l13Active.f k x193000 x193001 x193002 x193003 x193004 x193005 ((rd_T78 x193004 x6).f0)).bind fun t207 => (if t207 = true then ((spec_l13Active.f k x193000 x193001 x193002 x193003 x193004 x193005 ((rd_T78 x193004 x6).f1)).bind fun t209 => (if t209 = true then (spec_IsValidEngine.l2 k (wrap64 (x6 + 1)) x193000 x193001 x193002 x193003 x193004 x193005) else (some false))) else (some false))) else (none)) else (some true)
end
def spec_IsValidEngine.f (k : Nat) (a0_0 : Bool) (l0_1 : List (List (S52))) (l0_2 : List (S48)) (l0_3 : List (S76)) (l0_4 : List (S78)) (a0_5 : Int) : Option (Bool) := (spec_IsValidStore.f k l0_1).bind fun t193 => (if t193 = true then ((spec_AreLocks.f k l0_3).bind fun t194 => (if t194 = true then ((spec_AreWaits.f k l0_4).bind fun t195 => (if t195 = true then ((spec_LastStamp.f k l0_1).bind fun t196 => ((spec_l1In.f a0_5 t196 999).bind fun t197 => (if t197 = true then (spec_IsValidEngine.j0 k (decide ((l0_2.length : Int) > 6)) a0_0 l0_1 l0_2 l0_3 l0_4 a0_5) else (spec_IsValidEngine.j0 k true a0_0 l0_1 l0_2 l0_3 l0_4 a0_5)))) else (spec_IsValidEngine.j0 k true a0_0 l0_1 l0_2 l0_3 l0_4 a0_5))) else (spec_IsValidEngine.j0 k true a0_0 l0_1 l0_2 l0_3 l0_4 a0_5))) else (spec_IsValidEngine.j0 k true a0_0 l0_1 l0_2 l0_3 l0_4 a0_5))
theorem spec_IsValidEngine.mono_l : ∀ k, (∀ y0 y1 y2 y3 y4 y5 y6, LeO (spec_IsValidEngine.j0 k y0 y1 y2 y3 y4 y5 y6) (spec_IsValidEngine.j0 (k + 1) y0 y1 y2 y3 y4 y5 y6)) ∧ (∀ y0 y1 y2 y3 y4 y5 y6, LeO (spec_IsValidEngine.l0 k y0 y1 y2 y3 y4 y5 y6) (spec_IsValidEngine.l0 (k + 1) y0 y1 y2 y3 y4 y5 y6)) ∧ (∀ y0 y1 y2 y3 y4 y5 y6, LeO (spec_IsValidEngine.l1 k y0 y1 y2 y3 y4 y5 y6) (spec_IsValidEngine.l1 (k + 1) y0 y1 y2 y3 y4 y5 y6)) ∧ (∀ y0 y1 y2 y3 y4 y5 y6, LeO (spec_IsValidEngine.l2 k y0 y1 y2 y3 y4 y5 y6) (spec_IsValidEngine.l2 (k + 1) y0 y1 y2 y3 y4 y5 y6))
 | 0 => ⟨fun _ _ _ _ _ _ _ r h => by simp [spec_IsValidEngine.j0] at h, fun _ _ _ _ _ _ _ r h => by simp [spec_IsValidEngine.l0] at h, fun _ _ _ _ _ _ _ r h => by simp [spec_IsValidEngine.l1] at h, fun _ _ _ _ _ _ _ r h => by simp [spec_IsValidEngine.l2] at h⟩
 | k + 1 => by
  obtain ⟨ih0, ih1, ih2, ih3⟩ := spec_IsValidEngine.mono_l k
  refine ⟨?_, ?_, ?_, ?_⟩
  all_goals intros; first | unfold spec_IsValidEngine.j0 | unfold spec_IsValidEngine.l0 | unfold spec_IsValidEngine.l1 | unfold spec_IsValidEngine.l2
  all_goals repeat' (with_reducible first | exact ih0 .. | exact ih1 .. | exact ih2 .. | exact ih3 .. | exact spec_AreLocks.mono .. | exact spec_AreWaits.mono .. | exact spec_IsValidStore.mono .. | exact spec_IsValidTransaction.mono .. | exact spec_LastStamp.mono .. | exact spec_ReadsExist.mono .. | exact spec_l13Active.mono .. | exact LeO.refl _ | exact LeO.none _ | refine LeO.ite ?_ ?_ | refine LeO.bind ?_ (fun _ => ?_))
theorem spec_IsValidEngine.mono : ∀ a0 a1 a2 a3 a4 a5 k, LeO (spec_IsValidEngine.f k a0 a1 a2 a3 a4 a5) (spec_IsValidEngine.f (k + 1) a0 a1 a2 a3 a4 a5) := by
 intro a0 a1 a2 a3 a4 a5 k
 obtain ⟨ih0, ih1, ih2, ih3⟩ := spec_IsValidEngine.mono_l k
 unfold spec_IsValidEngine.f
 repeat' (with_reducible first | exact ih0 .. | exact ih1 .. | exact ih2 .. | exact ih3 .. | exact spec_AreLocks.mono .. | exact spec_AreWaits.mono .. | exact spec_IsValidStore.mono .. | exact spec_IsValidTransaction.mono .. | exact spec_LastStamp.mono .. | exact spec_ReadsExist.mono .. | exact spec_l13Active.mono .. | exact LeO.refl _ | exact LeO.none _ | refine LeO.ite ?_ ?_ | refine LeO.bind ?_ (fun _ => ?_))
def spec_IsValidEngine.T1 : Bool × List (List Nat × List Nat) := (true, [([], []), ([0], [0]), ([1], [1]), ([2], [2]), ([3, 2], [3]), ([4], [4]), ([5, 4], [4, 5]), ([6, 4, 4], [4, 6]), ([7, 4], [4, 7]), ([4, 8], [4, 8]), ([9, 7], [9]), ([10], [10]), ([11, 10], [10, 11]), ([12, 10, 10], [10, 12]), ([13, 10], [10, 13]), ([10, 14], [10, 14]), ([15, 13], [15]), ([16], [16]), ([17, 16], [16, 17]), ([16], [16]), ([19, 16], [16, 19]), ([20, 16, 16], [16, 20]), ([18, 21, 21, 16], [16, 18, 21]), ([22, 16], [16, 22]), ([16, 23], [16, 23]), ([24, 22], [24]), ([25], [25]), ([26, 25], [25, 26]), ([27, 25], [25, 27]), ([28, 25], [25, 28]), ([25, 29], [25, 29])])
def spec_IsValidEngine.B1 : List Nat := [0, 1, 3, 7, 15, 31, 63, 127, 255, 511, 1023, 2047, 4095, 8191, 16383, 32767, 65535, 131071, 262143, 131071, 655359, 1703935, 4194303, 8388607, 16777215, 33554431, 67108863, 134217727, 268435455, 536870911, 1073741823]
theorem spec_IsValidEngine.tab1 : rtab .any (opsOf Try.f6 1) = spec_IsValidEngine.T1 := by kernel_rfl
theorem spec_IsValidEngine.bits1 : waitsOk spec_IsValidEngine.T1.2 spec_IsValidEngine.B1 = true := by kernel_rfl
def spec_IsValidEngine.T7 : Bool × List (List Nat × List Nat) := (true, [([], []), ([0], [0]), ([1], [1]), ([2, 1], [2]), ([3], [3]), ([4, 3], [3, 4]), ([5, 3, 3], [3, 5]), ([6], [6]), ([7, 6], [6, 7]), ([6], [6]), ([9, 6], [6, 9]), ([8, 10, 6], [6, 8, 10]), ([11, 6], [6, 11]), ([12, 6], [6, 12]), ([6], [6]), ([14, 6], [6, 14]), ([13, 15, 6], [6, 13, 15]), ([6, 16, 3], [3, 6, 16]), ([3, 17], [3, 17]), ([18, 6], [18]), ([19], [19]), ([20, 19], [19, 20]), ([19], [19]), ([22, 19], [19, 22]), ([21, 23, 19], [19, 21, 23]), ([19, 24], [19, 24]), ([25, 19], [25]), ([26], [26]), ([27, 26], [26, 27]), ([26], [26]), ([29, 26], [26, 29]), ([28, 30, 26], [26, 28, 30]), ([26, 31], [26, 31]), ([32, 26], [32]), ([33], [33]), ([34, 33], [33, 34]), ([35, 33], [33, 35]), ([36, 33, 33], [33, 36]), ([37], [37]), ([38, 37], [37, 38]), ([37], [37]), ([39, 40, 37, 37], [37, 39, 40]), ([41, 37], [37, 41]), ([37, 42, 33], [33, 37, 42]), ([33, 43], [33, 43])])
def spec_IsValidEngine.B7 : List Nat := [0, 1, 3, 7, 15, 31, 63, 127, 255, 127, 639, 2047, 4095, 8191, 127, 16511, 65535, 131071, 262143, 524287, 1048575, 2097151, 1048575, 5242879, 16777215, 33554431, 67108863, 134217727, 268435455, 134217727, 671088639, 2147483647, 4294967295, 8589934591, 17179869183, 34359738367, 68719476735, 137438953471, 274877906943, 549755813887, 274877906943, 2199023255551, 4398046511103, 8796093022207, 17592186044415]
theorem spec_IsValidEngine.tab7 : rtab .any (opsOf Try.f6 7) = spec_IsValidEngine.T7 := by kernel_rfl
theorem spec_IsValidEngine.bits7 : waitsOk spec_IsValidEngine.T7.2 spec_IsValidEngine.B7 = true := by kernel_rfl
def spec_IsValidEngine.T12 : Bool × List (List Nat × List Nat) := (true, [([], []), ([], []), ([1], [1]), ([], []), ([2, 3], [2, 3]), ([4], [4]), ([5], [5]), ([0, 6], [0, 6]), ([7], [7])])
def spec_IsValidEngine.B12 : List Nat := [0, 0, 2, 0, 14, 30, 62, 127, 255]
theorem spec_IsValidEngine.tab12 : rtab .any (opsOf Try.f6 12) = spec_IsValidEngine.T12 := by kernel_rfl
theorem spec_IsValidEngine.bits12 : waitsOk spec_IsValidEngine.T12.2 spec_IsValidEngine.B12 = true := by kernel_rfl
def spec_IsValidEngine.T17 : Bool × List (List Nat × List Nat) := (true, [([], []), ([], []), ([1], [1]), ([], []), ([2, 3], [2, 3]), ([4], [4]), ([5], [5]), ([0, 6], [0, 6]), ([7], [7]), ([8, 7], [8]), ([9], [9]), ([9], [9]), ([11, 9], [9, 11]), ([9], [9]), ([12, 13, 9], [9, 12, 13]), ([14, 9], [9, 14]), ([15, 9], [9, 15]), ([10, 16, 9, 9], [9, 10, 16]), ([17, 9], [9, 17]), ([9, 18], [9, 18])])
def spec_IsValidEngine.B17 : List Nat := [0, 0, 2, 0, 14, 30, 62, 127, 255, 511, 1023, 1023, 3071, 1023, 15359, 31743, 64511, 131071, 262143, 524287]
theorem spec_IsValidEngine.tab17 : rtab .any (opsOf Try.f6 17) = spec_IsValidEngine.T17 := by kernel_rfl
theorem spec_IsValidEngine.bits17 : waitsOk spec_IsValidEngine.T17.2 spec_IsValidEngine.B17 = true := by kernel_rfl
theorem spec_IsValidEngine.calls (k : Nat) (a0_0 : Bool) (A0_1 : Option Addr) (c0_1 : Nat) (l0_1 : List (List (S52))) (A0_2 : Option Addr) (c0_2 : Nat) (l0_2 : List (S48)) (A0_3 : Option Addr) (c0_3 : Nat) (l0_3 : List (S76)) (A0_4 : Option Addr) (c0_4 : Nat) (l0_4 : List (S78)) (a0_5 : Int) (r : Bool) (w : World) (hr0_1 : Kd.C (Kd.slice 52 k52) w A0_1 l0_1.length l0_1) (hc0_1 : l0_1.length ≤ c0_1) (hr0_2 : Kd.C k48 w A0_2 l0_2.length l0_2) (hc0_2 : l0_2.length ≤ c0_2) (hr0_3 : Kd.C k76 w A0_3 l0_3.length l0_3) (hc0_3 : l0_3.length ≤ c0_3) (hr0_4 : Kd.C k78 w A0_4 l0_4.length l0_4) (hc0_4 : l0_4.length ≤ c0_4) (h : spec_IsValidEngine.f k a0_0 l0_1 l0_2 l0_3 l0_4 a0_5 = some r) :
  Calls Try.prog 6 #[.agg #[.bool a0_0, .slice A0_1 l0_1.length c0_1, .slice A0_2 l0_2.length c0_2, .slice A0_3 l0_3.length c0_3, .slice A0_4 l0_4.length c0_4, .int .i64 a0_5]] w fun e w' => e = .returned (.bool r) ∧ Below w.heap.size w w' := by
 have hu39 := Try.underlying39
 have hu34 := Try.underlying34
 have hu48 := Try.underlying48
 have HR0_1 := AM_ hr0_1
 have HC0_1 := AM_ hc0_1
 clear hr0_1 hc0_1
 have HR0_2 := AM_ hr0_2
 have HC0_2 := AM_ hc0_2
 clear hr0_2 hc0_2
 have HR0_3 := AM_ hr0_3
 have HC0_3 := AM_ hc0_3
 clear hr0_3 hc0_3
 have HR0_4 := AM_ hr0_4
 have HC0_4 := AM_ hc0_4
 clear hr0_4 hc0_4
 have HB := AM_ (Below.refl w.heap.size w)
 unfold spec_IsValidEngine.f at h
 have H := h
 clear h
 have HC2 := AM_ H
 clear H
 go_enter Try.func6, Try.ntmps6
 go_upto_region 1 with (first | ((with_reducible refine G2 1 rfl ?_); (try (refine gate_guard (by rfl) ?_; dsimp only)); refine BY 1 #[.bool a0_0, .slice A0_1 l0_1.length c0_1, .slice A0_2 l0_2.length c0_2, .slice A0_3 l0_3.length c0_3, .slice A0_4 l0_4.length c0_4, .int .i64 a0_5] 39 HB ?_; clear HB; intro gb192 w3 BK192 GW192 HB))
 (try simp only [pA, pS, pZ, pK])
 go_cut [37] (fun v37 wc => ∃ (kq : Nat) (x37_1 : Bool), v37 = .bool x37_1 ∧ Aside0 (spec_IsValidEngine.j0 kq x37_1 a0_0 l0_1 l0_2 l0_3 l0_4 a0_5 = some r) ∧ Aside0 (kq ≤ k) ∧ Aside0 (wc.heap[gb192]? = some (.cells #[.bool a0_0, (.slice A0_1 l0_1.length c0_1), (.slice A0_2 l0_2.length c0_2), (.slice A0_3 l0_3.length c0_3), (.slice A0_4 l0_4.length c0_4), .int .i64 a0_5] 39 (0, 0))) ∧ Aside0 (Below w.heap.size w wc))
 case first =>
  have H := HC2.out
  clear HC2
  obtain ⟨t193, A4, H⟩ := OB H
  try go_wp2
  replace BK192 := BD1 BK192
  replace HB := BD2 HB
  refine start_ (n := 31) (S := fun w' => w'.cell? ⟨gb192, 0, none⟩ = some (.bool a0_0) ∧ w'.cell? ⟨gb192, 1, none⟩ = some (.slice A0_1 l0_1.length c0_1) ∧ w'.cell? ⟨gb192, 2, none⟩ = some (.slice A0_2 l0_2.length c0_2) ∧ w'.cell? ⟨gb192, 3, none⟩ = some (.slice A0_3 l0_3.length c0_3) ∧ w'.cell? ⟨gb192, 4, none⟩ = some (.slice A0_4 l0_4.length c0_4) ∧ w'.cell? ⟨gb192, 5, none⟩ = some (.int .i64 a0_5)) (ds := []) (lo 0 31) (by kernel_rfl) rfl rfl ⟨bc BK192.out 0, bc BK192.out 1, bc BK192.out 2, bc BK192.out 3, bc BK192.out 4, bc BK192.out 5⟩ (fun hHeld => ?_); refine with_tabW spec_IsValidEngine.tab1 spec_IsValidEngine.bits1 (fun HT_ HW_ => ?_)
  generalize w3.drew = w13 at BK192 HB hHeld ⊢
  iterate 2 first | refine PS HT_ ?_ | refine TS HT_ HW_ hHeld ?_
  refine OS HT_ (fun K hK => ?_)
  refine GO Try.func26 #[.agg #[.slice A0_1 l0_1.length c0_1]] ?_
  with_reducible refine MB (spec_IsValidStore.calls k _ _ l0_1 t193 _ (CC HR0_1 HB) HC0_1.out A4.out) ?_
  intro w14 hb
  replace BK192 := BV BK192 hb
  replace HB := BW HB hb
  (try clear hb)
  refine hK.out _ _ ⟨bc BK192.out 0, bc BK192.out 1, bc BK192.out 2, bc BK192.out 3, bc BK192.out 4, bc BK192.out 5⟩ (fun hHeld => ?_)
  clear hK K
  refine NM 9 ?_
  by_cases c5 : t193 = true
  rotate_left
  ·replace c5 := Bool.eq_false_iff.mpr c5
   subst c5
   replace H := HF H
   have H' := AM_ H
   clear H
   iterate 28 first | refine PS HT_ ?_ | refine PT HT_ ?_
   refine done_ (done_of HT_.out (by kernel_rfl)) ?_
   try go_wp2
   go_meet
   case rel => exact ⟨_, (true), (by first | rfl | (simp; done) | (simp [*]; done)), H', ⟨by first | omega | exact Nat.le_refl _⟩, ⟨BH BK192.out⟩, ⟨BT HB.out⟩⟩
  subst c5
  replace H := HT H
  obtain ⟨t194, A6, H⟩ := OB H
  iterate 4 first | refine PS HT_ ?_ | refine TS HT_ HW_ hHeld ?_
  refine OS HT_ (fun K hK => ?_)
  refine GO Try.func27 #[.slice A0_3 l0_3.length c0_3] ?_
  with_reducible refine MB (spec_AreLocks.calls k _ _ l0_3 t194 _ (CC HR0_3 HB) HC0_3.out A6.out) ?_
  intro w15 hb
  replace BK192 := BV BK192 hb
  replace HB := BW HB hb
  (try clear hb)
  refine hK.out _ _ ⟨bc BK192.out 0, bc BK192.out 1, bc BK192.out 2, bc BK192.out 3, bc BK192.out 4, bc BK192.out 5⟩ (fun hHeld => ?_)
  clear hK K
  refine NM 14 ?_
  by_cases c7 : t194 = true
  rotate_left
  ·replace c7 := Bool.eq_false_iff.mpr c7
   subst c7
   replace H := HF H
   have H' := AM_ H
   clear H
   iterate 23 first | refine PS HT_ ?_ | refine PT HT_ ?_
   refine done_ (done_of HT_.out (by kernel_rfl)) ?_
   try go_wp2
   go_meet
   case rel => exact ⟨_, (true), (by first | rfl | (simp; done) | (simp [*]; done)), H', ⟨by first | omega | exact Nat.le_refl _⟩, ⟨BH BK192.out⟩, ⟨BT HB.out⟩⟩
  subst c7
  replace H := HT H
  obtain ⟨t195, A8, H⟩ := OB H
  iterate 5 first | refine PS HT_ ?_ | refine TS HT_ HW_ hHeld ?_
  refine OS HT_ (fun K hK => ?_)
  refine GO Try.func28 #[.slice A0_4 l0_4.length c0_4] ?_
  with_reducible refine MB (spec_AreWaits.calls k _ _ l0_4 t195 _ (CC HR0_4 HB) HC0_4.out A8.out) ?_
  intro w16 hb
  replace BK192 := BV BK192 hb
  replace HB := BW HB hb
  (try clear hb)
  refine hK.out _ _ ⟨bc BK192.out 0, bc BK192.out 1, bc BK192.out 2, bc BK192.out 3, bc BK192.out 4, bc BK192.out 5⟩ (fun hHeld => ?_)
  clear hK K
  refine NM 20 ?_
  by_cases c9 : t195 = true
  rotate_left
  ·replace c9 := Bool.eq_false_iff.mpr c9
   subst c9
   replace H := HF H
   have H' := AM_ H
   clear H
   iterate 17 first | refine PS HT_ ?_ | refine PT HT_ ?_
   refine done_ (done_of HT_.out (by kernel_rfl)) ?_
   try go_wp2
   go_meet
   case rel => exact ⟨_, (true), (by first | rfl | (simp; done) | (simp [*]; done)), H', ⟨by first | omega | exact Nat.le_refl _⟩, ⟨BH BK192.out⟩, ⟨BT HB.out⟩⟩
  subst c9
  replace H := HT H
  obtain ⟨t196, A10, H⟩ := OB H
  obtain ⟨t197, A11, H⟩ := OB H
  iterate 4 refine PS HT_ ?_
  refine PV 19 (some 26) (bs 786431 31) HT_ ?_
  refine TX 18 (some 25) (lo 20 31) HT_ HW_ hHeld ?_
  refine TS HT_ HW_ hHeld ?_
  refine OS HT_ (fun K hK => ?_)
  refine GO Try.func30 #[.agg #[.slice A0_1 l0_1.length c0_1]] ?_
  with_reducible refine MB (spec_LastStamp.calls k _ _ l0_1 t196 _ (CC HR0_1 HB) HC0_1.out A10.out) ?_
  intro w17 hb
  replace BK192 := BV BK192 hb
  replace HB := BW HB hb
  (try clear hb)
  refine hK.out _ _ ⟨bc BK192.out 0, bc BK192.out 1, bc BK192.out 2, bc BK192.out 3, bc BK192.out 4, bc BK192.out 5⟩ (fun hHeld => ?_)
  clear hK K
  refine NM 28 ?_
  refine OS HT_ (fun K hK => ?_)
  refine GO Try.func29 #[.int .i64 a0_5, .int .i64 t196, .int .i64 999] ?_
  with_reducible refine MQ (spec_l1In.calls a0_5 t196 999 t197 _ A11.out) ?_
  intro nd
  refine hK.out _ _ ⟨bc BK192.out 0, bc BK192.out 1, bc BK192.out 2, bc BK192.out 3, bc BK192.out 4, bc BK192.out 5⟩ (fun hHeld => ?_)
  clear hK K
  refine NM 29 ?_
  by_cases c12 : t197 = true
  rotate_left
  ·replace c12 := Bool.eq_false_iff.mpr c12
   subst c12
   replace H := HF H
   have H' := AM_ H
   clear H
   iterate 8 first | refine PS HT_ ?_ | refine PT HT_ ?_
   refine done_ (done_of HT_.out (by kernel_rfl)) ?_
   try go_wp2
   go_meet
   case rel => exact ⟨_, (true), (by first | rfl | (simp; done) | (simp [*]; done)), H', ⟨by first | omega | exact Nat.le_refl _⟩, ⟨BH BK192.out⟩, ⟨BT HB.out⟩⟩
  subst c12
  replace H := HT H
  have H' := AM_ H
  clear H
  iterate 8 first | refine PS HT_ ?_ | refine TS HT_ HW_ hHeld ?_
  refine done_ (done_of HT_.out (by kernel_rfl)) ?_
  try go_wp2
  go_meet
  case rel => exact ⟨_, (decide ((l0_2.length : Int) > 6)), (by first | rfl | (simp; done) | (simp [*]; done)), H', ⟨by first | omega | exact Nat.le_refl _⟩, ⟨BH BK192.out⟩, ⟨BT HB.out⟩⟩
 case rest =>
  clear HC2
  try clear c5
  try clear c7
  obtain ⟨kq, x37_1, rfl, HA, HJ1, BK192, HB⟩ := hcut
  cases kq with
  | zero => exact absurd HA.out (by simp [spec_IsValidEngine.j0])
  | succ kj1 =>
   have H := HA.out
   clear HA
   simp only [spec_IsValidEngine.j0] at H
   by_cases c32 : x37_1 = true
   ·subst c32
    replace H := HT H
    obtain rfl := Option.some.inj H
    go_wp2
    go_ret
    exact QT (BT HB.out)
   replace c32 := Bool.eq_false_iff.mpr c32
   subst c32
   replace H := HF H
   have H' := AM_ H
   clear H
   go_wp2
   go_loopg [3] kj1 (fun kq v3 w' => ∃ (x3_2 : Int), v3 = .int .i64 x3_2 ∧ Aside0 (spec_IsValidEngine.l0 kq x3_2 a0_0 l0_1 l0_2 l0_3 l0_4 a0_5 = some r) ∧ Aside0 (kq ≤ kj1) ∧ Aside0 (w'.heap[gb192]? = some (.cells #[.bool a0_0, (.slice A0_1 l0_1.length c0_1), (.slice A0_2 l0_2.length c0_2), (.slice A0_3 l0_3.length c0_3), (.slice A0_4 l0_4.length c0_4), .int .i64 a0_5] 39 (0, 0))) ∧ Aside0 (Below w.heap.size w w'))
   case atStart => exact ⟨(0), (by first | rfl | (simp; done) | (simp [*]; done)), H', ⟨Nat.le_refl _⟩, ⟨BH BK192.out⟩, ⟨BT HB.out⟩⟩
   case round =>
    clear H'
    try clear c5
    try clear c7
    try clear c32
    obtain ⟨x3_2, rfl, HA, HK2, BK192, HB⟩ := hrel
    cases gk with
    | zero => exact absurd HA.out (by simp [spec_IsValidEngine.l0])
    | succ k2 =>
     have H := HA.out
     clear HA
     simp only [spec_IsValidEngine.l0] at H
     by_cases c33 : x3_2 < (l0_2.length : Int)
     rotate_left
     ·rw [if_neg c33] at H
      have c33b0 := decide_eq_false c33
      clear c33
      have H' := AM_ H
      clear H
      obtain ⟨hcz140_0, hcz140_1, hcz140_2, hcz140_3, hcz140_4, hcz140_5, hfz140_0, hfz140_1, hfz140_2, hfz140_3, hfz140_4, hfz140_5⟩ := bk6 BK192.out
      go_wp2
      go_loopg [5] k2 (fun kq v5 w' => ∃ (x5_3 : Int), v5 = .int .i64 x5_3 ∧ Aside0 (spec_IsValidEngine.l1 kq x5_3 a0_0 l0_1 l0_2 l0_3 l0_4 a0_5 = some r) ∧ Aside0 (kq ≤ k2) ∧ Aside0 (w'.heap[gb192]? = some (.cells #[.bool a0_0, (.slice A0_1 l0_1.length c0_1), (.slice A0_2 l0_2.length c0_2), (.slice A0_3 l0_3.length c0_3), (.slice A0_4 l0_4.length c0_4), .int .i64 a0_5] 39 (0, 0))) ∧ Aside0 (Below w.heap.size w w'))
      case atStart => exact ⟨(0), (by first | rfl | (simp; done) | (simp [*]; done)), H', ⟨Nat.le_refl _⟩, ⟨BH BK192.out⟩, ⟨BT HB.out⟩⟩
      case round =>
       clear H'
       try clear c33
       try clear c33b0
       try clear hcz140_0
       try clear hcz140_1
       try clear hcz140_2
       try clear hcz140_3
       try clear hcz140_4
       try clear hcz140_5
       try clear hfz140_0
       try clear hfz140_1
       try clear hfz140_2
       try clear hfz140_3
       try clear hfz140_4
       try clear hfz140_5
       obtain ⟨x5_3, rfl, HA, HK3, BK192, HB⟩ := hrel
       cases gk with
       | zero => exact absurd HA.out (by simp [spec_IsValidEngine.l1])
       | succ k3 =>
        have H := HA.out
        clear HA
        simp only [spec_IsValidEngine.l1] at H
        by_cases c141 : x5_3 < (l0_3.length : Int)
        ·rw [if_pos c141] at H
         have c141b0 := decide_eq_true c141
         clear c141
         replace H := HI H
         obtain ⟨c142, H⟩ := H
         have c142b0 := decide_eq_true c142
         clear c142
         obtain ⟨t205, A143, H⟩ := OB H
         obtain ⟨hcz145_0, hcz145_1, hcz145_2, hcz145_3, hcz145_4, hcz145_5, hfz145_0, hfz145_1, hfz145_2, hfz145_3, hfz145_4, hfz145_5⟩ := bk6 BK192.out
         try go_wp2
         replace BK192 := BD1 BK192
         replace HB := BD2 HB
         have p204 : 0 ≤ (x5_3 : Int) := DT
         have q204 : x5_3 < (l0_3.length : Int) := DT
         obtain ⟨ad204, e204, hx204_0, hx204_1⟩ := at_T76 HR0_3.out x5_3 p204 q204
         have hw204_1 := hx204_1
         have hw204_0 := hx204_0
         cases e204
         replace hx204_0 := BC HB.out hx204_0
         replace hx204_1 := BC HB.out hx204_1
         replace p204 := eq_true p204
         replace q204 := eq_true q204
         refine start_ (n := 9) (S := fun w' => w'.cell? ⟨gb192, 0, none⟩ = some (.bool a0_0) ∧ w'.cell? ⟨gb192, 1, none⟩ = some (.slice A0_1 l0_1.length c0_1) ∧ w'.cell? ⟨gb192, 2, none⟩ = some (.slice A0_2 l0_2.length c0_2) ∧ w'.cell? ⟨gb192, 3, none⟩ = some (.slice (some ad204) l0_3.length c0_3) ∧ w'.cell? ⟨gb192, 4, none⟩ = some (.slice A0_4 l0_4.length c0_4) ∧ w'.cell? ⟨gb192, 5, none⟩ = some (.int .i64 a0_5) ∧ w'.cell? (ad204.add ((x5_3).toNat * 2)) = some (.int .i64 ((rd_T76 l0_3 x5_3).f0)) ∧ w'.cell? ⟨(ad204.add ((x5_3).toNat * 2)).block, (ad204.add ((x5_3).toNat * 2)).off + 1, none⟩ = some (.int .i64 ((rd_T76 l0_3 x5_3).f1))) (ds := []) (lo 0 9) (by kernel_rfl) rfl rfl ⟨bc BK192.out 0, bc BK192.out 1, bc BK192.out 2, bc BK192.out 3, bc BK192.out 4, bc BK192.out 5, (BD HB.out hw204_0), (BD HB.out hw204_1)⟩ (fun hHeld => ?_); refine with_tabW spec_IsValidEngine.tab12 spec_IsValidEngine.bits12 (fun HT_ HW_ => ?_)
         generalize wr.drew = w146 at BK192 HB hx204_0 hx204_1 hHeld ⊢
         refine PV 1 (some 103) (bs 2 9) HT_ ?_
         refine PV 3 (some 105) (bs 10 9) HT_ ?_
         refine TX 0 (some 102) (bs 11 9) HT_ HW_ hHeld ?_
         refine TX 2 (some 104) (lo 4 9) HT_ HW_ hHeld ?_
         iterate 3 first | refine PS HT_ ?_ | refine TS HT_ HW_ hHeld ?_
         refine OS HT_ (fun K hK => ?_)
         refine GO Try.func33 #[.agg #[.bool a0_0, .slice A0_1 l0_1.length c0_1, .slice A0_2 l0_2.length c0_2, .slice (some ad204) l0_3.length c0_3, .slice A0_4 l0_4.length c0_4, .int .i64 a0_5], .int .i64 ((rd_T76 l0_3 x5_3).f1)] ?_
         with_reducible refine MB (spec_l13Active.calls k3 a0_0 _ _ l0_1 _ _ l0_2 _ _ l0_3 _ _ l0_4 a0_5 ((rd_T76 l0_3 x5_3).f1) t205 _ (CC HR0_1 HB) HC0_1.out (CC HR0_2 HB) HC0_2.out (CC HR0_3 HB) HC0_3.out (CC HR0_4 HB) HC0_4.out A143.out) ?_
         intro w147 hb
         replace BK192 := BV BK192 hb
         replace HB := BW HB hb
         (try clear hb)
         refine hK.out _ _ ⟨bc BK192.out 0, bc BK192.out 1, bc BK192.out 2, bc BK192.out 3, bc BK192.out 4, bc BK192.out 5, (BD HB.out hw204_0), (BD HB.out hw204_1)⟩ (fun hHeld => ?_)
         clear hK K
         refine NM 109 ?_
         by_cases c144 : t205 = true
         rotate_left
         ·replace c144 := Bool.eq_false_iff.mpr c144
          subst c144
          replace H := HF H
          obtain rfl := Option.some.inj H
          refine PS HT_ ?_
          refine done_ (done_of HT_.out (by kernel_rfl)) ?_
          try go_wp2
          go_ret
          exact QT (BT HB.out)
         subst c144
         replace H := HT H
         have H' := AM_ H
         clear H
         refine PS HT_ ?_
         refine done_ (done_of HT_.out (by kernel_rfl)) ?_
         try go_wp2
         go_roundg k3
         case measure => have := HJ1.out; have := HK2.out; have := HK3.out; omega
         case rel => exact ⟨(wrap64 (x5_3 + 1)), (by first | rfl | (simp; done) | (simp [*]; done)), H', ⟨by have := HJ1.out; have := HK2.out; have := HK3.out; omega⟩, ⟨BH BK192.out⟩, ⟨BT HB.out⟩⟩
        rw [if_neg c141] at H
        have c141b0 := decide_eq_false c141
        clear c141
        have H' := AM_ H
        clear H
        obtain ⟨hcz151_0, hcz151_1, hcz151_2, hcz151_3, hcz151_4, hcz151_5, hfz151_0, hfz151_1, hfz151_2, hfz151_3, hfz151_4, hfz151_5⟩ := bk6 BK192.out
        go_wp2
        go_loopg [6] k3 (fun kq v6 w' => ∃ (x6_4 : Int), v6 = .int .i64 x6_4 ∧ Aside0 (spec_IsValidEngine.l2 kq x6_4 a0_0 l0_1 l0_2 l0_3 l0_4 a0_5 = some r) ∧ Aside0 (kq ≤ k3) ∧ Aside0 (w'.heap[gb192]? = some (.cells #[.bool a0_0, (.slice A0_1 l0_1.length c0_1), (.slice A0_2 l0_2.length c0_2), (.slice A0_3 l0_3.length c0_3), (.slice A0_4 l0_4.length c0_4), .int .i64 a0_5] 39 (0, 0))) ∧ Aside0 (Below w.heap.size w w'))
        case atStart => exact ⟨(0), (by first | rfl | (simp; done) | (simp [*]; done)), H', ⟨Nat.le_refl _⟩, ⟨BH BK192.out⟩, ⟨BT HB.out⟩⟩
        case round =>
         clear H'
         try clear c33
         try clear c33b0
         try clear c141
         try clear c141b0
         try clear c142
         try clear c142b0
         try clear c144
         try clear hcz140_0
         try clear hcz140_1
         try clear hcz140_2
         try clear hcz140_3
         try clear hcz140_4
         try clear hcz140_5
         try clear hcz145_0
         try clear hcz145_1
         try clear hcz145_2
         try clear hcz145_3
         try clear hcz145_4
         try clear hcz145_5
         try clear hcz151_0
         try clear hcz151_1
         try clear hcz151_2
         try clear hcz151_3
         try clear hcz151_4
         try clear hcz151_5
         try clear hfz140_0
         try clear hfz140_1
         try clear hfz140_2
         try clear hfz140_3
         try clear hfz140_4
         try clear hfz140_5
         try clear hfz145_0
         try clear hfz145_1
         try clear hfz145_2
         try clear hfz145_3
         try clear hfz145_4
         try clear hfz145_5
         try clear hfz151_0
         try clear hfz151_1
         try clear hfz151_2
         try clear hfz151_3
         try clear hfz151_4
         try clear hfz151_5
         try clear hx204_0
         try clear hx204_1
         try clear p204
         try clear q204
         obtain ⟨x6_4, rfl, HA, HK4, BK192, HB⟩ := hrel
         cases gk with
         | zero => exact absurd HA.out (by simp [spec_IsValidEngine.l2])
         | succ k4 =>
          have H := HA.out
          clear HA
          simp only [spec_IsValidEngine.l2] at H
          by_cases c152 : x6_4 < (l0_4.length : Int)
          rotate_left
          ·rw [if_neg c152] at H
           have c152b0 := decide_eq_false c152
           clear c152
           obtain rfl := Option.some.inj H
           obtain ⟨hcz169_0, hcz169_1, hcz169_2, hcz169_3, hcz169_4, hcz169_5, hfz169_0, hfz169_1, hfz169_2, hfz169_3, hfz169_4, hfz169_5⟩ := bk6 BK192.out
           go_wp2
           go_ret
           exact QT (BT HB.out)
          rw [if_pos c152] at H
          have c152b0 := decide_eq_true c152
          clear c152
          replace H := HI H
          obtain ⟨c153, H⟩ := H
          have c153b0 := decide_eq_true c153
          clear c153
          obtain ⟨t207, A154, H⟩ := OB H
          by_cases c155 : t207 = true
          rotate_left
          ·replace c155 := Bool.eq_false_iff.mpr c155
           subst c155
           replace H := HF H
           obtain rfl := Option.some.inj H
           obtain ⟨hcz166_0, hcz166_1, hcz166_2, hcz166_3, hcz166_4, hcz166_5, hfz166_0, hfz166_1, hfz166_2, hfz166_3, hfz166_4, hfz166_5⟩ := bk6 BK192.out
           try go_wp2
           replace BK192 := BD1 BK192
           replace HB := BD2 HB
           have p206 : 0 ≤ (x6_4 : Int) := DT
           have q206 : x6_4 < (l0_4.length : Int) := DT
           obtain ⟨ad206, e206, hx206_0, hx206_1⟩ := at_T78 HR0_4.out x6_4 p206 q206
           have hw206_1 := hx206_1
           have hw206_0 := hx206_0
           cases e206
           replace hx206_0 := BC HB.out hx206_0
           replace hx206_1 := BC HB.out hx206_1
           replace p206 := eq_true p206
           replace q206 := eq_true q206
           refine start_ (n := 20) (S := fun w' => w'.cell? ⟨gb192, 0, none⟩ = some (.bool a0_0) ∧ w'.cell? ⟨gb192, 1, none⟩ = some (.slice A0_1 l0_1.length c0_1) ∧ w'.cell? ⟨gb192, 2, none⟩ = some (.slice A0_2 l0_2.length c0_2) ∧ w'.cell? ⟨gb192, 3, none⟩ = some (.slice A0_3 l0_3.length c0_3) ∧ w'.cell? ⟨gb192, 4, none⟩ = some (.slice (some ad206) l0_4.length c0_4) ∧ w'.cell? ⟨gb192, 5, none⟩ = some (.int .i64 a0_5) ∧ w'.cell? (ad206.add ((x6_4).toNat * 2)) = some (.int .i64 ((rd_T78 l0_4 x6_4).f0)) ∧ w'.cell? ⟨(ad206.add ((x6_4).toNat * 2)).block, (ad206.add ((x6_4).toNat * 2)).off + 1, none⟩ = some (.int .i64 ((rd_T78 l0_4 x6_4).f1))) (ds := []) (lo 0 20) (by kernel_rfl) rfl rfl ⟨bc BK192.out 0, bc BK192.out 1, bc BK192.out 2, bc BK192.out 3, bc BK192.out 4, bc BK192.out 5, (BD HB.out hw206_0), (BD HB.out hw206_1)⟩ (fun hHeld => ?_); refine with_tabW spec_IsValidEngine.tab17 spec_IsValidEngine.bits17 (fun HT_ HW_ => ?_)
           generalize wr.drew = w167 at BK192 HB hx206_0 hx206_1 hHeld ⊢
           refine PV 1 (some 119) (bs 2 20) HT_ ?_
           refine PV 3 (some 121) (bs 10 20) HT_ ?_
           refine TX 0 (some 118) (bs 11 20) HT_ HW_ hHeld ?_
           refine TX 2 (some 120) (lo 4 20) HT_ HW_ hHeld ?_
           iterate 3 first | refine PS HT_ ?_ | refine TS HT_ HW_ hHeld ?_
           refine OS HT_ (fun K hK => ?_)
           refine GO Try.func33 #[.agg #[.bool a0_0, .slice A0_1 l0_1.length c0_1, .slice A0_2 l0_2.length c0_2, .slice A0_3 l0_3.length c0_3, .slice (some ad206) l0_4.length c0_4, .int .i64 a0_5], .int .i64 ((rd_T78 l0_4 x6_4).f0)] ?_
           with_reducible refine MB (spec_l13Active.calls k4 a0_0 _ _ l0_1 _ _ l0_2 _ _ l0_3 _ _ l0_4 a0_5 ((rd_T78 l0_4 x6_4).f0) false _ (CC HR0_1 HB) HC0_1.out (CC HR0_2 HB) HC0_2.out (CC HR0_3 HB) HC0_3.out (CC HR0_4 HB) HC0_4.out A154.out) ?_
           intro w168 hb
           replace BK192 := BV BK192 hb
           replace HB := BW HB hb
           (try clear hb)
           refine hK.out _ _ ⟨bc BK192.out 0, bc BK192.out 1, bc BK192.out 2, bc BK192.out 3, bc BK192.out 4, bc BK192.out 5, (BD HB.out hw206_0), (BD HB.out hw206_1)⟩ (fun hHeld => ?_)
           clear hK K
           refine NM 125 ?_
           iterate 12 first | refine PS HT_ ?_ | refine PT HT_ ?_
           refine done_ (done_of HT_.out (by kernel_rfl)) ?_
           try go_wp2
           go_ret
           exact QT (BT HB.out)
          subst c155
          replace H := HT H
          obtain ⟨t209, A156, H⟩ := OB H
          obtain ⟨hcz158_0, hcz158_1, hcz158_2, hcz158_3, hcz158_4, hcz158_5, hfz158_0, hfz158_1, hfz158_2, hfz158_3, hfz158_4, hfz158_5⟩ := bk6 BK192.out
          try go_wp2
          replace BK192 := BD1 BK192
          replace HB := BD2 HB
          have p206 : 0 ≤ (x6_4 : Int) := DT
          have q206 : x6_4 < (l0_4.length : Int) := DT
          obtain ⟨ad206, e206, hx206_0, hx206_1⟩ := at_T78 HR0_4.out x6_4 p206 q206
          have hw206_1 := hx206_1
          have hw206_0 := hx206_0
          cases e206
          replace hx206_0 := BC HB.out hx206_0
          replace hx206_1 := BC HB.out hx206_1
          replace p206 := eq_true p206
          replace q206 := eq_true q206
          have p208 : 0 ≤ (x6_4 : Int) := DT
          have q208 : x6_4 < (l0_4.length : Int) := DT
          obtain ⟨ad208, e208, hx208_0, hx208_1⟩ := at_T78 HR0_4.out x6_4 p208 q208
          have hw208_1 := hx208_1
          have hw208_0 := hx208_0
          obtain rfl : ad206 = ad208 := (by injection e208)
          replace hx208_0 := BC HB.out hx208_0
          replace hx208_1 := BC HB.out hx208_1
          replace p208 := eq_true p208
          replace q208 := eq_true q208
          refine start_ (n := 20) (S := fun w' => w'.cell? ⟨gb192, 0, none⟩ = some (.bool a0_0) ∧ w'.cell? ⟨gb192, 1, none⟩ = some (.slice A0_1 l0_1.length c0_1) ∧ w'.cell? ⟨gb192, 2, none⟩ = some (.slice A0_2 l0_2.length c0_2) ∧ w'.cell? ⟨gb192, 3, none⟩ = some (.slice A0_3 l0_3.length c0_3) ∧ w'.cell? ⟨gb192, 4, none⟩ = some (.slice (some ad206) l0_4.length c0_4) ∧ w'.cell? ⟨gb192, 5, none⟩ = some (.int .i64 a0_5) ∧ w'.cell? (ad206.add ((x6_4).toNat * 2)) = some (.int .i64 ((rd_T78 l0_4 x6_4).f0)) ∧ w'.cell? ⟨(ad206.add ((x6_4).toNat * 2)).block, (ad206.add ((x6_4).toNat * 2)).off + 1, none⟩ = some (.int .i64 ((rd_T78 l0_4 x6_4).f1)) ∧ w'.cell? (ad206.add ((x6_4).toNat * 2)) = some (.int .i64 ((rd_T78 l0_4 x6_4).f0)) ∧ w'.cell? ⟨(ad206.add ((x6_4).toNat * 2)).block, (ad206.add ((x6_4).toNat * 2)).off + 1, none⟩ = some (.int .i64 ((rd_T78 l0_4 x6_4).f1))) (ds := []) (lo 0 20) (by kernel_rfl) rfl rfl ⟨bc BK192.out 0, bc BK192.out 1, bc BK192.out 2, bc BK192.out 3, bc BK192.out 4, bc BK192.out 5, (BD HB.out hw206_0), (BD HB.out hw206_1), (BD HB.out hw208_0), (BD HB.out hw208_1)⟩ (fun hHeld => ?_); refine with_tabW spec_IsValidEngine.tab17 spec_IsValidEngine.bits17 (fun HT_ HW_ => ?_)
          generalize wr.drew = w159 at BK192 HB hx206_0 hx206_1 hx208_0 hx208_1 hHeld ⊢
          refine PV 1 (some 119) (bs 2 20) HT_ ?_
          refine PV 3 (some 121) (bs 10 20) HT_ ?_
          refine TX 0 (some 118) (bs 11 20) HT_ HW_ hHeld ?_
          refine TX 2 (some 120) (lo 4 20) HT_ HW_ hHeld ?_
          iterate 3 first | refine PS HT_ ?_ | refine TS HT_ HW_ hHeld ?_
          refine OS HT_ (fun K hK => ?_)
          refine GO Try.func33 #[.agg #[.bool a0_0, .slice A0_1 l0_1.length c0_1, .slice A0_2 l0_2.length c0_2, .slice A0_3 l0_3.length c0_3, .slice (some ad206) l0_4.length c0_4, .int .i64 a0_5], .int .i64 ((rd_T78 l0_4 x6_4).f0)] ?_
          with_reducible refine MB (spec_l13Active.calls k4 a0_0 _ _ l0_1 _ _ l0_2 _ _ l0_3 _ _ l0_4 a0_5 ((rd_T78 l0_4 x6_4).f0) true _ (CC HR0_1 HB) HC0_1.out (CC HR0_2 HB) HC0_2.out (CC HR0_3 HB) HC0_3.out (CC HR0_4 HB) HC0_4.out A154.out) ?_
          intro w160 hb
          replace BK192 := BV BK192 hb
          replace HB := BW HB hb
          (try clear hb)
          refine hK.out _ _ ⟨bc BK192.out 0, bc BK192.out 1, bc BK192.out 2, bc BK192.out 3, bc BK192.out 4, bc BK192.out 5, (BD HB.out hw206_0), (BD HB.out hw206_1), (BD HB.out hw208_0), (BD HB.out hw208_1)⟩ (fun hHeld => ?_)
          clear hK K
          refine NM 125 ?_
          iterate 2 refine PS HT_ ?_
          refine PV 11 (some 129) (bs 3071 20) HT_ ?_
          refine PV 13 (some 131) (bs 11263 20) HT_ ?_
          refine TX 10 (some 128) (bs 12287 20) HT_ HW_ hHeld ?_
          refine TX 12 (some 130) (lo 14 20) HT_ HW_ hHeld ?_
          iterate 3 first | refine PS HT_ ?_ | refine TS HT_ HW_ hHeld ?_
          refine OS HT_ (fun K hK => ?_)
          refine GO Try.func33 #[.agg #[.bool a0_0, .slice A0_1 l0_1.length c0_1, .slice A0_2 l0_2.length c0_2, .slice A0_3 l0_3.length c0_3, .slice (some ad206) l0_4.length c0_4, .int .i64 a0_5], .int .i64 ((rd_T78 l0_4 x6_4).f1)] ?_
          with_reducible refine MB (spec_l13Active.calls k4 a0_0 _ _ l0_1 _ _ l0_2 _ _ l0_3 _ _ l0_4 a0_5 ((rd_T78 l0_4 x6_4).f1) t209 _ (CC HR0_1 HB) HC0_1.out (CC HR0_2 HB) HC0_2.out (CC HR0_3 HB) HC0_3.out (CC HR0_4 HB) HC0_4.out A156.out) ?_
          intro w161 hb
          replace BK192 := BV BK192 hb
          replace HB := BW HB hb
          (try clear hb)
          refine hK.out _ _ ⟨bc BK192.out 0, bc BK192.out 1, bc BK192.out 2, bc BK192.out 3, bc BK192.out 4, bc BK192.out 5, (BD HB.out hw206_0), (BD HB.out hw206_1), (BD HB.out hw208_0), (BD HB.out hw208_1)⟩ (fun hHeld => ?_)
          clear hK K
          refine NM 135 ?_
          by_cases c157 : t209 = true
          rotate_left
          ·replace c157 := Bool.eq_false_iff.mpr c157
           subst c157
           replace H := HF H
           obtain rfl := Option.some.inj H
           iterate 2 refine PS HT_ ?_
           refine done_ (done_of HT_.out (by kernel_rfl)) ?_
           try go_wp2
           go_ret
           exact QT (BT HB.out)
          subst c157
          replace H := HT H
          have H' := AM_ H
          clear H
          iterate 2 refine PS HT_ ?_
          refine done_ (done_of HT_.out (by kernel_rfl)) ?_
          try go_wp2
          go_roundg k4
          case measure => have := HJ1.out; have := HK2.out; have := HK3.out; have := HK4.out; omega
          case rel => exact ⟨(wrap64 (x6_4 + 1)), (by first | rfl | (simp; done) | (simp [*]; done)), H', ⟨by have := HJ1.out; have := HK2.out; have := HK3.out; have := HK4.out; omega⟩, ⟨BH BK192.out⟩, ⟨BT HB.out⟩⟩
     rw [if_pos c33] at H
     have c33b0 := decide_eq_true c33
     clear c33
     replace H := HI H
     obtain ⟨c34, H⟩ := H
     have c34b0 := decide_eq_true c34
     clear c34
     obtain ⟨t200, A35, H⟩ := OB H
     by_cases c36 : t200 = true
     rotate_left
     ·replace c36 := Bool.eq_false_iff.mpr c36
      subst c36
      replace H := HF H
      obtain rfl := Option.some.inj H
      obtain ⟨hcz133_0, hcz133_1, hcz133_2, hcz133_3, hcz133_4, hcz133_5, hfz133_0, hfz133_1, hfz133_2, hfz133_3, hfz133_4, hfz133_5⟩ := bk6 BK192.out
      have p198 : 0 ≤ (x3_2 : Int) := DT
      have q198 : x3_2 < (l0_2.length : Int) := DT
      obtain ⟨ad198, A198_7, c198_7, A198_8, c198_8, e198, hx198_0, hx198_1, hx198_2, hx198_3, hx198_4, hx198_5, hx198_6, hx198_7, hx198_8, hl198_7, hi198_7, hl198_8, hi198_8⟩ := at_T48 HR0_2.out x3_2 p198 q198
      cases e198
      replace hx198_0 := BC HB.out hx198_0
      replace hx198_1 := BC HB.out hx198_1
      replace hx198_2 := BC HB.out hx198_2
      replace hx198_3 := BC HB.out hx198_3
      replace hx198_4 := BC HB.out hx198_4
      replace hx198_5 := BC HB.out hx198_5
      replace hx198_6 := BC HB.out hx198_6
      replace hx198_7 := BC HB.out hx198_7
      replace hx198_8 := BC HB.out hx198_8
      have HR198_7 := AM_ hi198_7
      have HC198_7 := AM_ hl198_7
      clear hi198_7 hl198_7
      have HR198_8 := AM_ hi198_8
      have HC198_8 := AM_ hl198_8
      clear hi198_8 hl198_8
      replace p198 := eq_true p198
      replace q198 := eq_true q198
      try go_wp2_with (first | ((with_reducible refine G2 4 rfl ?_); (try (refine gate_guard (by rfl) ?_; dsimp only)); refine BZ 4 #[.int .i64 0, .int .i64 0, .int .i64 0, .int .i64 0, .int .i64 0, .int .i64 0, .int .i64 0, .slice none 0 0, .slice none 0 0] 48 HB ?_; clear HB; intro gb199 w134 hg hb BK199 GW199 HB; have NB192_199 := NP BK192 hg; have NB199_192 := NQ BK192 hg; replace BK192 := BV BK192 hb; clear hb hg; have hnb135 := NB199_192.out; have hnc135 := NB192_199.out; obtain ⟨hcz136_0, hcz136_1, hcz136_2, hcz136_3, hcz136_4, hcz136_5, hcz136_6, hcz136_7, hcz136_8, hfz136_0, hfz136_1, hfz136_2, hfz136_3, hfz136_4, hfz136_5, hfz136_6, hfz136_7, hfz136_8⟩ := bk9 BK199.out))
      generalize hW_ : ((((((((w134.setCell ⟨gb199, 0, none⟩ (.int .i64 ((rd_T48 l0_2 x3_2).f0))).setCell ⟨gb199, 1, none⟩ (.int .i64 ((rd_T48 l0_2 x3_2).f1))).setCell ⟨gb199, 2, none⟩ (.int .i64 ((rd_T48 l0_2 x3_2).f2))).setCell ⟨gb199, 3, none⟩ (.int .i64 ((rd_T48 l0_2 x3_2).f3))).setCell ⟨gb199, 4, none⟩ (.int .i64 ((rd_T48 l0_2 x3_2).f4))).setCell ⟨gb199, 5, none⟩ (.int .i64 ((rd_T48 l0_2 x3_2).f5))).setCell ⟨gb199, 6, none⟩ (.int .i64 ((rd_T48 l0_2 x3_2).f6))).setCell ⟨gb199, 7, none⟩ (.slice A198_7 ((rd_T48 l0_2 x3_2).f7).length c198_7)).setCell ⟨gb199, 8, none⟩ (.slice A198_8 ((rd_T48 l0_2 x3_2).f8).length c198_8) = w137
      have n0_ : Aside0 (w137.heap[gb192]? = some (.cells #[.bool a0_0, .slice A0_1 l0_1.length c0_1, .slice (some ad198) l0_2.length c0_2, .slice A0_3 l0_3.length c0_3, .slice A0_4 l0_4.length c0_4, .int .i64 a0_5] 39 (0, 0))) := by subst hW_; exact ⟨BG BK192.out NB192_199.out⟩
      have n1_ : Aside0 (w137.heap[gb199]? = some (.cells #[.int .i64 ((rd_T48 l0_2 x3_2).f0), .int .i64 ((rd_T48 l0_2 x3_2).f1), .int .i64 ((rd_T48 l0_2 x3_2).f2), .int .i64 ((rd_T48 l0_2 x3_2).f3), .int .i64 ((rd_T48 l0_2 x3_2).f4), .int .i64 ((rd_T48 l0_2 x3_2).f5), .int .i64 ((rd_T48 l0_2 x3_2).f6), .slice A198_7 ((rd_T48 l0_2 x3_2).f7).length c198_7, .slice A198_8 ((rd_T48 l0_2 x3_2).f8).length c198_8] 48 (0, 0))) := by subst hW_; exact ⟨BQ BK199.out⟩
      have n2_ : Aside0 (Below w.heap.size w w137) := by subst hW_; exact ⟨BT HB.out⟩
      (try clear BK192)
      (try clear BK199)
      (try clear HB)
      clear hW_
      have BK192 := n0_
      have BK199 := n1_
      have HB := n2_
      clear n0_ n1_ n2_
      replace BK192 := BD1 BK192
      replace BK199 := BD1 BK199
      replace HB := BD2 HB
      refine start_ (n := 45) (S := fun w' => w'.cell? ⟨gb199, 0, none⟩ = some (.int .i64 ((rd_T48 l0_2 x3_2).f0)) ∧ w'.cell? ⟨gb199, 1, none⟩ = some (.int .i64 ((rd_T48 l0_2 x3_2).f1)) ∧ w'.cell? ⟨gb199, 2, none⟩ = some (.int .i64 ((rd_T48 l0_2 x3_2).f2)) ∧ w'.cell? ⟨gb199, 3, none⟩ = some (.int .i64 ((rd_T48 l0_2 x3_2).f3)) ∧ w'.cell? ⟨gb199, 4, none⟩ = some (.int .i64 ((rd_T48 l0_2 x3_2).f4)) ∧ w'.cell? ⟨gb199, 5, none⟩ = some (.int .i64 ((rd_T48 l0_2 x3_2).f5)) ∧ w'.cell? ⟨gb199, 6, none⟩ = some (.int .i64 ((rd_T48 l0_2 x3_2).f6)) ∧ w'.cell? ⟨gb199, 7, none⟩ = some (.slice A198_7 ((rd_T48 l0_2 x3_2).f7).length c198_7) ∧ w'.cell? ⟨gb199, 8, none⟩ = some (.slice A198_8 ((rd_T48 l0_2 x3_2).f8).length c198_8)) (ds := []) (lo 0 45) (by kernel_rfl) rfl rfl ⟨bc BK199.out 0, bc BK199.out 1, bc BK199.out 2, bc BK199.out 3, bc BK199.out 4, bc BK199.out 5, bc BK199.out 6, bc BK199.out 7, bc BK199.out 8⟩ (fun hHeld => ?_); refine with_tabW spec_IsValidEngine.tab7 spec_IsValidEngine.bits7 (fun HT_ HW_ => ?_)
      generalize w137.drew = w138 at BK192 BK199 HB hHeld ⊢
      refine TS HT_ HW_ hHeld ?_
      refine OS HT_ (fun K hK => ?_)
      refine GO Try.func31 #[.agg #[.int .i64 ((rd_T48 l0_2 x3_2).f0), .int .i64 ((rd_T48 l0_2 x3_2).f1), .int .i64 ((rd_T48 l0_2 x3_2).f2), .int .i64 ((rd_T48 l0_2 x3_2).f3), .int .i64 ((rd_T48 l0_2 x3_2).f4), .int .i64 ((rd_T48 l0_2 x3_2).f5), .int .i64 ((rd_T48 l0_2 x3_2).f6), .slice A198_7 ((rd_T48 l0_2 x3_2).f7).length c198_7, .slice A198_8 ((rd_T48 l0_2 x3_2).f8).length c198_8]] ?_
      with_reducible refine MB (spec_IsValidTransaction.calls k2 ((rd_T48 l0_2 x3_2).f0) ((rd_T48 l0_2 x3_2).f1) ((rd_T48 l0_2 x3_2).f2) ((rd_T48 l0_2 x3_2).f3) ((rd_T48 l0_2 x3_2).f4) ((rd_T48 l0_2 x3_2).f5) ((rd_T48 l0_2 x3_2).f6) _ _ ((rd_T48 l0_2 x3_2).f7) _ _ ((rd_T48 l0_2 x3_2).f8) false _ (CC HR198_7 HB) HC198_7.out (CC HR198_8 HB) HC198_8.out A35.out) ?_
      intro w139 hb
      replace BK192 := BV BK192 hb
      replace BK199 := BV BK199 hb
      replace HB := BW HB hb
      (try clear hb)
      refine hK.out _ _ ⟨bc BK199.out 0, bc BK199.out 1, bc BK199.out 2, bc BK199.out 3, bc BK199.out 4, bc BK199.out 5, bc BK199.out 6, bc BK199.out 7, bc BK199.out 8⟩ (fun hHeld => ?_)
      clear hK K
      refine NM 51 ?_
      iterate 43 first | refine PS HT_ ?_ | refine PT HT_ ?_
      refine done_ (done_of HT_.out (by kernel_rfl)) ?_
      try go_wp2
      go_ret
      exact QT (BT HB.out)
     subst c36
     replace H := HT H
     by_cases c37 : x3_2 > 0
     rotate_left
     ·rw [if_neg c37] at H
      have c37b0 : decide (0 < x3_2) = false := decide_eq_false c37
      clear c37
      obtain ⟨hcz110_0, hcz110_1, hcz110_2, hcz110_3, hcz110_4, hcz110_5, hfz110_0, hfz110_1, hfz110_2, hfz110_3, hfz110_4, hfz110_5⟩ := bk6 BK192.out
      have p198 : 0 ≤ (x3_2 : Int) := DT
      have q198 : x3_2 < (l0_2.length : Int) := DT
      obtain ⟨ad198, A198_7, c198_7, A198_8, c198_8, e198, hx198_0, hx198_1, hx198_2, hx198_3, hx198_4, hx198_5, hx198_6, hx198_7, hx198_8, hl198_7, hi198_7, hl198_8, hi198_8⟩ := at_T48 HR0_2.out x3_2 p198 q198
      cases e198
      replace hx198_0 := BC HB.out hx198_0
      replace hx198_1 := BC HB.out hx198_1
      replace hx198_2 := BC HB.out hx198_2
      replace hx198_3 := BC HB.out hx198_3
      replace hx198_4 := BC HB.out hx198_4
      replace hx198_5 := BC HB.out hx198_5
      replace hx198_6 := BC HB.out hx198_6
      replace hx198_7 := BC HB.out hx198_7
      replace hx198_8 := BC HB.out hx198_8
      have HR198_7 := AM_ hi198_7
      have HC198_7 := AM_ hl198_7
      clear hi198_7 hl198_7
      have HR198_8 := AM_ hi198_8
      have HC198_8 := AM_ hl198_8
      clear hi198_8 hl198_8
      replace p198 := eq_true p198
      replace q198 := eq_true q198
      try go_wp2_with (first | ((with_reducible refine G2 4 rfl ?_); (try (refine gate_guard (by rfl) ?_; dsimp only)); refine BZ 4 #[.int .i64 0, .int .i64 0, .int .i64 0, .int .i64 0, .int .i64 0, .int .i64 0, .int .i64 0, .slice none 0 0, .slice none 0 0] 48 HB ?_; clear HB; intro gb199 w111 hg hb BK199 GW199 HB; have NB192_199 := NP BK192 hg; have NB199_192 := NQ BK192 hg; replace BK192 := BV BK192 hb; clear hb hg; have hnb112 := NB199_192.out; have hnc112 := NB192_199.out; obtain ⟨hcz113_0, hcz113_1, hcz113_2, hcz113_3, hcz113_4, hcz113_5, hcz113_6, hcz113_7, hcz113_8, hfz113_0, hfz113_1, hfz113_2, hfz113_3, hfz113_4, hfz113_5, hfz113_6, hfz113_7, hfz113_8⟩ := bk9 BK199.out))
      generalize hW_ : ((((((((w111.setCell ⟨gb199, 0, none⟩ (.int .i64 ((rd_T48 l0_2 x3_2).f0))).setCell ⟨gb199, 1, none⟩ (.int .i64 ((rd_T48 l0_2 x3_2).f1))).setCell ⟨gb199, 2, none⟩ (.int .i64 ((rd_T48 l0_2 x3_2).f2))).setCell ⟨gb199, 3, none⟩ (.int .i64 ((rd_T48 l0_2 x3_2).f3))).setCell ⟨gb199, 4, none⟩ (.int .i64 ((rd_T48 l0_2 x3_2).f4))).setCell ⟨gb199, 5, none⟩ (.int .i64 ((rd_T48 l0_2 x3_2).f5))).setCell ⟨gb199, 6, none⟩ (.int .i64 ((rd_T48 l0_2 x3_2).f6))).setCell ⟨gb199, 7, none⟩ (.slice A198_7 ((rd_T48 l0_2 x3_2).f7).length c198_7)).setCell ⟨gb199, 8, none⟩ (.slice A198_8 ((rd_T48 l0_2 x3_2).f8).length c198_8) = w114
      have n0_ : Aside0 (w114.heap[gb192]? = some (.cells #[.bool a0_0, .slice A0_1 l0_1.length c0_1, .slice (some ad198) l0_2.length c0_2, .slice A0_3 l0_3.length c0_3, .slice A0_4 l0_4.length c0_4, .int .i64 a0_5] 39 (0, 0))) := by subst hW_; exact ⟨BG BK192.out NB192_199.out⟩
      have n1_ : Aside0 (w114.heap[gb199]? = some (.cells #[.int .i64 ((rd_T48 l0_2 x3_2).f0), .int .i64 ((rd_T48 l0_2 x3_2).f1), .int .i64 ((rd_T48 l0_2 x3_2).f2), .int .i64 ((rd_T48 l0_2 x3_2).f3), .int .i64 ((rd_T48 l0_2 x3_2).f4), .int .i64 ((rd_T48 l0_2 x3_2).f5), .int .i64 ((rd_T48 l0_2 x3_2).f6), .slice A198_7 ((rd_T48 l0_2 x3_2).f7).length c198_7, .slice A198_8 ((rd_T48 l0_2 x3_2).f8).length c198_8] 48 (0, 0))) := by subst hW_; exact ⟨BQ BK199.out⟩
      have n2_ : Aside0 (Below w.heap.size w w114) := by subst hW_; exact ⟨BT HB.out⟩
      (try clear BK192)
      (try clear BK199)
      (try clear HB)
      clear hW_
      have BK192 := n0_
      have BK199 := n1_
      have HB := n2_
      clear n0_ n1_ n2_
      replace BK192 := BD1 BK192
      replace BK199 := BD1 BK199
      replace HB := BD2 HB
      refine start_ (n := 45) (S := fun w' => w'.cell? ⟨gb199, 0, none⟩ = some (.int .i64 ((rd_T48 l0_2 x3_2).f0)) ∧ w'.cell? ⟨gb199, 1, none⟩ = some (.int .i64 ((rd_T48 l0_2 x3_2).f1)) ∧ w'.cell? ⟨gb199, 2, none⟩ = some (.int .i64 ((rd_T48 l0_2 x3_2).f2)) ∧ w'.cell? ⟨gb199, 3, none⟩ = some (.int .i64 ((rd_T48 l0_2 x3_2).f3)) ∧ w'.cell? ⟨gb199, 4, none⟩ = some (.int .i64 ((rd_T48 l0_2 x3_2).f4)) ∧ w'.cell? ⟨gb199, 5, none⟩ = some (.int .i64 ((rd_T48 l0_2 x3_2).f5)) ∧ w'.cell? ⟨gb199, 6, none⟩ = some (.int .i64 ((rd_T48 l0_2 x3_2).f6)) ∧ w'.cell? ⟨gb199, 7, none⟩ = some (.slice A198_7 ((rd_T48 l0_2 x3_2).f7).length c198_7) ∧ w'.cell? ⟨gb199, 8, none⟩ = some (.slice A198_8 ((rd_T48 l0_2 x3_2).f8).length c198_8) ∧ w'.cell? ⟨gb192, 0, none⟩ = some (.bool a0_0) ∧ w'.cell? ⟨gb192, 1, none⟩ = some (.slice A0_1 l0_1.length c0_1) ∧ w'.cell? ⟨gb192, 2, none⟩ = some (.slice (some ad198) l0_2.length c0_2) ∧ w'.cell? ⟨gb192, 3, none⟩ = some (.slice A0_3 l0_3.length c0_3) ∧ w'.cell? ⟨gb192, 4, none⟩ = some (.slice A0_4 l0_4.length c0_4) ∧ w'.cell? ⟨gb192, 5, none⟩ = some (.int .i64 a0_5)) (ds := []) (lo 0 45) (by kernel_rfl) rfl rfl ⟨bc BK199.out 0, bc BK199.out 1, bc BK199.out 2, bc BK199.out 3, bc BK199.out 4, bc BK199.out 5, bc BK199.out 6, bc BK199.out 7, bc BK199.out 8, bc BK192.out 0, bc BK192.out 1, bc BK192.out 2, bc BK192.out 3, bc BK192.out 4, bc BK192.out 5⟩ (fun hHeld => ?_); refine with_tabW spec_IsValidEngine.tab7 spec_IsValidEngine.bits7 (fun HT_ HW_ => ?_)
      generalize w114.drew = w115 at BK192 BK199 HB hHeld ⊢
      refine TS HT_ HW_ hHeld ?_
      refine OS HT_ (fun K hK => ?_)
      refine GO Try.func31 #[.agg #[.int .i64 ((rd_T48 l0_2 x3_2).f0), .int .i64 ((rd_T48 l0_2 x3_2).f1), .int .i64 ((rd_T48 l0_2 x3_2).f2), .int .i64 ((rd_T48 l0_2 x3_2).f3), .int .i64 ((rd_T48 l0_2 x3_2).f4), .int .i64 ((rd_T48 l0_2 x3_2).f5), .int .i64 ((rd_T48 l0_2 x3_2).f6), .slice A198_7 ((rd_T48 l0_2 x3_2).f7).length c198_7, .slice A198_8 ((rd_T48 l0_2 x3_2).f8).length c198_8]] ?_
      with_reducible refine MB (spec_IsValidTransaction.calls k2 ((rd_T48 l0_2 x3_2).f0) ((rd_T48 l0_2 x3_2).f1) ((rd_T48 l0_2 x3_2).f2) ((rd_T48 l0_2 x3_2).f3) ((rd_T48 l0_2 x3_2).f4) ((rd_T48 l0_2 x3_2).f5) ((rd_T48 l0_2 x3_2).f6) _ _ ((rd_T48 l0_2 x3_2).f7) _ _ ((rd_T48 l0_2 x3_2).f8) true _ (CC HR198_7 HB) HC198_7.out (CC HR198_8 HB) HC198_8.out A35.out) ?_
      intro w116 hb
      replace BK192 := BV BK192 hb
      replace BK199 := BV BK199 hb
      replace HB := BW HB hb
      (try clear hb)
      refine hK.out _ _ ⟨bc BK199.out 0, bc BK199.out 1, bc BK199.out 2, bc BK199.out 3, bc BK199.out 4, bc BK199.out 5, bc BK199.out 6, bc BK199.out 7, bc BK199.out 8, bc BK192.out 0, bc BK192.out 1, bc BK192.out 2, bc BK192.out 3, bc BK192.out 4, bc BK192.out 5⟩ (fun hHeld => ?_)
      clear hK K
      refine NM 51 ?_
      iterate 19 first | refine PS HT_ ?_ | refine PT HT_ ?_
      refine PV 22 (some 72) (bs 6291455 45) HT_ ?_
      refine TX 21 (some 71) (lo 23 45) HT_ HW_ hHeld ?_
      refine TS HT_ HW_ hHeld ?_
      by_cases c91 : ((rd_T48 l0_2 x3_2).f3) > a0_5
      ·rw [if_pos c91] at H
       have c91b0 : decide (a0_5 < ((rd_T48 l0_2 x3_2).f3)) = true := decide_eq_true c91
       clear c91
       obtain rfl := Option.some.inj H
       iterate 21 first | refine PS HT_ ?_ | refine PT HT_ ?_
       refine done_ (done_of HT_.out (by kernel_rfl)) ?_
       try go_wp2
       go_ret
       exact QT (BT HB.out)
      rw [if_neg c91] at H
      have c91b0 : decide (a0_5 < ((rd_T48 l0_2 x3_2).f3)) = false := decide_eq_false c91
      clear c91
      iterate 4 refine PS HT_ ?_
      refine PV 29 (some 79) (bs 805306367 45) HT_ ?_
      refine TX 28 (some 78) (lo 30 45) HT_ HW_ hHeld ?_
      refine TS HT_ HW_ hHeld ?_
      by_cases c99 : ((rd_T48 l0_2 x3_2).f6) > a0_5
      ·rw [if_pos c99] at H
       have c99b0 : decide (a0_5 < ((rd_T48 l0_2 x3_2).f6)) = true := decide_eq_true c99
       clear c99
       obtain rfl := Option.some.inj H
       iterate 14 first | refine PS HT_ ?_ | refine PT HT_ ?_
       refine done_ (done_of HT_.out (by kernel_rfl)) ?_
       try go_wp2
       go_ret
       exact QT (BT HB.out)
      rw [if_neg c99] at H
      have c99b0 : decide (a0_5 < ((rd_T48 l0_2 x3_2).f6)) = false := decide_eq_false c99
      clear c99
      iterate 5 first | refine PS HT_ ?_ | refine TS HT_ HW_ hHeld ?_
      by_cases c107 : ((rd_T48 l0_2 x3_2).f2) = 1
      rotate_left
      ·rw [if_neg c107] at H
       have c107b0 : (((rd_T48 l0_2 x3_2).f2) == 1) = false := beq_eq_false_iff_ne.mpr c107
       have c107b1 : (((rd_T48 l0_2 x3_2).f2) != 1) = true := bne_iff_ne.mpr c107
       have H' := AM_ H
       clear H
       iterate 9 first | refine PS HT_ ?_ | refine PT HT_ ?_
       refine done_ (done_of HT_.out (by kernel_rfl)) ?_
       try go_wp2
       go_roundg k2
       case measure => have := HJ1.out; have := HK2.out; omega
       case rel => exact ⟨(wrap64 (x3_2 + 1)), (by first | rfl | (simp; done) | (simp [*]; done)), H', ⟨by have := HJ1.out; have := HK2.out; omega⟩, ⟨BH BK192.out⟩, ⟨BT HB.out⟩⟩
      rw [if_pos c107] at H
      have c107b0 : (((rd_T48 l0_2 x3_2).f2) == 1) = true := beq_iff_eq.mpr c107
      have c107b1 : (((rd_T48 l0_2 x3_2).f2) != 1) = false := bne_eq_false_iff_eq.mpr c107
      clear c107
      obtain ⟨t203, A108, H⟩ := OB H
      iterate 5 first | refine PS HT_ ?_ | refine TS HT_ HW_ hHeld ?_
      refine OS HT_ (fun K hK => ?_)
      refine GO Try.func32 #[.agg #[.slice A0_1 l0_1.length c0_1], .agg #[.int .i64 ((rd_T48 l0_2 x3_2).f0), .int .i64 ((rd_T48 l0_2 x3_2).f1), .int .i64 ((rd_T48 l0_2 x3_2).f2), .int .i64 ((rd_T48 l0_2 x3_2).f3), .int .i64 ((rd_T48 l0_2 x3_2).f4), .int .i64 ((rd_T48 l0_2 x3_2).f5), .int .i64 ((rd_T48 l0_2 x3_2).f6), .slice A198_7 ((rd_T48 l0_2 x3_2).f7).length c198_7, .slice A198_8 ((rd_T48 l0_2 x3_2).f8).length c198_8]] ?_
      with_reducible refine MB (spec_ReadsExist.calls k2 _ _ l0_1 ((rd_T48 l0_2 x3_2).f0) ((rd_T48 l0_2 x3_2).f1) ((rd_T48 l0_2 x3_2).f2) ((rd_T48 l0_2 x3_2).f3) ((rd_T48 l0_2 x3_2).f4) ((rd_T48 l0_2 x3_2).f5) ((rd_T48 l0_2 x3_2).f6) _ _ ((rd_T48 l0_2 x3_2).f7) _ _ ((rd_T48 l0_2 x3_2).f8) t203 _ (CC HR0_1 HB) HC0_1.out (CC HR198_7 HB) HC198_7.out (CC HR198_8 HB) HC198_8.out A108.out) ?_
      intro w117 hb
      replace BK192 := BV BK192 hb
      replace BK199 := BV BK199 hb
      replace HB := BW HB hb
      (try clear hb)
      refine hK.out _ _ ⟨bc BK199.out 0, bc BK199.out 1, bc BK199.out 2, bc BK199.out 3, bc BK199.out 4, bc BK199.out 5, bc BK199.out 6, bc BK199.out 7, bc BK199.out 8, bc BK192.out 0, bc BK192.out 1, bc BK192.out 2, bc BK192.out 3, bc BK192.out 4, bc BK192.out 5⟩ (fun hHeld => ?_)
      clear hK K
      refine NM 91 ?_
      by_cases c109 : t203 = true
      rotate_left
      ·replace c109 := Bool.eq_false_iff.mpr c109
       subst c109
       replace H := HF H
       obtain rfl := Option.some.inj H
       iterate 3 refine PS HT_ ?_
       refine done_ (done_of HT_.out (by kernel_rfl)) ?_
       try go_wp2
       go_ret
       exact QT (BT HB.out)
      subst c109
      replace H := HT H
      have H' := AM_ H
      clear H
      iterate 3 refine PS HT_ ?_
      refine done_ (done_of HT_.out (by kernel_rfl)) ?_
      try go_wp2
      go_roundg k2
      case measure => have := HJ1.out; have := HK2.out; omega
      case rel => exact ⟨(wrap64 (x3_2 + 1)), (by first | rfl | (simp; done) | (simp [*]; done)), H', ⟨by have := HJ1.out; have := HK2.out; omega⟩, ⟨BH BK192.out⟩, ⟨BT HB.out⟩⟩
     rw [if_pos c37] at H
     have c37b0 : decide (0 < x3_2) = true := decide_eq_true c37
     clear c37
     obtain ⟨ji38, hji38⟩ : ∃ j_ : Int, (wrap64 (x3_2 - 1)) = j_ := ⟨_, rfl⟩
     replace H : (if 0 ≤ (ji38) then (if (ji38) < (l0_2.length : Int) then (if ((rd_T48 l0_2 (ji38)).f0) ≥ ((rd_T48 l0_2 x3_2).f0) then (some false) else (if ((rd_T48 l0_2 x3_2).f3) > a0_5 then (some false) else (if ((rd_T48 l0_2 x3_2).f6) > a0_5 then (some false) else (if ((rd_T48 l0_2 x3_2).f2) = 1 then ((spec_ReadsExist.f k2 l0_1 ((rd_T48 l0_2 x3_2).f0) ((rd_T48 l0_2 x3_2).f1) ((rd_T48 l0_2 x3_2).f2) ((rd_T48 l0_2 x3_2).f3) ((rd_T48 l0_2 x3_2).f4) ((rd_T48 l0_2 x3_2).f5) ((rd_T48 l0_2 x3_2).f6) ((rd_T48 l0_2 x3_2).f7) ((rd_T48 l0_2 x3_2).f8)).bind fun t202 => (if t202 = true then (spec_IsValidEngine.l0 k2 (wrap64 (x3_2 + 1)) a0_0 l0_1 l0_2 l0_3 l0_4 a0_5) else (some false))) else (spec_IsValidEngine.l0 k2 (wrap64 (x3_2 + 1)) a0_0 l0_1 l0_2 l0_3 l0_4 a0_5))))) else (none)) else (none)) = some r := by first | (rw [hji38] at H; exact H) | (simp only [hji38] at H ⊢; exact H)
     (try rw [hji38] at A35)
     have hji38w : (IntKind.i64.wrap (x3_2 - 1)) = ji38 := (i64_w _).trans hji38
     replace H := HI H
     obtain ⟨c39, H⟩ := H
     have c39b0 := decide_eq_true c39
     clear c39
     replace H := HI H
     obtain ⟨c40, H⟩ := H
     have c40b0 := decide_eq_true c40
     clear c40
     by_cases c41 : ((rd_T48 l0_2 (ji38)).f0) ≥ ((rd_T48 l0_2 x3_2).f0)
     ·rw [if_pos c41] at H
      have c41b0 : decide (((rd_T48 l0_2 x3_2).f0) ≤ ((rd_T48 l0_2 (ji38)).f0)) = true := decide_eq_true c41
      clear c41
      obtain rfl := Option.some.inj H
      obtain ⟨hcz42_0, hcz42_1, hcz42_2, hcz42_3, hcz42_4, hcz42_5, hfz42_0, hfz42_1, hfz42_2, hfz42_3, hfz42_4, hfz42_5⟩ := bk6 BK192.out
      have p198 : 0 ≤ (x3_2 : Int) := DT
      have q198 : x3_2 < (l0_2.length : Int) := DT
      obtain ⟨ad198, A198_7, c198_7, A198_8, c198_8, e198, hx198_0, hx198_1, hx198_2, hx198_3, hx198_4, hx198_5, hx198_6, hx198_7, hx198_8, hl198_7, hi198_7, hl198_8, hi198_8⟩ := at_T48 HR0_2.out x3_2 p198 q198
      cases e198
      replace hx198_0 := BC HB.out hx198_0
      replace hx198_1 := BC HB.out hx198_1
      replace hx198_2 := BC HB.out hx198_2
      replace hx198_3 := BC HB.out hx198_3
      replace hx198_4 := BC HB.out hx198_4
      replace hx198_5 := BC HB.out hx198_5
      replace hx198_6 := BC HB.out hx198_6
      replace hx198_7 := BC HB.out hx198_7
      replace hx198_8 := BC HB.out hx198_8
      have HR198_7 := AM_ hi198_7
      have HC198_7 := AM_ hl198_7
      clear hi198_7 hl198_7
      have HR198_8 := AM_ hi198_8
      have HC198_8 := AM_ hl198_8
      clear hi198_8 hl198_8
      replace p198 := eq_true p198
      replace q198 := eq_true q198
      try go_wp2_with (first | ((with_reducible refine G2 4 rfl ?_); (try (refine gate_guard (by rfl) ?_; dsimp only)); refine BZ 4 #[.int .i64 0, .int .i64 0, .int .i64 0, .int .i64 0, .int .i64 0, .int .i64 0, .int .i64 0, .slice none 0 0, .slice none 0 0] 48 HB ?_; clear HB; intro gb199 w43 hg hb BK199 GW199 HB; have NB192_199 := NP BK192 hg; have NB199_192 := NQ BK192 hg; replace BK192 := BV BK192 hb; clear hb hg; have hnb44 := NB199_192.out; have hnc44 := NB192_199.out; obtain ⟨hcz45_0, hcz45_1, hcz45_2, hcz45_3, hcz45_4, hcz45_5, hcz45_6, hcz45_7, hcz45_8, hfz45_0, hfz45_1, hfz45_2, hfz45_3, hfz45_4, hfz45_5, hfz45_6, hfz45_7, hfz45_8⟩ := bk9 BK199.out))
      generalize hW_ : ((((((((w43.setCell ⟨gb199, 0, none⟩ (.int .i64 ((rd_T48 l0_2 x3_2).f0))).setCell ⟨gb199, 1, none⟩ (.int .i64 ((rd_T48 l0_2 x3_2).f1))).setCell ⟨gb199, 2, none⟩ (.int .i64 ((rd_T48 l0_2 x3_2).f2))).setCell ⟨gb199, 3, none⟩ (.int .i64 ((rd_T48 l0_2 x3_2).f3))).setCell ⟨gb199, 4, none⟩ (.int .i64 ((rd_T48 l0_2 x3_2).f4))).setCell ⟨gb199, 5, none⟩ (.int .i64 ((rd_T48 l0_2 x3_2).f5))).setCell ⟨gb199, 6, none⟩ (.int .i64 ((rd_T48 l0_2 x3_2).f6))).setCell ⟨gb199, 7, none⟩ (.slice A198_7 ((rd_T48 l0_2 x3_2).f7).length c198_7)).setCell ⟨gb199, 8, none⟩ (.slice A198_8 ((rd_T48 l0_2 x3_2).f8).length c198_8) = w46
      have n0_ : Aside0 (w46.heap[gb192]? = some (.cells #[.bool a0_0, .slice A0_1 l0_1.length c0_1, .slice (some ad198) l0_2.length c0_2, .slice A0_3 l0_3.length c0_3, .slice A0_4 l0_4.length c0_4, .int .i64 a0_5] 39 (0, 0))) := by subst hW_; exact ⟨BG BK192.out NB192_199.out⟩
      have n1_ : Aside0 (w46.heap[gb199]? = some (.cells #[.int .i64 ((rd_T48 l0_2 x3_2).f0), .int .i64 ((rd_T48 l0_2 x3_2).f1), .int .i64 ((rd_T48 l0_2 x3_2).f2), .int .i64 ((rd_T48 l0_2 x3_2).f3), .int .i64 ((rd_T48 l0_2 x3_2).f4), .int .i64 ((rd_T48 l0_2 x3_2).f5), .int .i64 ((rd_T48 l0_2 x3_2).f6), .slice A198_7 ((rd_T48 l0_2 x3_2).f7).length c198_7, .slice A198_8 ((rd_T48 l0_2 x3_2).f8).length c198_8] 48 (0, 0))) := by subst hW_; exact ⟨BQ BK199.out⟩
      have n2_ : Aside0 (Below w.heap.size w w46) := by subst hW_; exact ⟨BT HB.out⟩
      (try clear BK192)
      (try clear BK199)
      (try clear HB)
      clear hW_
      have BK192 := n0_
      have BK199 := n1_
      have HB := n2_
      clear n0_ n1_ n2_
      replace BK192 := BD1 BK192
      replace BK199 := BD1 BK199
      replace HB := BD2 HB
      have p201 : 0 ≤ ((ji38) : Int) := DT
      have q201 : (ji38) < (l0_2.length : Int) := DT
      obtain ⟨ad201, A201_7, c201_7, A201_8, c201_8, e201, hx201_0, hx201_1, hx201_2, hx201_3, hx201_4, hx201_5, hx201_6, hx201_7, hx201_8, hl201_7, hi201_7, hl201_8, hi201_8⟩ := at_T48 HR0_2.out (ji38) p201 q201
      have hw201_8 := hx201_8
      have hw201_7 := hx201_7
      have hw201_6 := hx201_6
      have hw201_5 := hx201_5
      have hw201_4 := hx201_4
      have hw201_3 := hx201_3
      have hw201_2 := hx201_2
      have hw201_1 := hx201_1
      have hw201_0 := hx201_0
      obtain rfl : ad198 = ad201 := (by injection e201)
      replace hx201_0 := BC HB.out hx201_0
      replace hx201_1 := BC HB.out hx201_1
      replace hx201_2 := BC HB.out hx201_2
      replace hx201_3 := BC HB.out hx201_3
      replace hx201_4 := BC HB.out hx201_4
      replace hx201_5 := BC HB.out hx201_5
      replace hx201_6 := BC HB.out hx201_6
      replace hx201_7 := BC HB.out hx201_7
      replace hx201_8 := BC HB.out hx201_8
      have HR201_7 := AM_ hi201_7
      have HC201_7 := AM_ hl201_7
      clear hi201_7 hl201_7
      have HR201_8 := AM_ hi201_8
      have HC201_8 := AM_ hl201_8
      clear hi201_8 hl201_8
      replace p201 := eq_true p201
      replace q201 := eq_true q201
      refine start_ (n := 45) (S := fun w' => w'.cell? ⟨gb199, 0, none⟩ = some (.int .i64 ((rd_T48 l0_2 x3_2).f0)) ∧ w'.cell? ⟨gb199, 1, none⟩ = some (.int .i64 ((rd_T48 l0_2 x3_2).f1)) ∧ w'.cell? ⟨gb199, 2, none⟩ = some (.int .i64 ((rd_T48 l0_2 x3_2).f2)) ∧ w'.cell? ⟨gb199, 3, none⟩ = some (.int .i64 ((rd_T48 l0_2 x3_2).f3)) ∧ w'.cell? ⟨gb199, 4, none⟩ = some (.int .i64 ((rd_T48 l0_2 x3_2).f4)) ∧ w'.cell? ⟨gb199, 5, none⟩ = some (.int .i64 ((rd_T48 l0_2 x3_2).f5)) ∧ w'.cell? ⟨gb199, 6, none⟩ = some (.int .i64 ((rd_T48 l0_2 x3_2).f6)) ∧ w'.cell? ⟨gb199, 7, none⟩ = some (.slice A198_7 ((rd_T48 l0_2 x3_2).f7).length c198_7) ∧ w'.cell? ⟨gb199, 8, none⟩ = some (.slice A198_8 ((rd_T48 l0_2 x3_2).f8).length c198_8) ∧ w'.cell? ⟨gb192, 0, none⟩ = some (.bool a0_0) ∧ w'.cell? ⟨gb192, 1, none⟩ = some (.slice A0_1 l0_1.length c0_1) ∧ w'.cell? ⟨gb192, 2, none⟩ = some (.slice (some ad198) l0_2.length c0_2) ∧ w'.cell? ⟨gb192, 3, none⟩ = some (.slice A0_3 l0_3.length c0_3) ∧ w'.cell? ⟨gb192, 4, none⟩ = some (.slice A0_4 l0_4.length c0_4) ∧ w'.cell? ⟨gb192, 5, none⟩ = some (.int .i64 a0_5) ∧ w'.cell? (ad198.add (((ji38)).toNat * 9)) = some (.int .i64 ((rd_T48 l0_2 (ji38)).f0)) ∧ w'.cell? ⟨(ad198.add (((ji38)).toNat * 9)).block, (ad198.add (((ji38)).toNat * 9)).off + 1, none⟩ = some (.int .i64 ((rd_T48 l0_2 (ji38)).f1)) ∧ w'.cell? ⟨(ad198.add (((ji38)).toNat * 9)).block, (ad198.add (((ji38)).toNat * 9)).off + 2, none⟩ = some (.int .i64 ((rd_T48 l0_2 (ji38)).f2)) ∧ w'.cell? ⟨(ad198.add (((ji38)).toNat * 9)).block, (ad198.add (((ji38)).toNat * 9)).off + 3, none⟩ = some (.int .i64 ((rd_T48 l0_2 (ji38)).f3)) ∧ w'.cell? ⟨(ad198.add (((ji38)).toNat * 9)).block, (ad198.add (((ji38)).toNat * 9)).off + 4, none⟩ = some (.int .i64 ((rd_T48 l0_2 (ji38)).f4)) ∧ w'.cell? ⟨(ad198.add (((ji38)).toNat * 9)).block, (ad198.add (((ji38)).toNat * 9)).off + 5, none⟩ = some (.int .i64 ((rd_T48 l0_2 (ji38)).f5)) ∧ w'.cell? ⟨(ad198.add (((ji38)).toNat * 9)).block, (ad198.add (((ji38)).toNat * 9)).off + 6, none⟩ = some (.int .i64 ((rd_T48 l0_2 (ji38)).f6)) ∧ w'.cell? ⟨(ad198.add (((ji38)).toNat * 9)).block, (ad198.add (((ji38)).toNat * 9)).off + 7, none⟩ = some (.slice A201_7 ((rd_T48 l0_2 (ji38)).f7).length c201_7) ∧ w'.cell? ⟨(ad198.add (((ji38)).toNat * 9)).block, (ad198.add (((ji38)).toNat * 9)).off + 8, none⟩ = some (.slice A201_8 ((rd_T48 l0_2 (ji38)).f8).length c201_8)) (ds := []) (lo 0 45) (by kernel_rfl) rfl rfl ⟨bc BK199.out 0, bc BK199.out 1, bc BK199.out 2, bc BK199.out 3, bc BK199.out 4, bc BK199.out 5, bc BK199.out 6, bc BK199.out 7, bc BK199.out 8, bc BK192.out 0, bc BK192.out 1, bc BK192.out 2, bc BK192.out 3, bc BK192.out 4, bc BK192.out 5, (BD HB.out hw201_0), (BD HB.out hw201_1), (BD HB.out hw201_2), (BD HB.out hw201_3), (BD HB.out hw201_4), (BD HB.out hw201_5), (BD HB.out hw201_6), (BD HB.out hw201_7), (BD HB.out hw201_8)⟩ (fun hHeld => ?_); refine with_tabW spec_IsValidEngine.tab7 spec_IsValidEngine.bits7 (fun HT_ HW_ => ?_)
      generalize w46.drew = w47 at BK192 BK199 HB HR201_7 HR201_8 hx201_0 hx201_1 hx201_2 hx201_3 hx201_4 hx201_5 hx201_6 hx201_7 hx201_8 hHeld ⊢
      refine TS HT_ HW_ hHeld ?_
      refine OS HT_ (fun K hK => ?_)
      refine GO Try.func31 #[.agg #[.int .i64 ((rd_T48 l0_2 x3_2).f0), .int .i64 ((rd_T48 l0_2 x3_2).f1), .int .i64 ((rd_T48 l0_2 x3_2).f2), .int .i64 ((rd_T48 l0_2 x3_2).f3), .int .i64 ((rd_T48 l0_2 x3_2).f4), .int .i64 ((rd_T48 l0_2 x3_2).f5), .int .i64 ((rd_T48 l0_2 x3_2).f6), .slice A198_7 ((rd_T48 l0_2 x3_2).f7).length c198_7, .slice A198_8 ((rd_T48 l0_2 x3_2).f8).length c198_8]] ?_
      with_reducible refine MB (spec_IsValidTransaction.calls k2 ((rd_T48 l0_2 x3_2).f0) ((rd_T48 l0_2 x3_2).f1) ((rd_T48 l0_2 x3_2).f2) ((rd_T48 l0_2 x3_2).f3) ((rd_T48 l0_2 x3_2).f4) ((rd_T48 l0_2 x3_2).f5) ((rd_T48 l0_2 x3_2).f6) _ _ ((rd_T48 l0_2 x3_2).f7) _ _ ((rd_T48 l0_2 x3_2).f8) true _ (CC HR198_7 HB) HC198_7.out (CC HR198_8 HB) HC198_8.out A35.out) ?_
      intro w48 hb
      replace BK192 := BV BK192 hb
      replace BK199 := BV BK199 hb
      replace HB := BW HB hb
      (try clear hb)
      refine hK.out _ _ ⟨bc BK199.out 0, bc BK199.out 1, bc BK199.out 2, bc BK199.out 3, bc BK199.out 4, bc BK199.out 5, bc BK199.out 6, bc BK199.out 7, bc BK199.out 8, bc BK192.out 0, bc BK192.out 1, bc BK192.out 2, bc BK192.out 3, bc BK192.out 4, bc BK192.out 5, (BD HB.out hw201_0), (BD HB.out hw201_1), (BD HB.out hw201_2), (BD HB.out hw201_3), (BD HB.out hw201_4), (BD HB.out hw201_5), (BD HB.out hw201_6), (BD HB.out hw201_7), (BD HB.out hw201_8)⟩ (fun hHeld => ?_)
      clear hK K
      refine NM 51 ?_
      iterate 6 refine PS HT_ ?_
      refine PV 9 (some 59) (bs 767 45) HT_ ?_
      refine PV 10 (some 60) (bs 1791 45) HT_ ?_
      refine PV 14 (some 64) (bs 18175 45) HT_ ?_
      refine TX 8 (some 58) (bs 18431 45) HT_ HW_ hHeld ?_
      refine PV 11 (some 61) (bs 20479 45) HT_ ?_
      refine PV 12 (some 62) (bs 24575 45) HT_ ?_
      refine TX 13 (some 63) (lo 15 45) HT_ HW_ hHeld ?_
      iterate 30 first | refine PS HT_ ?_ | refine PT HT_ ?_ | refine TS HT_ HW_ hHeld ?_
      refine done_ (done_of HT_.out (by kernel_rfl)) ?_
      try go_wp2
      go_ret
      exact ⟨by first | rfl | (simp [errW_none, errW_some] <;> rfl) | (simp only [← hji38]; first | rfl | (simp [errW_none, errW_some] <;> rfl)) | (simp [*, errW_none, errW_some] <;> rfl), BT HB.out⟩
     rw [if_neg c41] at H
     have c41b0 : decide (((rd_T48 l0_2 x3_2).f0) ≤ ((rd_T48 l0_2 (ji38)).f0)) = false := decide_eq_false c41
     clear c41
     obtain ⟨hcz68_0, hcz68_1, hcz68_2, hcz68_3, hcz68_4, hcz68_5, hfz68_0, hfz68_1, hfz68_2, hfz68_3, hfz68_4, hfz68_5⟩ := bk6 BK192.out
     have p198 : 0 ≤ (x3_2 : Int) := DT
     have q198 : x3_2 < (l0_2.length : Int) := DT
     obtain ⟨ad198, A198_7, c198_7, A198_8, c198_8, e198, hx198_0, hx198_1, hx198_2, hx198_3, hx198_4, hx198_5, hx198_6, hx198_7, hx198_8, hl198_7, hi198_7, hl198_8, hi198_8⟩ := at_T48 HR0_2.out x3_2 p198 q198
     cases e198
     replace hx198_0 := BC HB.out hx198_0
     replace hx198_1 := BC HB.out hx198_1
     replace hx198_2 := BC HB.out hx198_2
     replace hx198_3 := BC HB.out hx198_3
     replace hx198_4 := BC HB.out hx198_4
     replace hx198_5 := BC HB.out hx198_5
     replace hx198_6 := BC HB.out hx198_6
     replace hx198_7 := BC HB.out hx198_7
     replace hx198_8 := BC HB.out hx198_8
     have HR198_7 := AM_ hi198_7
     have HC198_7 := AM_ hl198_7
     clear hi198_7 hl198_7
     have HR198_8 := AM_ hi198_8
     have HC198_8 := AM_ hl198_8
     clear hi198_8 hl198_8
     replace p198 := eq_true p198
     replace q198 := eq_true q198
     try go_wp2_with (first | ((with_reducible refine G2 4 rfl ?_); (try (refine gate_guard (by rfl) ?_; dsimp only)); refine BZ 4 #[.int .i64 0, .int .i64 0, .int .i64 0, .int .i64 0, .int .i64 0, .int .i64 0, .int .i64 0, .slice none 0 0, .slice none 0 0] 48 HB ?_; clear HB; intro gb199 w69 hg hb BK199 GW199 HB; have NB192_199 := NP BK192 hg; have NB199_192 := NQ BK192 hg; replace BK192 := BV BK192 hb; clear hb hg; have hnb70 := NB199_192.out; have hnc70 := NB192_199.out; obtain ⟨hcz71_0, hcz71_1, hcz71_2, hcz71_3, hcz71_4, hcz71_5, hcz71_6, hcz71_7, hcz71_8, hfz71_0, hfz71_1, hfz71_2, hfz71_3, hfz71_4, hfz71_5, hfz71_6, hfz71_7, hfz71_8⟩ := bk9 BK199.out))
     generalize hW_ : ((((((((w69.setCell ⟨gb199, 0, none⟩ (.int .i64 ((rd_T48 l0_2 x3_2).f0))).setCell ⟨gb199, 1, none⟩ (.int .i64 ((rd_T48 l0_2 x3_2).f1))).setCell ⟨gb199, 2, none⟩ (.int .i64 ((rd_T48 l0_2 x3_2).f2))).setCell ⟨gb199, 3, none⟩ (.int .i64 ((rd_T48 l0_2 x3_2).f3))).setCell ⟨gb199, 4, none⟩ (.int .i64 ((rd_T48 l0_2 x3_2).f4))).setCell ⟨gb199, 5, none⟩ (.int .i64 ((rd_T48 l0_2 x3_2).f5))).setCell ⟨gb199, 6, none⟩ (.int .i64 ((rd_T48 l0_2 x3_2).f6))).setCell ⟨gb199, 7, none⟩ (.slice A198_7 ((rd_T48 l0_2 x3_2).f7).length c198_7)).setCell ⟨gb199, 8, none⟩ (.slice A198_8 ((rd_T48 l0_2 x3_2).f8).length c198_8) = w72
     have n0_ : Aside0 (w72.heap[gb192]? = some (.cells #[.bool a0_0, .slice A0_1 l0_1.length c0_1, .slice (some ad198) l0_2.length c0_2, .slice A0_3 l0_3.length c0_3, .slice A0_4 l0_4.length c0_4, .int .i64 a0_5] 39 (0, 0))) := by subst hW_; exact ⟨BG BK192.out NB192_199.out⟩
     have n1_ : Aside0 (w72.heap[gb199]? = some (.cells #[.int .i64 ((rd_T48 l0_2 x3_2).f0), .int .i64 ((rd_T48 l0_2 x3_2).f1), .int .i64 ((rd_T48 l0_2 x3_2).f2), .int .i64 ((rd_T48 l0_2 x3_2).f3), .int .i64 ((rd_T48 l0_2 x3_2).f4), .int .i64 ((rd_T48 l0_2 x3_2).f5), .int .i64 ((rd_T48 l0_2 x3_2).f6), .slice A198_7 ((rd_T48 l0_2 x3_2).f7).length c198_7, .slice A198_8 ((rd_T48 l0_2 x3_2).f8).length c198_8] 48 (0, 0))) := by subst hW_; exact ⟨BQ BK199.out⟩
     have n2_ : Aside0 (Below w.heap.size w w72) := by subst hW_; exact ⟨BT HB.out⟩
     (try clear BK192)
     (try clear BK199)
     (try clear HB)
     clear hW_
     have BK192 := n0_
     have BK199 := n1_
     have HB := n2_
     clear n0_ n1_ n2_
     replace BK192 := BD1 BK192
     replace BK199 := BD1 BK199
     replace HB := BD2 HB
     have p201 : 0 ≤ ((ji38) : Int) := DT
     have q201 : (ji38) < (l0_2.length : Int) := DT
     obtain ⟨ad201, A201_7, c201_7, A201_8, c201_8, e201, hx201_0, hx201_1, hx201_2, hx201_3, hx201_4, hx201_5, hx201_6, hx201_7, hx201_8, hl201_7, hi201_7, hl201_8, hi201_8⟩ := at_T48 HR0_2.out (ji38) p201 q201
     have hw201_8 := hx201_8
     have hw201_7 := hx201_7
     have hw201_6 := hx201_6
     have hw201_5 := hx201_5
     have hw201_4 := hx201_4
     have hw201_3 := hx201_3
     have hw201_2 := hx201_2
     have hw201_1 := hx201_1
     have hw201_0 := hx201_0
     obtain rfl : ad198 = ad201 := (by injection e201)
     replace hx201_0 := BC HB.out hx201_0
     replace hx201_1 := BC HB.out hx201_1
     replace hx201_2 := BC HB.out hx201_2
     replace hx201_3 := BC HB.out hx201_3
     replace hx201_4 := BC HB.out hx201_4
     replace hx201_5 := BC HB.out hx201_5
     replace hx201_6 := BC HB.out hx201_6
     replace hx201_7 := BC HB.out hx201_7
     replace hx201_8 := BC HB.out hx201_8
     have HR201_7 := AM_ hi201_7
     have HC201_7 := AM_ hl201_7
     clear hi201_7 hl201_7
     have HR201_8 := AM_ hi201_8
     have HC201_8 := AM_ hl201_8
     clear hi201_8 hl201_8
     replace p201 := eq_true p201
     replace q201 := eq_true q201
     refine start_ (n := 45) (S := fun w' => w'.cell? ⟨gb199, 0, none⟩ = some (.int .i64 ((rd_T48 l0_2 x3_2).f0)) ∧ w'.cell? ⟨gb199, 1, none⟩ = some (.int .i64 ((rd_T48 l0_2 x3_2).f1)) ∧ w'.cell? ⟨gb199, 2, none⟩ = some (.int .i64 ((rd_T48 l0_2 x3_2).f2)) ∧ w'.cell? ⟨gb199, 3, none⟩ = some (.int .i64 ((rd_T48 l0_2 x3_2).f3)) ∧ w'.cell? ⟨gb199, 4, none⟩ = some (.int .i64 ((rd_T48 l0_2 x3_2).f4)) ∧ w'.cell? ⟨gb199, 5, none⟩ = some (.int .i64 ((rd_T48 l0_2 x3_2).f5)) ∧ w'.cell? ⟨gb199, 6, none⟩ = some (.int .i64 ((rd_T48 l0_2 x3_2).f6)) ∧ w'.cell? ⟨gb199, 7, none⟩ = some (.slice A198_7 ((rd_T48 l0_2 x3_2).f7).length c198_7) ∧ w'.cell? ⟨gb199, 8, none⟩ = some (.slice A198_8 ((rd_T48 l0_2 x3_2).f8).length c198_8) ∧ w'.cell? ⟨gb192, 0, none⟩ = some (.bool a0_0) ∧ w'.cell? ⟨gb192, 1, none⟩ = some (.slice A0_1 l0_1.length c0_1) ∧ w'.cell? ⟨gb192, 2, none⟩ = some (.slice (some ad198) l0_2.length c0_2) ∧ w'.cell? ⟨gb192, 3, none⟩ = some (.slice A0_3 l0_3.length c0_3) ∧ w'.cell? ⟨gb192, 4, none⟩ = some (.slice A0_4 l0_4.length c0_4) ∧ w'.cell? ⟨gb192, 5, none⟩ = some (.int .i64 a0_5) ∧ w'.cell? (ad198.add (((ji38)).toNat * 9)) = some (.int .i64 ((rd_T48 l0_2 (ji38)).f0)) ∧ w'.cell? ⟨(ad198.add (((ji38)).toNat * 9)).block, (ad198.add (((ji38)).toNat * 9)).off + 1, none⟩ = some (.int .i64 ((rd_T48 l0_2 (ji38)).f1)) ∧ w'.cell? ⟨(ad198.add (((ji38)).toNat * 9)).block, (ad198.add (((ji38)).toNat * 9)).off + 2, none⟩ = some (.int .i64 ((rd_T48 l0_2 (ji38)).f2)) ∧ w'.cell? ⟨(ad198.add (((ji38)).toNat * 9)).block, (ad198.add (((ji38)).toNat * 9)).off + 3, none⟩ = some (.int .i64 ((rd_T48 l0_2 (ji38)).f3)) ∧ w'.cell? ⟨(ad198.add (((ji38)).toNat * 9)).block, (ad198.add (((ji38)).toNat * 9)).off + 4, none⟩ = some (.int .i64 ((rd_T48 l0_2 (ji38)).f4)) ∧ w'.cell? ⟨(ad198.add (((ji38)).toNat * 9)).block, (ad198.add (((ji38)).toNat * 9)).off + 5, none⟩ = some (.int .i64 ((rd_T48 l0_2 (ji38)).f5)) ∧ w'.cell? ⟨(ad198.add (((ji38)).toNat * 9)).block, (ad198.add (((ji38)).toNat * 9)).off + 6, none⟩ = some (.int .i64 ((rd_T48 l0_2 (ji38)).f6)) ∧ w'.cell? ⟨(ad198.add (((ji38)).toNat * 9)).block, (ad198.add (((ji38)).toNat * 9)).off + 7, none⟩ = some (.slice A201_7 ((rd_T48 l0_2 (ji38)).f7).length c201_7) ∧ w'.cell? ⟨(ad198.add (((ji38)).toNat * 9)).block, (ad198.add (((ji38)).toNat * 9)).off + 8, none⟩ = some (.slice A201_8 ((rd_T48 l0_2 (ji38)).f8).length c201_8)) (ds := []) (lo 0 45) (by kernel_rfl) rfl rfl ⟨bc BK199.out 0, bc BK199.out 1, bc BK199.out 2, bc BK199.out 3, bc BK199.out 4, bc BK199.out 5, bc BK199.out 6, bc BK199.out 7, bc BK199.out 8, bc BK192.out 0, bc BK192.out 1, bc BK192.out 2, bc BK192.out 3, bc BK192.out 4, bc BK192.out 5, (BD HB.out hw201_0), (BD HB.out hw201_1), (BD HB.out hw201_2), (BD HB.out hw201_3), (BD HB.out hw201_4), (BD HB.out hw201_5), (BD HB.out hw201_6), (BD HB.out hw201_7), (BD HB.out hw201_8)⟩ (fun hHeld => ?_); refine with_tabW spec_IsValidEngine.tab7 spec_IsValidEngine.bits7 (fun HT_ HW_ => ?_)
     generalize w72.drew = w73 at BK192 BK199 HB HR201_7 HR201_8 hx201_0 hx201_1 hx201_2 hx201_3 hx201_4 hx201_5 hx201_6 hx201_7 hx201_8 hHeld ⊢
     refine TS HT_ HW_ hHeld ?_
     refine OS HT_ (fun K hK => ?_)
     refine GO Try.func31 #[.agg #[.int .i64 ((rd_T48 l0_2 x3_2).f0), .int .i64 ((rd_T48 l0_2 x3_2).f1), .int .i64 ((rd_T48 l0_2 x3_2).f2), .int .i64 ((rd_T48 l0_2 x3_2).f3), .int .i64 ((rd_T48 l0_2 x3_2).f4), .int .i64 ((rd_T48 l0_2 x3_2).f5), .int .i64 ((rd_T48 l0_2 x3_2).f6), .slice A198_7 ((rd_T48 l0_2 x3_2).f7).length c198_7, .slice A198_8 ((rd_T48 l0_2 x3_2).f8).length c198_8]] ?_
     with_reducible refine MB (spec_IsValidTransaction.calls k2 ((rd_T48 l0_2 x3_2).f0) ((rd_T48 l0_2 x3_2).f1) ((rd_T48 l0_2 x3_2).f2) ((rd_T48 l0_2 x3_2).f3) ((rd_T48 l0_2 x3_2).f4) ((rd_T48 l0_2 x3_2).f5) ((rd_T48 l0_2 x3_2).f6) _ _ ((rd_T48 l0_2 x3_2).f7) _ _ ((rd_T48 l0_2 x3_2).f8) true _ (CC HR198_7 HB) HC198_7.out (CC HR198_8 HB) HC198_8.out A35.out) ?_
     intro w74 hb
     replace BK192 := BV BK192 hb
     replace BK199 := BV BK199 hb
     replace HB := BW HB hb
     (try clear hb)
     refine hK.out _ _ ⟨bc BK199.out 0, bc BK199.out 1, bc BK199.out 2, bc BK199.out 3, bc BK199.out 4, bc BK199.out 5, bc BK199.out 6, bc BK199.out 7, bc BK199.out 8, bc BK192.out 0, bc BK192.out 1, bc BK192.out 2, bc BK192.out 3, bc BK192.out 4, bc BK192.out 5, (BD HB.out hw201_0), (BD HB.out hw201_1), (BD HB.out hw201_2), (BD HB.out hw201_3), (BD HB.out hw201_4), (BD HB.out hw201_5), (BD HB.out hw201_6), (BD HB.out hw201_7), (BD HB.out hw201_8)⟩ (fun hHeld => ?_)
     clear hK K
     refine NM 51 ?_
     iterate 6 refine PS HT_ ?_
     refine PV 9 (some 59) (bs 767 45) HT_ ?_
     refine PV 10 (some 60) (bs 1791 45) HT_ ?_
     refine PV 14 (some 64) (bs 18175 45) HT_ ?_
     refine TX 8 (some 58) (bs 18431 45) HT_ HW_ hHeld ?_
     refine PV 11 (some 61) (bs 20479 45) HT_ ?_
     refine PV 12 (some 62) (bs 24575 45) HT_ ?_
     refine TX 13 (some 63) (lo 15 45) HT_ HW_ hHeld ?_
     iterate 6 first | refine PS HT_ ?_ | refine TS HT_ HW_ hHeld ?_
     refine PV 22 (some 72) (bs 6291455 45) HT_ ?_
     refine TX 21 (some 71) (lo 23 45) HT_ HW_ hHeld ?_
     refine TS HT_ HW_ hHeld ?_
     by_cases c49 : ((rd_T48 l0_2 x3_2).f3) > a0_5
     ·rw [if_pos c49] at H
      have c49b0 : decide (a0_5 < ((rd_T48 l0_2 x3_2).f3)) = true := decide_eq_true c49
      clear c49
      obtain rfl := Option.some.inj H
      iterate 21 first | refine PS HT_ ?_ | refine PT HT_ ?_
      refine done_ (done_of HT_.out (by kernel_rfl)) ?_
      try go_wp2
      go_ret
      exact ⟨by first | rfl | (simp [errW_none, errW_some] <;> rfl) | (simp only [← hji38]; first | rfl | (simp [errW_none, errW_some] <;> rfl)) | (simp [*, errW_none, errW_some] <;> rfl), BT HB.out⟩
     rw [if_neg c49] at H
     have c49b0 : decide (a0_5 < ((rd_T48 l0_2 x3_2).f3)) = false := decide_eq_false c49
     clear c49
     iterate 4 refine PS HT_ ?_
     refine PV 29 (some 79) (bs 805306367 45) HT_ ?_
     refine TX 28 (some 78) (lo 30 45) HT_ HW_ hHeld ?_
     refine TS HT_ HW_ hHeld ?_
     by_cases c57 : ((rd_T48 l0_2 x3_2).f6) > a0_5
     ·rw [if_pos c57] at H
      have c57b0 : decide (a0_5 < ((rd_T48 l0_2 x3_2).f6)) = true := decide_eq_true c57
      clear c57
      obtain rfl := Option.some.inj H
      iterate 14 first | refine PS HT_ ?_ | refine PT HT_ ?_
      refine done_ (done_of HT_.out (by kernel_rfl)) ?_
      try go_wp2
      go_ret
      exact ⟨by first | rfl | (simp [errW_none, errW_some] <;> rfl) | (simp only [← hji38]; first | rfl | (simp [errW_none, errW_some] <;> rfl)) | (simp [*, errW_none, errW_some] <;> rfl), BT HB.out⟩
     rw [if_neg c57] at H
     have c57b0 : decide (a0_5 < ((rd_T48 l0_2 x3_2).f6)) = false := decide_eq_false c57
     clear c57
     iterate 5 first | refine PS HT_ ?_ | refine TS HT_ HW_ hHeld ?_
     by_cases c65 : ((rd_T48 l0_2 x3_2).f2) = 1
     rotate_left
     ·rw [if_neg c65] at H
      have c65b0 : (((rd_T48 l0_2 x3_2).f2) == 1) = false := beq_eq_false_iff_ne.mpr c65
      have c65b1 : (((rd_T48 l0_2 x3_2).f2) != 1) = true := bne_iff_ne.mpr c65
      have H' := AM_ H
      clear H
      iterate 9 first | refine PS HT_ ?_ | refine PT HT_ ?_
      refine done_ (done_of HT_.out (by kernel_rfl)) ?_
      try go_wp2
      go_roundg k2
      case measure => have := HJ1.out; have := HK2.out; omega
      case rel => exact ⟨(wrap64 (x3_2 + 1)), (by first | rfl | (simp; done) | (simp [*]; done)), H', ⟨by have := HJ1.out; have := HK2.out; omega⟩, ⟨BH BK192.out⟩, ⟨BT HB.out⟩⟩
     rw [if_pos c65] at H
     have c65b0 : (((rd_T48 l0_2 x3_2).f2) == 1) = true := beq_iff_eq.mpr c65
     have c65b1 : (((rd_T48 l0_2 x3_2).f2) != 1) = false := bne_eq_false_iff_eq.mpr c65
     clear c65
     obtain ⟨t202, A66, H⟩ := OB H
     iterate 5 first | refine PS HT_ ?_ | refine TS HT_ HW_ hHeld ?_
     refine OS HT_ (fun K hK => ?_)
     refine GO Try.func32 #[.agg #[.slice A0_1 l0_1.length c0_1], .agg #[.int .i64 ((rd_T48 l0_2 x3_2).f0), .int .i64 ((rd_T48 l0_2 x3_2).f1), .int .i64 ((rd_T48 l0_2 x3_2).f2), .int .i64 ((rd_T48 l0_2 x3_2).f3), .int .i64 ((rd_T48 l0_2 x3_2).f4), .int .i64 ((rd_T48 l0_2 x3_2).f5), .int .i64 ((rd_T48 l0_2 x3_2).f6), .slice A198_7 ((rd_T48 l0_2 x3_2).f7).length c198_7, .slice A198_8 ((rd_T48 l0_2 x3_2).f8).length c198_8]] ?_
     with_reducible refine MB (spec_ReadsExist.calls k2 _ _ l0_1 ((rd_T48 l0_2 x3_2).f0) ((rd_T48 l0_2 x3_2).f1) ((rd_T48 l0_2 x3_2).f2) ((rd_T48 l0_2 x3_2).f3) ((rd_T48 l0_2 x3_2).f4) ((rd_T48 l0_2 x3_2).f5) ((rd_T48 l0_2 x3_2).f6) _ _ ((rd_T48 l0_2 x3_2).f7) _ _ ((rd_T48 l0_2 x3_2).f8) t202 _ (CC HR0_1 HB) HC0_1.out (CC HR198_7 HB) HC198_7.out (CC HR198_8 HB) HC198_8.out A66.out) ?_
     intro w75 hb
     replace BK192 := BV BK192 hb
     replace BK199 := BV BK199 hb
     replace HB := BW HB hb
     (try clear hb)
     refine hK.out _ _ ⟨bc BK199.out 0, bc BK199.out 1, bc BK199.out 2, bc BK199.out 3, bc BK199.out 4, bc BK199.out 5, bc BK199.out 6, bc BK199.out 7, bc BK199.out 8, bc BK192.out 0, bc BK192.out 1, bc BK192.out 2, bc BK192.out 3, bc BK192.out 4, bc BK192.out 5, (BD HB.out hw201_0), (BD HB.out hw201_1), (BD HB.out hw201_2), (BD HB.out hw201_3), (BD HB.out hw201_4), (BD HB.out hw201_5), (BD HB.out hw201_6), (BD HB.out hw201_7), (BD HB.out hw201_8)⟩ (fun hHeld => ?_)
     clear hK K
     refine NM 91 ?_
     by_cases c67 : t202 = true
     rotate_left
     ·replace c67 := Bool.eq_false_iff.mpr c67
      subst c67
      replace H := HF H
      obtain rfl := Option.some.inj H
      iterate 3 refine PS HT_ ?_
      refine done_ (done_of HT_.out (by kernel_rfl)) ?_
      try go_wp2
      go_ret
      exact ⟨by first | rfl | (simp [errW_none, errW_some] <;> rfl) | (simp only [← hji38]; first | rfl | (simp [errW_none, errW_some] <;> rfl)) | (simp [*, errW_none, errW_some] <;> rfl), BT HB.out⟩
     subst c67
     replace H := HT H
     have H' := AM_ H
     clear H
     iterate 3 refine PS HT_ ?_
     refine done_ (done_of HT_.out (by kernel_rfl)) ?_
     try go_wp2
     go_roundg k2
     case measure => have := HJ1.out; have := HK2.out; omega
     case rel => exact ⟨(wrap64 (x3_2 + 1)), (by first | rfl | (simp; done) | (simp [*]; done)), H', ⟨by have := HJ1.out; have := HK2.out; omega⟩, ⟨BH BK192.out⟩, ⟨BT HB.out⟩⟩

end Go.Proofs.Ytdgknikgfjhohaa.PFnExactIsValidEngine
