-- Printed by wip/myprint.py.
import Derived.Test.YtdgknikgfjhohaaPFnExactIsValidEnginex13
import Derived.Test.YtdgknikgfjhohaaPFnExactIsValidEnginex19
import Derived.Test.YtdgknikgfjhohaaPFnExactIsValidEnginex20
namespace Go.Proofs.Ytdgknikgfjhohaa.PFnExactIsValidEngine
open Go.RowKit Go.Proofs.YtdgknikgfjhohaaW.PrintWords Go.Proofs.YtdgknikgfjhohaaW.PrintLast Go.Proofs.YtdgknikgfjhohaaW.PrintMore
set_option maxHeartbeats 8000000
set_option maxRecDepth 100000
set_option linter.unusedVariables false
set_option linter.unusedSimpArgs false

/-! ### impl_IsValidEngine: function 8 -/
def impl_IsValidEngine.f (k : Nat) (a0_0 : Bool) (l0_1 : List (List (S52))) (l0_2 : List (S48)) (l0_3 : List (S76)) (l0_4 : List (S78)) (a0_5 : Int) : Option (Bool) := (impl_IsValidStore.f k l0_1).bind fun t425 => (if t425 = true then ((impl_AreLocks.f k l0_3).bind fun t426 => (if t426 = true then ((impl_AreWaits.f k l0_4).bind fun t427 => (if t427 = true then ((impl_Store_lastStamp.f k l0_1).bind fun t428 => ((impl_in.f a0_5 t428 999).bind fun t429 => (if t429 = true then ((impl_Engine_areTransactions.f k a0_0 l0_1 l0_2 l0_3 l0_4 a0_5).bind fun t430 => (if t430 = true then ((impl_Lock_44.f k l0_3 a0_0 l0_1 l0_2 l0_3 l0_4 a0_5).bind fun t431 => (if t431 = true then (some false) else ((impl_Wait_47.f k l0_4 a0_0 l0_1 l0_2 l0_3 l0_4 a0_5).bind fun t432 => (some (!t432))))) else (some false))) else (some false)))) else (some false))) else (some false))) else (some false))
theorem impl_IsValidEngine.mono : ∀ a0 a1 a2 a3 a4 a5 k, LeO (impl_IsValidEngine.f k a0 a1 a2 a3 a4 a5) (impl_IsValidEngine.f (k + 1) a0 a1 a2 a3 a4 a5) := by
 intro a0 a1 a2 a3 a4 a5 k
 unfold impl_IsValidEngine.f
 repeat' (with_reducible first | exact impl_AreLocks.mono .. | exact impl_AreWaits.mono .. | exact impl_Engine_areTransactions.mono .. | exact impl_IsValidStore.mono .. | exact impl_Lock_44.mono .. | exact impl_Store_lastStamp.mono .. | exact impl_Wait_47.mono .. | exact LeO.refl _ | exact LeO.none _ | refine LeO.ite ?_ ?_ | refine LeO.bind ?_ (fun _ => ?_))
def impl_IsValidEngine.T1 : Bool × List (List Nat × List Nat) := (true, [([], []), ([0], [0]), ([1], [1]), ([2, 2], [2]), ([3], [3]), ([4, 3], [3, 4]), ([5, 3, 3], [3, 5]), ([3, 6], [3, 6]), ([7, 6], [7]), ([8], [8]), ([9, 8], [8, 9]), ([10, 8, 8], [8, 10]), ([8, 11], [8, 11]), ([12, 11], [12]), ([13], [13]), ([14, 13], [13, 14]), ([13], [13]), ([16, 13], [13, 16]), ([17, 13, 13], [13, 17]), ([15, 18, 18, 13], [13, 15, 18]), ([13, 19], [13, 19]), ([20, 19], [20]), ([21], [21]), ([22, 21, 21], [21, 22]), ([21, 23], [21, 23]), ([24, 23], [24]), ([25], [25]), ([26, 25], [25, 26]), ([25], [25]), ([27, 28, 25, 25], [25, 27, 28]), ([29, 25], [25, 29]), ([25, 30], [25, 30]), ([31, 29], [31]), ([32], [32]), ([33, 32], [32, 33]), ([32], [32]), ([34, 35, 32, 32], [32, 34, 35]), ([36, 32], [32, 36]), ([32, 37], [32, 37]), ([38, 36, 0, 1, 2, 3, 4, 5, 6, 7, 8, 9, 10, 11, 12, 13, 14, 15, 16, 17, 18, 19, 20, 21, 22, 23, 24, 25, 26, 27, 28, 29, 30, 31, 32, 33, 34, 35, 36, 37, 38], [38])])
def impl_IsValidEngine.B1 : List Nat := [0, 1, 3, 7, 15, 31, 63, 127, 255, 511, 1023, 2047, 4095, 8191, 16383, 32767, 16383, 81919, 212991, 524287, 1048575, 2097151, 4194303, 8388607, 16777215, 33554431, 67108863, 134217727, 67108863, 536870911, 1073741823, 2147483647, 4294967295, 8589934591, 17179869183, 8589934591, 68719476735, 137438953471, 274877906943, 549755813887]
theorem impl_IsValidEngine.tab1 : rtab .any (opsOf Try.f8 1) = impl_IsValidEngine.T1 := by kernel_rfl
theorem impl_IsValidEngine.bits1 : waitsOk impl_IsValidEngine.T1.2 impl_IsValidEngine.B1 = true := by kernel_rfl
theorem impl_IsValidEngine.calls (k : Nat) (a0_0 : Bool) (A0_1 : Option Addr) (c0_1 : Nat) (l0_1 : List (List (S52))) (A0_2 : Option Addr) (c0_2 : Nat) (l0_2 : List (S48)) (A0_3 : Option Addr) (c0_3 : Nat) (l0_3 : List (S76)) (A0_4 : Option Addr) (c0_4 : Nat) (l0_4 : List (S78)) (a0_5 : Int) (r : Bool) (w : World) (hr0_1 : Kd.C (Kd.slice 52 k52) w A0_1 l0_1.length l0_1) (hc0_1 : l0_1.length ≤ c0_1) (hr0_2 : Kd.C k48 w A0_2 l0_2.length l0_2) (hc0_2 : l0_2.length ≤ c0_2) (hr0_3 : Kd.C k76 w A0_3 l0_3.length l0_3) (hc0_3 : l0_3.length ≤ c0_3) (hr0_4 : Kd.C k78 w A0_4 l0_4.length l0_4) (hc0_4 : l0_4.length ≤ c0_4) (h : impl_IsValidEngine.f k a0_0 l0_1 l0_2 l0_3 l0_4 a0_5 = some r) :
  Calls Try.prog 8 #[.agg #[.bool a0_0, .slice A0_1 l0_1.length c0_1, .slice A0_2 l0_2.length c0_2, .slice A0_3 l0_3.length c0_3, .slice A0_4 l0_4.length c0_4, .int .i64 a0_5]] w fun e w' => e = .returned (.bool r) ∧ Below w.heap.size w w' := by
 have hu39 := Try.underlying39
 have hu34 := Try.underlying34
 have HR0_1 := AM_ hr0_1
 have HC0_1 := AM_ hc0_1
 clear hr0_1 hc0_1
 have HR0_2 := AM_ hr0_2
 have HC0_2 := AM_ hc0_2
 clear hr0_2 hc0_2
 have HR0_3 := AM_ hr0_3
 have HC0_3 := AM_ hc0_3
 clear hr0_3 hc0_3
 have HR0_4 := AM_ hr0_4
 have HC0_4 := AM_ hc0_4
 clear hr0_4 hc0_4
 have HB := AM_ (Below.refl w.heap.size w)
 unfold impl_IsValidEngine.f at h
 have H := h
 clear h
 obtain ⟨t425, A2, H⟩ := OB H
 go_enter Try.func8, Try.ntmps8
 try go_wp2_with (first | ((with_reducible refine G2 1 rfl ?_); refine BY 1 #[.bool a0_0, .slice A0_1 l0_1.length c0_1, .slice A0_2 l0_2.length c0_2, .slice A0_3 l0_3.length c0_3, .slice A0_4 l0_4.length c0_4, .int .i64 a0_5] 39 HB ?_; clear HB; intro gb424 w24 BK424 GW424 HB))
 replace BK424 := BD1 BK424
 replace HB := BD2 HB
 refine start_ (n := 40) (S := fun w' => w'.cell? ⟨gb424, 0, none⟩ = some (.bool a0_0) ∧ w'.cell? ⟨gb424, 1, none⟩ = some (.slice A0_1 l0_1.length c0_1) ∧ w'.cell? ⟨gb424, 2, none⟩ = some (.slice A0_2 l0_2.length c0_2) ∧ w'.cell? ⟨gb424, 3, none⟩ = some (.slice A0_3 l0_3.length c0_3) ∧ w'.cell? ⟨gb424, 4, none⟩ = some (.slice A0_4 l0_4.length c0_4) ∧ w'.cell? ⟨gb424, 5, none⟩ = some (.int .i64 a0_5)) (ds := []) (lo 0 40) (by kernel_rfl) rfl rfl ⟨bc BK424.out 0, bc BK424.out 1, bc BK424.out 2, bc BK424.out 3, bc BK424.out 4, bc BK424.out 5⟩ (fun hHeld => ?_); refine with_tabW impl_IsValidEngine.tab1 impl_IsValidEngine.bits1 (fun HT_ HW_ => ?_)
 generalize w24.drew = w25 at BK424 HB hHeld ⊢
 iterate 2 first | refine PS HT_ ?_ | refine TS HT_ HW_ hHeld ?_
 refine OS HT_ (fun K hK => ?_)
 refine GO Try.func38 #[.agg #[.slice A0_1 l0_1.length c0_1]] ?_
 with_reducible refine MB (impl_IsValidStore.calls k _ _ l0_1 t425 _ (CC HR0_1 HB) HC0_1.out A2.out) ?_
 intro w26 hb
 replace BK424 := BV BK424 hb
 replace HB := BW HB hb
 (try clear hb)
 refine hK.out _ _ ⟨bc BK424.out 0, bc BK424.out 1, bc BK424.out 2, bc BK424.out 3, bc BK424.out 4, bc BK424.out 5⟩ (fun hHeld => ?_)
 clear hK K
 refine NM 5 ?_
 by_cases c3 : t425 = true
 rotate_left
 ·replace c3 := Bool.eq_false_iff.mpr c3
  subst c3
  replace H := HF H
  obtain rfl := Option.some.inj H
  iterate 37 first | refine PS HT_ ?_ | refine PT HT_ ?_
  refine done_ (done_of HT_.out (by kernel_rfl)) ?_
  try go_wp2
  go_ret
  exact QT (BT HB.out)
 subst c3
 replace H := HT H
 obtain ⟨t426, A4, H⟩ := OB H
 iterate 3 first | refine PS HT_ ?_ | refine TS HT_ HW_ hHeld ?_
 refine OS HT_ (fun K hK => ?_)
 refine GO Try.func39 #[.slice A0_3 l0_3.length c0_3] ?_
 with_reducible refine MB (impl_AreLocks.calls k _ _ l0_3 t426 _ (CC HR0_3 HB) HC0_3.out A4.out) ?_
 intro w27 hb
 replace BK424 := BV BK424 hb
 replace HB := BW HB hb
 (try clear hb)
 refine hK.out _ _ ⟨bc BK424.out 0, bc BK424.out 1, bc BK424.out 2, bc BK424.out 3, bc BK424.out 4, bc BK424.out 5⟩ (fun hHeld => ?_)
 clear hK K
 refine NM 9 ?_
 by_cases c5 : t426 = true
 rotate_left
 ·replace c5 := Bool.eq_false_iff.mpr c5
  subst c5
  replace H := HF H
  obtain rfl := Option.some.inj H
  iterate 33 first | refine PS HT_ ?_ | refine PT HT_ ?_
  refine done_ (done_of HT_.out (by kernel_rfl)) ?_
  try go_wp2
  go_ret
  exact QT (BT HB.out)
 subst c5
 replace H := HT H
 obtain ⟨t427, A6, H⟩ := OB H
 iterate 4 first | refine PS HT_ ?_ | refine TS HT_ HW_ hHeld ?_
 refine OS HT_ (fun K hK => ?_)
 refine GO Try.func40 #[.slice A0_4 l0_4.length c0_4] ?_
 with_reducible refine MB (impl_AreWaits.calls k _ _ l0_4 t427 _ (CC HR0_4 HB) HC0_4.out A6.out) ?_
 intro w28 hb
 replace BK424 := BV BK424 hb
 replace HB := BW HB hb
 (try clear hb)
 refine hK.out _ _ ⟨bc BK424.out 0, bc BK424.out 1, bc BK424.out 2, bc BK424.out 3, bc BK424.out 4, bc BK424.out 5⟩ (fun hHeld => ?_)
 clear hK K
 refine NM 14 ?_
 by_cases c7 : t427 = true
 rotate_left
 ·replace c7 := Bool.eq_false_iff.mpr c7
  subst c7
  replace H := HF H
  obtain rfl := Option.some.inj H
  iterate 28 first | refine PS HT_ ?_ | refine PT HT_ ?_
  refine done_ (done_of HT_.out (by kernel_rfl)) ?_
  try go_wp2
  go_ret
  exact QT (BT HB.out)
 subst c7
 replace H := HT H
 obtain ⟨t428, A8, H⟩ := OB H
 obtain ⟨t429, A9, H⟩ := OB H
 iterate 3 refine PS HT_ ?_
 refine PV 16 (some 19) (bs 98303 40) HT_ ?_
 refine TX 15 (some 18) (lo 17 40) HT_ HW_ hHeld ?_
 refine TS HT_ HW_ hHeld ?_
 refine OS HT_ (fun K hK => ?_)
 refine GO Try.func42 #[.agg #[.slice A0_1 l0_1.length c0_1]] ?_
 with_reducible refine MB (impl_Store_lastStamp.calls k _ _ l0_1 t428 _ (CC HR0_1 HB) HC0_1.out A8.out) ?_
 intro w29 hb
 replace BK424 := BV BK424 hb
 replace HB := BW HB hb
 (try clear hb)
 refine hK.out _ _ ⟨bc BK424.out 0, bc BK424.out 1, bc BK424.out 2, bc BK424.out 3, bc BK424.out 4, bc BK424.out 5⟩ (fun hHeld => ?_)
 clear hK K
 refine NM 21 ?_
 refine OS HT_ (fun K hK => ?_)
 refine GO Try.func41 #[.int .i64 a0_5, .int .i64 t428, .int .i64 999] ?_
 with_reducible refine MQ (impl_in.calls a0_5 t428 999 t429 _ A9.out) ?_
 intro nd
 refine hK.out _ _ ⟨bc BK424.out 0, bc BK424.out 1, bc BK424.out 2, bc BK424.out 3, bc BK424.out 4, bc BK424.out 5⟩ (fun hHeld => ?_)
 clear hK K
 refine NM 22 ?_
 by_cases c10 : t429 = true
 rotate_left
 ·replace c10 := Bool.eq_false_iff.mpr c10
  subst c10
  replace H := HF H
  obtain rfl := Option.some.inj H
  iterate 20 first | refine PS HT_ ?_ | refine PT HT_ ?_
  refine done_ (done_of HT_.out (by kernel_rfl)) ?_
  try go_wp2
  go_ret
  exact QT (BT HB.out)
 subst c10
 replace H := HT H
 obtain ⟨t430, A11, H⟩ := OB H
 iterate 3 first | refine PS HT_ ?_ | refine TS HT_ HW_ hHeld ?_
 refine OS HT_ (fun K hK => ?_)
 refine GO Try.func43 #[.agg #[.bool a0_0, .slice A0_1 l0_1.length c0_1, .slice A0_2 l0_2.length c0_2, .slice A0_3 l0_3.length c0_3, .slice A0_4 l0_4.length c0_4, .int .i64 a0_5]] ?_
 with_reducible refine (impl_Engine_areTransactions.calls k a0_0 _ _ l0_1 _ _ l0_2 _ _ l0_3 _ _ l0_4 a0_5 t430 _ ?side1 ?side2 ?side3 ?side4 ?side5 ?side6 ?side7 ?side8 A11.out).mono ?_
 (case side1 => repeat (first | exact (Kd.C_below HR0_1.out (BT HB.out)) | (with_reducible refine Kd.C_alloc ?_ _) | (with_reducible refine Kd.C_drewN ?_ _) | (with_reducible refine Kd.C_drew ?_)))
 (case side2 => exact HC0_1.out)
 (case side3 => repeat (first | exact (Kd.C_below HR0_2.out (BT HB.out)) | (with_reducible refine Kd.C_alloc ?_ _) | (with_reducible refine Kd.C_drewN ?_ _) | (with_reducible refine Kd.C_drew ?_)))
 (case side4 => exact HC0_2.out)
 (case side5 => repeat (first | exact (Kd.C_below HR0_3.out (BT HB.out)) | (with_reducible refine Kd.C_alloc ?_ _) | (with_reducible refine Kd.C_drewN ?_ _) | (with_reducible refine Kd.C_drew ?_)))
 (case side6 => exact HC0_3.out)
 (case side7 => repeat (first | exact (Kd.C_below HR0_4.out (BT HB.out)) | (with_reducible refine Kd.C_alloc ?_ _) | (with_reducible refine Kd.C_drewN ?_ _) | (with_reducible refine Kd.C_drew ?_)))
 (case side8 => exact HC0_4.out)
 rintro e w30 ⟨rfl, hb⟩
 refine ⟨_, rfl, ?_⟩
 replace BK424 := BV BK424 hb
 replace HB := BW HB hb
 (try clear hb)
 refine hK.out _ _ ⟨bc BK424.out 0, bc BK424.out 1, bc BK424.out 2, bc BK424.out 3, bc BK424.out 4, bc BK424.out 5⟩ (fun hHeld => ?_)
 clear hK K
 refine NM 26 ?_
 by_cases c12 : t430 = true
 rotate_left
 ·replace c12 := Bool.eq_false_iff.mpr c12
  subst c12
  replace H := HF H
  obtain rfl := Option.some.inj H
  iterate 16 first | refine PS HT_ ?_ | refine PT HT_ ?_
  refine done_ (done_of HT_.out (by kernel_rfl)) ?_
  try go_wp2
  go_ret
  exact QT (BT HB.out)
 subst c12
 replace H := HT H
 obtain ⟨t431, A13, H⟩ := OB H
 iterate 3 refine PS HT_ ?_
 refine PV 28 (some 31) (bs 402653183 40) HT_ ?_
 refine TX 27 (some 30) (lo 29 40) HT_ HW_ hHeld ?_
 refine OS HT_ (fun K hK => ?_)
 refine GO Try.func44 #[.slice A0_3 l0_3.length c0_3, .func (.func 45) #[] #[.pointer (some ⟨gb424, 0, none⟩)]] ?_
 with_reducible refine (impl_Lock_44.calls k _ _ l0_3 gb424 a0_0 A0_1 c0_1 l0_1 A0_2 c0_2 l0_2 A0_3 c0_3 l0_3 A0_4 c0_4 l0_4 a0_5 t431 _ ?side1 ?side2 ?side3 ?side4 ?side5 ?side6 ?side7 ?side8 ?side9 ?side10 ?side11 A13.out).mono ?_
 (case side1 => exact CB HR0_3.out HB.out)
 (case side2 => exact HC0_3.out)
 (case side3 => exact by (with_reducible repeat (first | refine blk_drewN ?_ _ | refine blk_drew ?_ | refine blk_alloc ?_ _)); exact BK424.out)
 (case side4 => exact CB HR0_1.out HB.out)
 (case side5 => exact HC0_1.out)
 (case side6 => exact CB HR0_2.out HB.out)
 (case side7 => exact HC0_2.out)
 (case side8 => exact CB HR0_3.out HB.out)
 (case side9 => exact HC0_3.out)
 (case side10 => exact CB HR0_4.out HB.out)
 (case side11 => exact HC0_4.out)
 rintro e w31 ⟨rfl, hb⟩
 refine ⟨_, rfl, ?_⟩
 replace BK424 := BV BK424 hb
 replace HB := BW HB hb
 (try clear hb)
 refine hK.out _ _ ⟨bc BK424.out 0, bc BK424.out 1, bc BK424.out 2, bc BK424.out 3, bc BK424.out 4, bc BK424.out 5⟩ (fun hHeld => ?_)
 clear hK K
 refine NM 32 ?_
 by_cases c14 : t431 = true
 ·subst c14
  replace H := HT H
  obtain rfl := Option.some.inj H
  iterate 10 first | refine PS HT_ ?_ | refine PT HT_ ?_
  refine done_ (done_of HT_.out (by kernel_rfl)) ?_
  try go_wp2
  go_ret
  exact QT (BT HB.out)
 replace c14 := Bool.eq_false_iff.mpr c14
 subst c14
 replace H := HF H
 obtain ⟨t432, A23, H⟩ := OB H
 obtain rfl := Option.some.inj H
 iterate 4 refine PS HT_ ?_
 refine PV 35 (some 38) (bs 51539607551 40) HT_ ?_
 refine TX 34 (some 37) (lo 36 40) HT_ HW_ hHeld ?_
 refine OS HT_ (fun K hK => ?_)
 refine GO Try.func47 #[.slice A0_4 l0_4.length c0_4, .func (.func 48) #[] #[.pointer (some ⟨gb424, 0, none⟩)]] ?_
 with_reducible refine (impl_Wait_47.calls k _ _ l0_4 gb424 a0_0 A0_1 c0_1 l0_1 A0_2 c0_2 l0_2 A0_3 c0_3 l0_3 A0_4 c0_4 l0_4 a0_5 t432 _ ?side1 ?side2 ?side3 ?side4 ?side5 ?side6 ?side7 ?side8 ?side9 ?side10 ?side11 A23.out).mono ?_
 (case side1 => exact CB HR0_4.out HB.out)
 (case side2 => exact HC0_4.out)
 (case side3 => exact by (with_reducible repeat (first | refine blk_drewN ?_ _ | refine blk_drew ?_ | refine blk_alloc ?_ _)); exact BK424.out)
 (case side4 => exact CB HR0_1.out HB.out)
 (case side5 => exact HC0_1.out)
 (case side6 => exact CB HR0_2.out HB.out)
 (case side7 => exact HC0_2.out)
 (case side8 => exact CB HR0_3.out HB.out)
 (case side9 => exact HC0_3.out)
 (case side10 => exact CB HR0_4.out HB.out)
 (case side11 => exact HC0_4.out)
 rintro e w32 ⟨rfl, hb⟩
 refine ⟨_, rfl, ?_⟩
 replace BK424 := BV BK424 hb
 replace HB := BW HB hb
 (try clear hb)
 refine hK.out _ _ ⟨bc BK424.out 0, bc BK424.out 1, bc BK424.out 2, bc BK424.out 3, bc BK424.out 4, bc BK424.out 5⟩ (fun hHeld => ?_)
 clear hK K
 refine NM 39 ?_
 iterate 3 refine PS HT_ ?_
 refine done_ (done_of HT_.out (by kernel_rfl)) ?_
 try go_wp2
 go_ret
 exact QT (BT HB.out)

end Go.Proofs.Ytdgknikgfjhohaa.PFnExactIsValidEngine
