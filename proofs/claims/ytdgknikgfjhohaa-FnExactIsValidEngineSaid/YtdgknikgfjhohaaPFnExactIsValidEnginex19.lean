-- Printed by wip/myprint.py.
import Derived.Test.YtdgknikgfjhohaaPFnExactIsValidEnginex18
namespace Go.Proofs.Ytdgknikgfjhohaa.PFnExactIsValidEngine
open Go.RowKit Go.Proofs.YtdgknikgfjhohaaW.PrintWords Go.Proofs.YtdgknikgfjhohaaW.PrintLast Go.Proofs.YtdgknikgfjhohaaW.PrintMore
set_option maxHeartbeats 8000000
set_option maxRecDepth 100000
set_option linter.unusedVariables false
set_option linter.unusedSimpArgs false

/-! ### impl_Engine_areTransactions: function 43 -/
mutual
def impl_Engine_areTransactions.l0 : Nat → List (S48) → Int → Int → Bool → List (List (S52)) → List (S48) → List (S76) → List (S78) → Int → Option (Bool)
 | 0, _, _, _, _, _, _, _, _, _ => none
 | k + 1, x6, x7, x8, x399000, x399001, x399002, x399003, x399004, x399005 => if x8 < x7 then (if 0 ≤ x8 then (if x8 < (x6.length : Int) then ((impl_IsValidTransaction.f k ((rd_T48 x6 x8).f0) ((rd_T48 x6 x8).f1) ((rd_T48 x6 x8).f2) ((rd_T48 x6 x8).f3) ((rd_T48 x6 x8).f4) ((rd_T48 x6 x8).f5) ((rd_T48 x6 x8).f6) ((rd_T48 x6 x8).f7) ((rd_T48 x6 x8).f8)).bind fun t401 => (if t401 = true then (if x8 > 0 then (if 0 ≤ (wrap64 (x8 - 1)) then (if (wrap64 (x8 - 1)) < (x399002.length : Int) then (if ((rd_T48 x399002 (wrap64 (x8 - 1))).f0) ≥ ((rd_T48 x6 x8).f0) then (impl_Engine_areTransactions.j1 k x8 x6 x7 true x399000 x399001 x399002 x399003 x399004 x399005 ((rd_T48 x6 x8).f0) ((rd_T48 x6 x8).f1) ((rd_T48 x6 x8).f2) ((rd_T48 x6 x8).f3) ((rd_T48 x6 x8).f4) ((rd_T48 x6 x8).f5) ((rd_T48 x6 x8).f6) ((rd_T48 x6 x8).f7) ((rd_T48 x6 x8).f8)) else (if ((rd_T48 x6 x8).f3) > x399005 then (impl_Engine_areTransactions.j1 k x8 x6 x7 true x399000 x399001 x399002 x399003 x399004 x399005 ((rd_T48 x6 x8).f0) ((rd_T48 x6 x8).f1) ((rd_T48 x6 x8).f2) ((rd_T48 x6 x8).f3) ((rd_T48 x6 x8).f4) ((rd_T48 x6 x8).f5) ((rd_T48 x6 x8).f6) ((rd_T48 x6 x8).f7) ((rd_T48 x6 x8).f8)) else (impl_Engine_areTransactions.j1 k x8 x6 x7 (decide (((rd_T48 x6 x8).f6) > x399005)) x399000 x399001 x399002 x399003 x399004 x399005 ((rd_T48 x6 x8).f0) ((rd_T48 x6 x8).f1) ((rd_T48 x6 x8).f2) ((rd_T48 x6 x8).f3) ((rd_T48 x6 x8).f4) ((rd_T48 x6 x8).f5) ((rd_T48 x6 x8).f6) ((rd_T48 x6 x8).f7) ((rd_T48 x6 x8).f8)))) else (none)) else (none)) else (if ((rd_T48 x6 x8).f3) > x399005 then (impl_Engine_areTransactions.j1 k x8 x6 x7 true x399000 x399001 x399002 x399003 x399004 x399005 ((rd_T48 x6 x8).f0) ((rd_T48 x6 x8).f1) ((rd_T48 x6 x8).f2) ((rd_T48 x6 x8).f3) ((rd_T48 x6 x8).f4) ((rd_T48 x6 x8).f5) ((rd_T48 x6 x8).f6) ((rd_T48 x6 x8).f7) ((rd_T48 x6 x8).f8)) else (impl_Engine_areTransactions.j1 k x8 x6 x7 (decide (((rd_T48 x6 x8).f6) > x399005)) x399000 x399001 x399002 x399003 x399004 x399005 ((rd_T48 x6 x8).f0) ((rd_T48 x6 x8).f1) ((rd_T48 x6 x8).f2) ((rd_T48 x6 x8).f3) ((rd_T48 x6 x8).f4) ((rd_T48 x6 x8).f5) ((rd_T48 x6 x8).f6) ((rd_T48 x6 x8).f7) ((rd_T48 x6 x8).f8)))) else (impl_Engine_areTransactions.j1 k x8 x6 x7 true x399000 x399001 x399002 x399003 x399004 x399005 ((rd_T48 x6 x8).f0) ((rd_T48 x6 x8).f1) ((rd_T48 x6 x8).f2) ((rd_T48 x6 x8).f3) ((rd_T48 x6 x8).f4) ((rd_T48 x6 x8).f5) ((rd_T48 x6 x8).f6) ((rd_T48 x6 x8).f7) ((rd_T48 x6 x8).f8)))) else (none)) else (none)) else (some (decide ((x399002.length : Int) ≤ 6)))
def impl_Engine_areTransactions.j1 : Nat → Int → List (S48) → Int → Bool → Bool → List (List (S52)) → List (S48) → List (S76) → List (S78) → Int → Int → Int → Int → Int → Int → Int → Int → List (S116) → List (S103) → Option (Bool)
 | 0, _, _, _, _, _, _, _, _, _, _, _, _, _, _, _, _, _, _, _ => none
 | k + 1, x3, x6, x7, x45, x399000, x399001, x399002, x399003, x399004, x399005, x401000, x401001, x401002, x401003, x401004, x401005, x401006, x401007, x401008 => if x45 = true then (some false) else (if x401002 = 1 then ((impl_Store_readsExist.f k x399001 x401007).bind fun t403 => (if t403 = true then (impl_Engine_areTransactions.l0 k x6 x7 (wrap64 (x3 + 1)) x399000 x399001 x399002 x399003 x399004 x399005) else (some false))) else (impl_Engine_areTransactions.l0 k x6 x7 (wrap64 (x3 + 1)) x399000 x399001 x399002 x399003 x399004 x399005))
end
def impl_Engine_areTransactions.f (k : Nat) (a0_0 : Bool) (l0_1 : List (List (S52))) (l0_2 : List (S48)) (l0_3 : List (S76)) (l0_4 : List (S78)) (a0_5 : Int) : Option (Bool) := impl_Engine_areTransactions.l0 k l0_2 (l0_2.length : Int) 0 a0_0 l0_1 l0_2 l0_3 l0_4 a0_5
theorem impl_Engine_areTransactions.mono_l : ∀ k, (∀ y0 y1 y2 y3 y4 y5 y6 y7 y8, LeO (impl_Engine_areTransactions.l0 k y0 y1 y2 y3 y4 y5 y6 y7 y8) (impl_Engine_areTransactions.l0 (k + 1) y0 y1 y2 y3 y4 y5 y6 y7 y8)) ∧ (∀ y0 y1 y2 y3 y4 y5 y6 y7 y8 y9 y10 y11 y12 y13 y14 y15 y16 y17 y18, LeO (impl_Engine_areTransactions.j1 k y0 y1 y2 y3 y4 y5 y6 y7 y8 y9 y10 y11 y12 y13 y14 y15 y16 y17 y18) (impl_Engine_areTransactions.j1 (k + 1) y0 y1 y2 y3 y4 y5 y6 y7 y8 y9 y10 y11 y12 y13 y14 y15 y16 y17 y18))
 | 0 => ⟨fun _ _ _ _ _ _ _ _ _ r h => by simp [impl_Engine_areTransactions.l0] at h, fun _ _ _ _ _ _ _ _ _ _ _ _ _ _ _ _ _ _ _ r h => by simp [impl_Engine_areTransactions.j1] at h⟩
 | k + 1 => by
  obtain ⟨ih0, ih1⟩ := impl_Engine_areTransactions.mono_l k
  refine ⟨?_, ?_⟩
  all_goals intros; first | unfold impl_Engine_areTransactions.l0 | unfold impl_Engine_areTransactions.j1
  all_goals repeat' (with_reducible first | exact ih0 .. | exact ih1 .. | exact impl_IsValidTransaction.mono .. | exact impl_Store_readsExist.mono .. | exact LeO.refl _ | exact LeO.none _ | refine LeO.ite ?_ ?_ | refine LeO.bind ?_ (fun _ => ?_))
theorem impl_Engine_areTransactions.mono : ∀ a0 a1 a2 a3 a4 a5 k, LeO (impl_Engine_areTransactions.f k a0 a1 a2 a3 a4 a5) (impl_Engine_areTransactions.f (k + 1) a0 a1 a2 a3 a4 a5) := by
 intro a0 a1 a2 a3 a4 a5 k
 obtain ⟨ih0, ih1⟩ := impl_Engine_areTransactions.mono_l k
 unfold impl_Engine_areTransactions.f
 repeat' (with_reducible first | exact ih0 .. | exact ih1 .. | exact impl_IsValidTransaction.mono .. | exact impl_Store_readsExist.mono .. | exact LeO.refl _ | exact LeO.none _ | refine LeO.ite ?_ ?_ | refine LeO.bind ?_ (fun _ => ?_))
def impl_Engine_areTransactions.T4 : Bool × List (List Nat × List Nat) := (true, [([], []), ([0], [0]), ([1], [1]), ([2, 1], [2]), ([3], [3]), ([4, 3], [3, 4]), ([5, 3, 3], [3, 5]), ([6], [6]), ([7, 6], [6, 7]), ([6], [6]), ([9, 6], [6, 9]), ([8, 10, 6], [6, 8, 10]), ([11, 6], [6, 11]), ([12, 6], [6, 12]), ([6], [6]), ([14, 6], [6, 14]), ([13, 15, 6], [6, 13, 15]), ([6, 16, 3], [3, 6, 16]), ([3, 17], [3, 17]), ([18, 6], [18]), ([19], [19]), ([20, 19], [19, 20]), ([19], [19]), ([22, 19], [19, 22]), ([21, 23, 19], [19, 21, 23]), ([19, 24], [19, 24]), ([25, 19], [25]), ([26], [26]), ([27, 26], [26, 27]), ([26], [26]), ([29, 26], [26, 29]), ([28, 30, 26], [26, 28, 30]), ([26, 31], [26, 31])])
def impl_Engine_areTransactions.B4 : List Nat := [0, 1, 3, 7, 15, 31, 63, 127, 255, 127, 639, 2047, 4095, 8191, 127, 16511, 65535, 131071, 262143, 524287, 1048575, 2097151, 1048575, 5242879, 16777215, 33554431, 67108863, 134217727, 268435455, 134217727, 671088639, 2147483647, 4294967295]
theorem impl_Engine_areTransactions.tab4 : rtab .any (opsOf Try.f43 4) = impl_Engine_areTransactions.T4 := by kernel_rfl
theorem impl_Engine_areTransactions.bits4 : waitsOk impl_Engine_areTransactions.T4.2 impl_Engine_areTransactions.B4 = true := by kernel_rfl
theorem impl_Engine_areTransactions.calls (k : Nat) (a0_0 : Bool) (A0_1 : Option Addr) (c0_1 : Nat) (l0_1 : List (List (S52))) (A0_2 : Option Addr) (c0_2 : Nat) (l0_2 : List (S48)) (A0_3 : Option Addr) (c0_3 : Nat) (l0_3 : List (S76)) (A0_4 : Option Addr) (c0_4 : Nat) (l0_4 : List (S78)) (a0_5 : Int) (r : Bool) (w : World) (hr0_1 : Kd.C (Kd.slice 52 k52) w A0_1 l0_1.length l0_1) (hc0_1 : l0_1.length ≤ c0_1) (hr0_2 : Kd.C k48 w A0_2 l0_2.length l0_2) (hc0_2 : l0_2.length ≤ c0_2) (hr0_3 : Kd.C k76 w A0_3 l0_3.length l0_3) (hc0_3 : l0_3.length ≤ c0_3) (hr0_4 : Kd.C k78 w A0_4 l0_4.length l0_4) (hc0_4 : l0_4.length ≤ c0_4) (h : impl_Engine_areTransactions.f k a0_0 l0_1 l0_2 l0_3 l0_4 a0_5 = some r) :
  Calls Try.prog 43 #[.agg #[.bool a0_0, .slice A0_1 l0_1.length c0_1, .slice A0_2 l0_2.length c0_2, .slice A0_3 l0_3.length c0_3, .slice A0_4 l0_4.length c0_4, .int .i64 a0_5]] w fun e w' => e = .returned (.bool r) ∧ Below w.heap.size w w' := by
 have hu39 := Try.underlying39
 have hu48 := Try.underlying48
 have hu34 := Try.underlying34
 have HR0_1 := AM_ hr0_1
 have HC0_1 := AM_ hc0_1
 clear hr0_1 hc0_1
 have HR0_2 := AM_ hr0_2
 have HC0_2 := AM_ hc0_2
 clear hr0_2 hc0_2
 have HR0_3 := AM_ hr0_3
 have HC0_3 := AM_ hc0_3
 clear hr0_3 hc0_3
 have HR0_4 := AM_ hr0_4
 have HC0_4 := AM_ hc0_4
 clear hr0_4 hc0_4
 have HB := AM_ (Below.refl w.heap.size w)
 unfold impl_Engine_areTransactions.f at h
 have H := h
 clear h
 have H' := AM_ H
 clear H
 go_enter Try.func43, Try.ntmps43
 go_wp2_with (first | ((with_reducible refine G2 1 rfl ?_); refine BY 1 #[.bool a0_0, .slice A0_1 l0_1.length c0_1, .slice A0_2 l0_2.length c0_2, .slice A0_3 l0_3.length c0_3, .slice A0_4 l0_4.length c0_4, .int .i64 a0_5] 39 HB ?_; clear HB; intro gb398 w2 BK398 GW398 HB; obtain ⟨hcz3_0, hcz3_1, hcz3_2, hcz3_3, hcz3_4, hcz3_5, hfz3_0, hfz3_1, hfz3_2, hfz3_3, hfz3_4, hfz3_5⟩ := bk6 BK398.out))
 go_loopg [8] k (fun kq v8 w' => ∃ (x8_1 : Int), v8 = .int .i64 x8_1 ∧ Aside0 (impl_Engine_areTransactions.l0 kq l0_2 (l0_2.length : Int) x8_1 a0_0 l0_1 l0_2 l0_3 l0_4 a0_5 = some r) ∧ Aside0 (kq ≤ k) ∧ Aside0 (w'.heap[gb398]? = some (.cells #[.bool a0_0, (.slice A0_1 l0_1.length c0_1), (.slice A0_2 l0_2.length c0_2), (.slice A0_3 l0_3.length c0_3), (.slice A0_4 l0_4.length c0_4), .int .i64 a0_5] 39 (0, 0))) ∧ Aside0 (Below w.heap.size w w'))
 case atStart => exact ⟨(0), (by first | rfl | (simp; done) | (simp [*]; done)), H', ⟨Nat.le_refl _⟩, ⟨BH BK398.out⟩, ⟨BT HB.out⟩⟩
 case round =>
  clear H'
  try clear hcz3_0
  try clear hcz3_1
  try clear hcz3_2
  try clear hcz3_3
  try clear hcz3_4
  try clear hcz3_5
  try clear hfz3_0
  try clear hfz3_1
  try clear hfz3_2
  try clear hfz3_3
  try clear hfz3_4
  try clear hfz3_5
  obtain ⟨x8_1, rfl, HA, HK1, BK398, HB⟩ := hrel
  cases gk with
  | zero => exact absurd HA.out (by simp [impl_Engine_areTransactions.l0])
  | succ k1 =>
   have H := HA.out
   clear HA
   simp only [impl_Engine_areTransactions.l0] at H
   by_cases c4 : x8_1 < (l0_2.length : Int)
   rotate_left
   ·rw [if_neg c4] at H
    have c4b0 := decide_eq_false c4
    clear c4
    obtain rfl := Option.some.inj H
    obtain ⟨hcz52_0, hcz52_1, hcz52_2, hcz52_3, hcz52_4, hcz52_5, hfz52_0, hfz52_1, hfz52_2, hfz52_3, hfz52_4, hfz52_5⟩ := bk6 BK398.out
    go_wp2
    go_ret
    exact QT (BT HB.out)
   rw [if_pos c4] at H
   have c4b0 := decide_eq_true c4
   clear c4
   replace H := HI H
   obtain ⟨c5, H⟩ := H
   have c5b0 := decide_eq_true c5
   clear c5
   replace H := HI H
   obtain ⟨c6, H⟩ := H
   have c6b0 := decide_eq_true c6
   clear c6
   have HC7 := AM_ H
   clear H
   have p399 : 0 ≤ (x8_1 : Int) := DT
   have q399 : x8_1 < (l0_2.length : Int) := DT
   obtain ⟨ad399, A399_7, c399_7, A399_8, c399_8, e399, hx399_0, hx399_1, hx399_2, hx399_3, hx399_4, hx399_5, hx399_6, hx399_7, hx399_8, hl399_7, hi399_7, hl399_8, hi399_8⟩ := at_T48 HR0_2.out x8_1 p399 q399
   cases e399
   replace hx399_0 := BC HB.out hx399_0
   replace hx399_1 := BC HB.out hx399_1
   replace hx399_2 := BC HB.out hx399_2
   replace hx399_3 := BC HB.out hx399_3
   replace hx399_4 := BC HB.out hx399_4
   replace hx399_5 := BC HB.out hx399_5
   replace hx399_6 := BC HB.out hx399_6
   replace hx399_7 := BC HB.out hx399_7
   replace hx399_8 := BC HB.out hx399_8
   have HR399_7 := AM_ hi399_7
   have HC399_7 := AM_ hl399_7
   clear hi399_7 hl399_7
   have HR399_8 := AM_ hi399_8
   have HC399_8 := AM_ hl399_8
   clear hi399_8 hl399_8
   replace p399 := eq_true p399
   replace q399 := eq_true q399
   go_upto_region 4 with (first | ((with_reducible refine G2 4 rfl ?_); refine BZ 4 #[.int .i64 0, .int .i64 0, .int .i64 0, .int .i64 0, .int .i64 0, .int .i64 0, .int .i64 0, .slice none 0 0, .slice none 0 0] 48 HB ?_; clear HB; intro gb400 w8 hg hb BK400 GW400 HB; have NB398_400 := NP BK398 hg; have NB400_398 := NQ BK398 hg; replace BK398 := BV BK398 hb; clear hb hg; have hnb9 := NB400_398.out; have hnc9 := NB398_400.out; obtain ⟨hcz10_0, hcz10_1, hcz10_2, hcz10_3, hcz10_4, hcz10_5, hcz10_6, hcz10_7, hcz10_8, hfz10_0, hfz10_1, hfz10_2, hfz10_3, hfz10_4, hfz10_5, hfz10_6, hfz10_7, hfz10_8⟩ := bk9 BK400.out))
   (try simp only [pA, pS, pZ, pK])
   go_cut [45] (fun v45 wc => ∃ (kq : Nat) (x45_6 : Bool), v45 = .bool x45_6 ∧ Aside0 (impl_Engine_areTransactions.j1 kq x8_1 l0_2 (l0_2.length : Int) x45_6 a0_0 l0_1 l0_2 l0_3 l0_4 a0_5 ((rd_T48 l0_2 x8_1).f0) ((rd_T48 l0_2 x8_1).f1) ((rd_T48 l0_2 x8_1).f2) ((rd_T48 l0_2 x8_1).f3) ((rd_T48 l0_2 x8_1).f4) ((rd_T48 l0_2 x8_1).f5) ((rd_T48 l0_2 x8_1).f6) ((rd_T48 l0_2 x8_1).f7) ((rd_T48 l0_2 x8_1).f8) = some r) ∧ Aside0 (kq ≤ k1) ∧ Aside0 (wc.heap[gb398]? = some (.cells #[.bool a0_0, (.slice A0_1 l0_1.length c0_1), (.slice (some ad399) l0_2.length c0_2), (.slice A0_3 l0_3.length c0_3), (.slice A0_4 l0_4.length c0_4), .int .i64 a0_5] 39 (0, 0))) ∧ Aside0 (wc.heap[gb400]? = some (.cells #[.int .i64 ((rd_T48 l0_2 x8_1).f0), .int .i64 ((rd_T48 l0_2 x8_1).f1), .int .i64 ((rd_T48 l0_2 x8_1).f2), .int .i64 ((rd_T48 l0_2 x8_1).f3), .int .i64 ((rd_T48 l0_2 x8_1).f4), .int .i64 ((rd_T48 l0_2 x8_1).f5), .int .i64 ((rd_T48 l0_2 x8_1).f6), (.slice A399_7 ((rd_T48 l0_2 x8_1).f7).length c399_7), (.slice A399_8 ((rd_T48 l0_2 x8_1).f8).length c399_8)] 48 (0, 0))) ∧ Aside0 (Below w.heap.size w wc))
   case first =>
    have H := HC7.out
    clear HC7
    obtain ⟨t401, A11, H⟩ := OB H
    by_cases c12 : t401 = true
    rotate_left
    ·replace c12 := Bool.eq_false_iff.mpr c12
     subst c12
     replace H := HF H
     have H' := AM_ H
     clear H
     try go_wp2
     generalize hW_ : ((((((((w8.setCell ⟨gb400, 0, none⟩ (.int .i64 ((rd_T48 l0_2 x8_1).f0))).setCell ⟨gb400, 1, none⟩ (.int .i64 ((rd_T48 l0_2 x8_1).f1))).setCell ⟨gb400, 2, none⟩ (.int .i64 ((rd_T48 l0_2 x8_1).f2))).setCell ⟨gb400, 3, none⟩ (.int .i64 ((rd_T48 l0_2 x8_1).f3))).setCell ⟨gb400, 4, none⟩ (.int .i64 ((rd_T48 l0_2 x8_1).f4))).setCell ⟨gb400, 5, none⟩ (.int .i64 ((rd_T48 l0_2 x8_1).f5))).setCell ⟨gb400, 6, none⟩ (.int .i64 ((rd_T48 l0_2 x8_1).f6))).setCell ⟨gb400, 7, none⟩ (.slice A399_7 ((rd_T48 l0_2 x8_1).f7).length c399_7)).setCell ⟨gb400, 8, none⟩ (.slice A399_8 ((rd_T48 l0_2 x8_1).f8).length c399_8) = w35
     have n0_ : Aside0 (w35.heap[gb398]? = some (.cells #[.bool a0_0, .slice A0_1 l0_1.length c0_1, .slice (some ad399) l0_2.length c0_2, .slice A0_3 l0_3.length c0_3, .slice A0_4 l0_4.length c0_4, .int .i64 a0_5] 39 (0, 0))) := by subst hW_; exact ⟨BG BK398.out NB398_400.out⟩
     have n1_ : Aside0 (w35.heap[gb400]? = some (.cells #[.int .i64 ((rd_T48 l0_2 x8_1).f0), .int .i64 ((rd_T48 l0_2 x8_1).f1), .int .i64 ((rd_T48 l0_2 x8_1).f2), .int .i64 ((rd_T48 l0_2 x8_1).f3), .int .i64 ((rd_T48 l0_2 x8_1).f4), .int .i64 ((rd_T48 l0_2 x8_1).f5), .int .i64 ((rd_T48 l0_2 x8_1).f6), .slice A399_7 ((rd_T48 l0_2 x8_1).f7).length c399_7, .slice A399_8 ((rd_T48 l0_2 x8_1).f8).length c399_8] 48 (0, 0))) := by subst hW_; exact ⟨BQ BK400.out⟩
     have n2_ : Aside0 (Below w.heap.size w w35) := by subst hW_; exact ⟨BT HB.out⟩
     (try clear BK398)
     (try clear BK400)
     (try clear HB)
     clear hW_
     have BK398 := n0_
     have BK400 := n1_
     have HB := n2_
     clear n0_ n1_ n2_
     replace BK398 := BD1 BK398
     replace BK400 := BD1 BK400
     replace HB := BD2 HB
     refine start_ (n := 33) (S := fun w' => w'.cell? ⟨gb400, 0, none⟩ = some (.int .i64 ((rd_T48 l0_2 x8_1).f0)) ∧ w'.cell? ⟨gb400, 1, none⟩ = some (.int .i64 ((rd_T48 l0_2 x8_1).f1)) ∧ w'.cell? ⟨gb400, 2, none⟩ = some (.int .i64 ((rd_T48 l0_2 x8_1).f2)) ∧ w'.cell? ⟨gb400, 3, none⟩ = some (.int .i64 ((rd_T48 l0_2 x8_1).f3)) ∧ w'.cell? ⟨gb400, 4, none⟩ = some (.int .i64 ((rd_T48 l0_2 x8_1).f4)) ∧ w'.cell? ⟨gb400, 5, none⟩ = some (.int .i64 ((rd_T48 l0_2 x8_1).f5)) ∧ w'.cell? ⟨gb400, 6, none⟩ = some (.int .i64 ((rd_T48 l0_2 x8_1).f6)) ∧ w'.cell? ⟨gb400, 7, none⟩ = some (.slice A399_7 ((rd_T48 l0_2 x8_1).f7).length c399_7) ∧ w'.cell? ⟨gb400, 8, none⟩ = some (.slice A399_8 ((rd_T48 l0_2 x8_1).f8).length c399_8)) (ds := []) (lo 0 33) (by kernel_rfl) rfl rfl ⟨bc BK400.out 0, bc BK400.out 1, bc BK400.out 2, bc BK400.out 3, bc BK400.out 4, bc BK400.out 5, bc BK400.out 6, bc BK400.out 7, bc BK400.out 8⟩ (fun hHeld => ?_); refine with_tabW impl_Engine_areTransactions.tab4 impl_Engine_areTransactions.bits4 (fun HT_ HW_ => ?_)
     generalize w35.drew = w36 at BK398 BK400 HB hHeld ⊢
     refine TS HT_ HW_ hHeld ?_
     refine OS HT_ (fun K hK => ?_)
     refine GO Try.func78 #[.agg #[.int .i64 ((rd_T48 l0_2 x8_1).f0), .int .i64 ((rd_T48 l0_2 x8_1).f1), .int .i64 ((rd_T48 l0_2 x8_1).f2), .int .i64 ((rd_T48 l0_2 x8_1).f3), .int .i64 ((rd_T48 l0_2 x8_1).f4), .int .i64 ((rd_T48 l0_2 x8_1).f5), .int .i64 ((rd_T48 l0_2 x8_1).f6), .slice A399_7 ((rd_T48 l0_2 x8_1).f7).length c399_7, .slice A399_8 ((rd_T48 l0_2 x8_1).f8).length c399_8]] ?_
     with_reducible refine MB (impl_IsValidTransaction.calls k1 ((rd_T48 l0_2 x8_1).f0) ((rd_T48 l0_2 x8_1).f1) ((rd_T48 l0_2 x8_1).f2) ((rd_T48 l0_2 x8_1).f3) ((rd_T48 l0_2 x8_1).f4) ((rd_T48 l0_2 x8_1).f5) ((rd_T48 l0_2 x8_1).f6) _ _ ((rd_T48 l0_2 x8_1).f7) _ _ ((rd_T48 l0_2 x8_1).f8) false _ (CC HR399_7 HB) HC399_7.out (CC HR399_8 HB) HC399_8.out A11.out) ?_
     intro w37 hb
     replace BK398 := BV BK398 hb
     replace BK400 := BV BK400 hb
     replace HB := BW HB hb
     (try clear hb)
     refine hK.out _ _ ⟨bc BK400.out 0, bc BK400.out 1, bc BK400.out 2, bc BK400.out 3, bc BK400.out 4, bc BK400.out 5, bc BK400.out 6, bc BK400.out 7, bc BK400.out 8⟩ (fun hHeld => ?_)
     clear hK K
     refine NM 14 ?_
     iterate 31 first | refine PS HT_ ?_ | refine PT HT_ ?_
     refine done_ (done_of HT_.out (by kernel_rfl)) ?_
     try go_wp2
     go_meet
     case rel => exact ⟨_, (true), (by first | rfl | (simp; done) | (simp [*]; done)), H', ⟨by have := HK1.out; first | omega | exact Nat.le_refl _⟩, ⟨BH BK398.out⟩, ⟨BH BK400.out⟩, ⟨BT HB.out⟩⟩
    subst c12
    replace H := HT H
    by_cases c13 : x8_1 > 0
    rotate_left
    ·rw [if_neg c13] at H
     have c13b0 : decide (0 < x8_1) = false := decide_eq_false c13
     clear c13
     (first | rw [c13b0] | (simp only [i64_w, i32_w]; rw [c13b0]) | skip)
     try go_wp2
     generalize hW_ : ((((((((w8.setCell ⟨gb400, 0, none⟩ (.int .i64 ((rd_T48 l0_2 x8_1).f0))).setCell ⟨gb400, 1, none⟩ (.int .i64 ((rd_T48 l0_2 x8_1).f1))).setCell ⟨gb400, 2, none⟩ (.int .i64 ((rd_T48 l0_2 x8_1).f2))).setCell ⟨gb400, 3, none⟩ (.int .i64 ((rd_T48 l0_2 x8_1).f3))).setCell ⟨gb400, 4, none⟩ (.int .i64 ((rd_T48 l0_2 x8_1).f4))).setCell ⟨gb400, 5, none⟩ (.int .i64 ((rd_T48 l0_2 x8_1).f5))).setCell ⟨gb400, 6, none⟩ (.int .i64 ((rd_T48 l0_2 x8_1).f6))).setCell ⟨gb400, 7, none⟩ (.slice A399_7 ((rd_T48 l0_2 x8_1).f7).length c399_7)).setCell ⟨gb400, 8, none⟩ (.slice A399_8 ((rd_T48 l0_2 x8_1).f8).length c399_8) = w32
     have n0_ : Aside0 (w32.heap[gb398]? = some (.cells #[.bool a0_0, .slice A0_1 l0_1.length c0_1, .slice (some ad399) l0_2.length c0_2, .slice A0_3 l0_3.length c0_3, .slice A0_4 l0_4.length c0_4, .int .i64 a0_5] 39 (0, 0))) := by subst hW_; exact ⟨BG BK398.out NB398_400.out⟩
     have n1_ : Aside0 (w32.heap[gb400]? = some (.cells #[.int .i64 ((rd_T48 l0_2 x8_1).f0), .int .i64 ((rd_T48 l0_2 x8_1).f1), .int .i64 ((rd_T48 l0_2 x8_1).f2), .int .i64 ((rd_T48 l0_2 x8_1).f3), .int .i64 ((rd_T48 l0_2 x8_1).f4), .int .i64 ((rd_T48 l0_2 x8_1).f5), .int .i64 ((rd_T48 l0_2 x8_1).f6), .slice A399_7 ((rd_T48 l0_2 x8_1).f7).length c399_7, .slice A399_8 ((rd_T48 l0_2 x8_1).f8).length c399_8] 48 (0, 0))) := by subst hW_; exact ⟨BQ BK400.out⟩
     have n2_ : Aside0 (Below w.heap.size w w32) := by subst hW_; exact ⟨BT HB.out⟩
     (try clear BK398)
     (try clear BK400)
     (try clear HB)
     clear hW_
     have BK398 := n0_
     have BK400 := n1_
     have HB := n2_
     clear n0_ n1_ n2_
     replace BK398 := BD1 BK398
     replace BK400 := BD1 BK400
     replace HB := BD2 HB
     refine start_ (n := 33) (S := fun w' => w'.cell? ⟨gb400, 0, none⟩ = some (.int .i64 ((rd_T48 l0_2 x8_1).f0)) ∧ w'.cell? ⟨gb400, 1, none⟩ = some (.int .i64 ((rd_T48 l0_2 x8_1).f1)) ∧ w'.cell? ⟨gb400, 2, none⟩ = some (.int .i64 ((rd_T48 l0_2 x8_1).f2)) ∧ w'.cell? ⟨gb400, 3, none⟩ = some (.int .i64 ((rd_T48 l0_2 x8_1).f3)) ∧ w'.cell? ⟨gb400, 4, none⟩ = some (.int .i64 ((rd_T48 l0_2 x8_1).f4)) ∧ w'.cell? ⟨gb400, 5, none⟩ = some (.int .i64 ((rd_T48 l0_2 x8_1).f5)) ∧ w'.cell? ⟨gb400, 6, none⟩ = some (.int .i64 ((rd_T48 l0_2 x8_1).f6)) ∧ w'.cell? ⟨gb400, 7, none⟩ = some (.slice A399_7 ((rd_T48 l0_2 x8_1).f7).length c399_7) ∧ w'.cell? ⟨gb400, 8, none⟩ = some (.slice A399_8 ((rd_T48 l0_2 x8_1).f8).length c399_8) ∧ w'.cell? ⟨gb398, 0, none⟩ = some (.bool a0_0) ∧ w'.cell? ⟨gb398, 1, none⟩ = some (.slice A0_1 l0_1.length c0_1) ∧ w'.cell? ⟨gb398, 2, none⟩ = some (.slice (some ad399) l0_2.length c0_2) ∧ w'.cell? ⟨gb398, 3, none⟩ = some (.slice A0_3 l0_3.length c0_3) ∧ w'.cell? ⟨gb398, 4, none⟩ = some (.slice A0_4 l0_4.length c0_4) ∧ w'.cell? ⟨gb398, 5, none⟩ = some (.int .i64 a0_5)) (ds := []) (lo 0 33) (by kernel_rfl) rfl rfl ⟨bc BK400.out 0, bc BK400.out 1, bc BK400.out 2, bc BK400.out 3, bc BK400.out 4, bc BK400.out 5, bc BK400.out 6, bc BK400.out 7, bc BK400.out 8, bc BK398.out 0, bc BK398.out 1, bc BK398.out 2, bc BK398.out 3, bc BK398.out 4, bc BK398.out 5⟩ (fun hHeld => ?_); refine with_tabW impl_Engine_areTransactions.tab4 impl_Engine_areTransactions.bits4 (fun HT_ HW_ => ?_)
     generalize w32.drew = w33 at BK398 BK400 HB hHeld ⊢
     refine TS HT_ HW_ hHeld ?_
     refine OS HT_ (fun K hK => ?_)
     refine GO Try.func78 #[.agg #[.int .i64 ((rd_T48 l0_2 x8_1).f0), .int .i64 ((rd_T48 l0_2 x8_1).f1), .int .i64 ((rd_T48 l0_2 x8_1).f2), .int .i64 ((rd_T48 l0_2 x8_1).f3), .int .i64 ((rd_T48 l0_2 x8_1).f4), .int .i64 ((rd_T48 l0_2 x8_1).f5), .int .i64 ((rd_T48 l0_2 x8_1).f6), .slice A399_7 ((rd_T48 l0_2 x8_1).f7).length c399_7, .slice A399_8 ((rd_T48 l0_2 x8_1).f8).length c399_8]] ?_
     with_reducible refine MB (impl_IsValidTransaction.calls k1 ((rd_T48 l0_2 x8_1).f0) ((rd_T48 l0_2 x8_1).f1) ((rd_T48 l0_2 x8_1).f2) ((rd_T48 l0_2 x8_1).f3) ((rd_T48 l0_2 x8_1).f4) ((rd_T48 l0_2 x8_1).f5) ((rd_T48 l0_2 x8_1).f6) _ _ ((rd_T48 l0_2 x8_1).f7) _ _ ((rd_T48 l0_2 x8_1).f8) true _ (CC HR399_7 HB) HC399_7.out (CC HR399_8 HB) HC399_8.out A11.out) ?_
     intro w34 hb
     replace BK398 := BV BK398 hb
     replace BK400 := BV BK400 hb
     replace HB := BW HB hb
     (try clear hb)
     refine hK.out _ _ ⟨bc BK400.out 0, bc BK400.out 1, bc BK400.out 2, bc BK400.out 3, bc BK400.out 4, bc BK400.out 5, bc BK400.out 6, bc BK400.out 7, bc BK400.out 8, bc BK398.out 0, bc BK398.out 1, bc BK398.out 2, bc BK398.out 3, bc BK398.out 4, bc BK398.out 5⟩ (fun hHeld => ?_)
     clear hK K
     refine NM 14 ?_
     iterate 19 first | refine PS HT_ ?_ | refine PT HT_ ?_
     refine PV 22 (some 35) (bs 6291455 33) HT_ ?_
     refine TX 21 (some 34) (lo 23 33) HT_ HW_ hHeld ?_
     refine TS HT_ HW_ hHeld ?_
     by_cases c28 : ((rd_T48 l0_2 x8_1).f3) > a0_5
     ·rw [if_pos c28] at H
      have c28b0 : decide (a0_5 < ((rd_T48 l0_2 x8_1).f3)) = true := decide_eq_true c28
      clear c28
      have H' := AM_ H
      clear H
      iterate 9 first | refine PS HT_ ?_ | refine PT HT_ ?_
      refine done_ (done_of HT_.out (by kernel_rfl)) ?_
      try go_wp2
      go_meet
      case rel => exact ⟨_, (true), (by first | rfl | (simp; done) | (simp [*]; done)), H', ⟨by have := HK1.out; first | omega | exact Nat.le_refl _⟩, ⟨BH BK398.out⟩, ⟨BH BK400.out⟩, ⟨BT HB.out⟩⟩
     rw [if_neg c28] at H
     have c28b0 : decide (a0_5 < ((rd_T48 l0_2 x8_1).f3)) = false := decide_eq_false c28
     clear c28
     have H' := AM_ H
     clear H
     iterate 4 refine PS HT_ ?_
     refine PV 29 (some 42) (bs 805306367 33) HT_ ?_
     refine TX 28 (some 41) (lo 30 33) HT_ HW_ hHeld ?_
     iterate 3 first | refine PS HT_ ?_ | refine TS HT_ HW_ hHeld ?_
     refine done_ (done_of HT_.out (by kernel_rfl)) ?_
     try go_wp2
     go_meet
     case rel => exact ⟨_, (decide (((rd_T48 l0_2 x8_1).f6) > a0_5)), (by first | rfl | (simp; done) | (simp [*]; done)), H', ⟨by have := HK1.out; first | omega | exact Nat.le_refl _⟩, ⟨BH BK398.out⟩, ⟨BH BK400.out⟩, ⟨BT HB.out⟩⟩
    rw [if_pos c13] at H
    have c13b0 : decide (0 < x8_1) = true := decide_eq_true c13
    clear c13
    (first | rw [c13b0] | (simp only [i64_w, i32_w]; rw [c13b0]) | skip)
    obtain ⟨ji14, hji14⟩ : ∃ j_ : Int, (wrap64 (x8_1 - 1)) = j_ := ⟨_, rfl⟩
    replace H : (if 0 ≤ (ji14) then (if (ji14) < (l0_2.length : Int) then (if ((rd_T48 l0_2 (ji14)).f0) ≥ ((rd_T48 l0_2 x8_1).f0) then (impl_Engine_areTransactions.j1 k1 x8_1 l0_2 (l0_2.length : Int) true a0_0 l0_1 l0_2 l0_3 l0_4 a0_5 ((rd_T48 l0_2 x8_1).f0) ((rd_T48 l0_2 x8_1).f1) ((rd_T48 l0_2 x8_1).f2) ((rd_T48 l0_2 x8_1).f3) ((rd_T48 l0_2 x8_1).f4) ((rd_T48 l0_2 x8_1).f5) ((rd_T48 l0_2 x8_1).f6) ((rd_T48 l0_2 x8_1).f7) ((rd_T48 l0_2 x8_1).f8)) else (if ((rd_T48 l0_2 x8_1).f3) > a0_5 then (impl_Engine_areTransactions.j1 k1 x8_1 l0_2 (l0_2.length : Int) true a0_0 l0_1 l0_2 l0_3 l0_4 a0_5 ((rd_T48 l0_2 x8_1).f0) ((rd_T48 l0_2 x8_1).f1) ((rd_T48 l0_2 x8_1).f2) ((rd_T48 l0_2 x8_1).f3) ((rd_T48 l0_2 x8_1).f4) ((rd_T48 l0_2 x8_1).f5) ((rd_T48 l0_2 x8_1).f6) ((rd_T48 l0_2 x8_1).f7) ((rd_T48 l0_2 x8_1).f8)) else (impl_Engine_areTransactions.j1 k1 x8_1 l0_2 (l0_2.length : Int) (decide (((rd_T48 l0_2 x8_1).f6) > a0_5)) a0_0 l0_1 l0_2 l0_3 l0_4 a0_5 ((rd_T48 l0_2 x8_1).f0) ((rd_T48 l0_2 x8_1).f1) ((rd_T48 l0_2 x8_1).f2) ((rd_T48 l0_2 x8_1).f3) ((rd_T48 l0_2 x8_1).f4) ((rd_T48 l0_2 x8_1).f5) ((rd_T48 l0_2 x8_1).f6) ((rd_T48 l0_2 x8_1).f7) ((rd_T48 l0_2 x8_1).f8)))) else (none)) else (none)) = some r := by first | (rw [hji14] at H; exact H) | (simp only [hji14] at H ⊢; exact H)
    (try rw [hji14] at A11)
    have hji14w : (IntKind.i64.wrap (x8_1 - 1)) = ji14 := (i64_w _).trans hji14
    replace H := HI H
    obtain ⟨c15, H⟩ := H
    have c15b0 := decide_eq_true c15
    clear c15
    replace H := HI H
    obtain ⟨c16, H⟩ := H
    have c16b0 := decide_eq_true c16
    clear c16
    by_cases c17 : ((rd_T48 l0_2 (ji14)).f0) ≥ ((rd_T48 l0_2 x8_1).f0)
    ·rw [if_pos c17] at H
     have c17b0 : decide (((rd_T48 l0_2 x8_1).f0) ≤ ((rd_T48 l0_2 (ji14)).f0)) = true := decide_eq_true c17
     clear c17
     have H' := AM_ H
     clear H
     try go_wp2
     generalize hW_ : ((((((((w8.setCell ⟨gb400, 0, none⟩ (.int .i64 ((rd_T48 l0_2 x8_1).f0))).setCell ⟨gb400, 1, none⟩ (.int .i64 ((rd_T48 l0_2 x8_1).f1))).setCell ⟨gb400, 2, none⟩ (.int .i64 ((rd_T48 l0_2 x8_1).f2))).setCell ⟨gb400, 3, none⟩ (.int .i64 ((rd_T48 l0_2 x8_1).f3))).setCell ⟨gb400, 4, none⟩ (.int .i64 ((rd_T48 l0_2 x8_1).f4))).setCell ⟨gb400, 5, none⟩ (.int .i64 ((rd_T48 l0_2 x8_1).f5))).setCell ⟨gb400, 6, none⟩ (.int .i64 ((rd_T48 l0_2 x8_1).f6))).setCell ⟨gb400, 7, none⟩ (.slice A399_7 ((rd_T48 l0_2 x8_1).f7).length c399_7)).setCell ⟨gb400, 8, none⟩ (.slice A399_8 ((rd_T48 l0_2 x8_1).f8).length c399_8) = w18
     have n0_ : Aside0 (w18.heap[gb398]? = some (.cells #[.bool a0_0, .slice A0_1 l0_1.length c0_1, .slice (some ad399) l0_2.length c0_2, .slice A0_3 l0_3.length c0_3, .slice A0_4 l0_4.length c0_4, .int .i64 a0_5] 39 (0, 0))) := by subst hW_; exact ⟨BG BK398.out NB398_400.out⟩
     have n1_ : Aside0 (w18.heap[gb400]? = some (.cells #[.int .i64 ((rd_T48 l0_2 x8_1).f0), .int .i64 ((rd_T48 l0_2 x8_1).f1), .int .i64 ((rd_T48 l0_2 x8_1).f2), .int .i64 ((rd_T48 l0_2 x8_1).f3), .int .i64 ((rd_T48 l0_2 x8_1).f4), .int .i64 ((rd_T48 l0_2 x8_1).f5), .int .i64 ((rd_T48 l0_2 x8_1).f6), .slice A399_7 ((rd_T48 l0_2 x8_1).f7).length c399_7, .slice A399_8 ((rd_T48 l0_2 x8_1).f8).length c399_8] 48 (0, 0))) := by subst hW_; exact ⟨BQ BK400.out⟩
     have n2_ : Aside0 (Below w.heap.size w w18) := by subst hW_; exact ⟨BT HB.out⟩
     (try clear BK398)
     (try clear BK400)
     (try clear HB)
     clear hW_
     have BK398 := n0_
     have BK400 := n1_
     have HB := n2_
     clear n0_ n1_ n2_
     replace BK398 := BD1 BK398
     replace BK400 := BD1 BK400
     replace HB := BD2 HB
     have p402 : 0 ≤ ((ji14) : Int) := DT
     have q402 : (ji14) < (l0_2.length : Int) := DT
     obtain ⟨ad402, A402_7, c402_7, A402_8, c402_8, e402, hx402_0, hx402_1, hx402_2, hx402_3, hx402_4, hx402_5, hx402_6, hx402_7, hx402_8, hl402_7, hi402_7, hl402_8, hi402_8⟩ := at_T48 HR0_2.out (ji14) p402 q402
     have hw402_8 := hx402_8
     have hw402_7 := hx402_7
     have hw402_6 := hx402_6
     have hw402_5 := hx402_5
     have hw402_4 := hx402_4
     have hw402_3 := hx402_3
     have hw402_2 := hx402_2
     have hw402_1 := hx402_1
     have hw402_0 := hx402_0
     obtain rfl : ad399 = ad402 := (by injection e402)
     replace hx402_0 := BC HB.out hx402_0
     replace hx402_1 := BC HB.out hx402_1
     replace hx402_2 := BC HB.out hx402_2
     replace hx402_3 := BC HB.out hx402_3
     replace hx402_4 := BC HB.out hx402_4
     replace hx402_5 := BC HB.out hx402_5
     replace hx402_6 := BC HB.out hx402_6
     replace hx402_7 := BC HB.out hx402_7
     replace hx402_8 := BC HB.out hx402_8
     have HR402_7 := AM_ hi402_7
     have HC402_7 := AM_ hl402_7
     clear hi402_7 hl402_7
     have HR402_8 := AM_ hi402_8
     have HC402_8 := AM_ hl402_8
     clear hi402_8 hl402_8
     replace p402 := eq_true p402
     replace q402 := eq_true q402
     refine start_ (n := 33) (S := fun w' => w'.cell? ⟨gb400, 0, none⟩ = some (.int .i64 ((rd_T48 l0_2 x8_1).f0)) ∧ w'.cell? ⟨gb400, 1, none⟩ = some (.int .i64 ((rd_T48 l0_2 x8_1).f1)) ∧ w'.cell? ⟨gb400, 2, none⟩ = some (.int .i64 ((rd_T48 l0_2 x8_1).f2)) ∧ w'.cell? ⟨gb400, 3, none⟩ = some (.int .i64 ((rd_T48 l0_2 x8_1).f3)) ∧ w'.cell? ⟨gb400, 4, none⟩ = some (.int .i64 ((rd_T48 l0_2 x8_1).f4)) ∧ w'.cell? ⟨gb400, 5, none⟩ = some (.int .i64 ((rd_T48 l0_2 x8_1).f5)) ∧ w'.cell? ⟨gb400, 6, none⟩ = some (.int .i64 ((rd_T48 l0_2 x8_1).f6)) ∧ w'.cell? ⟨gb400, 7, none⟩ = some (.slice A399_7 ((rd_T48 l0_2 x8_1).f7).length c399_7) ∧ w'.cell? ⟨gb400, 8, none⟩ = some (.slice A399_8 ((rd_T48 l0_2 x8_1).f8).length c399_8) ∧ w'.cell? ⟨gb398, 0, none⟩ = some (.bool a0_0) ∧ w'.cell? ⟨gb398, 1, none⟩ = some (.slice A0_1 l0_1.length c0_1) ∧ w'.cell? ⟨gb398, 2, none⟩ = some (.slice (some ad399) l0_2.length c0_2) ∧ w'.cell? ⟨gb398, 3, none⟩ = some (.slice A0_3 l0_3.length c0_3) ∧ w'.cell? ⟨gb398, 4, none⟩ = some (.slice A0_4 l0_4.length c0_4) ∧ w'.cell? ⟨gb398, 5, none⟩ = some (.int .i64 a0_5) ∧ w'.cell? (ad399.add (((ji14)).toNat * 9)) = some (.int .i64 ((rd_T48 l0_2 (ji14)).f0)) ∧ w'.cell? ⟨(ad399.add (((ji14)).toNat * 9)).block, (ad399.add (((ji14)).toNat * 9)).off + 1, none⟩ = some (.int .i64 ((rd_T48 l0_2 (ji14)).f1)) ∧ w'.cell? ⟨(ad399.add (((ji14)).toNat * 9)).block, (ad399.add (((ji14)).toNat * 9)).off + 2, none⟩ = some (.int .i64 ((rd_T48 l0_2 (ji14)).f2)) ∧ w'.cell? ⟨(ad399.add (((ji14)).toNat * 9)).block, (ad399.add (((ji14)).toNat * 9)).off + 3, none⟩ = some (.int .i64 ((rd_T48 l0_2 (ji14)).f3)) ∧ w'.cell? ⟨(ad399.add (((ji14)).toNat * 9)).block, (ad399.add (((ji14)).toNat * 9)).off + 4, none⟩ = some (.int .i64 ((rd_T48 l0_2 (ji14)).f4)) ∧ w'.cell? ⟨(ad399.add (((ji14)).toNat * 9)).block, (ad399.add (((ji14)).toNat * 9)).off + 5, none⟩ = some (.int .i64 ((rd_T48 l0_2 (ji14)).f5)) ∧ w'.cell? ⟨(ad399.add (((ji14)).toNat * 9)).block, (ad399.add (((ji14)).toNat * 9)).off + 6, none⟩ = some (.int .i64 ((rd_T48 l0_2 (ji14)).f6)) ∧ w'.cell? ⟨(ad399.add (((ji14)).toNat * 9)).block, (ad399.add (((ji14)).toNat * 9)).off + 7, none⟩ = some (.slice A402_7 ((rd_T48 l0_2 (ji14)).f7).length c402_7) ∧ w'.cell? ⟨(ad399.add (((ji14)).toNat * 9)).block, (ad399.add (((ji14)).toNat * 9)).off + 8, none⟩ = some (.slice A402_8 ((rd_T48 l0_2 (ji14)).f8).length c402_8)) (ds := []) (lo 0 33) (by kernel_rfl) rfl rfl ⟨bc BK400.out 0, bc BK400.out 1, bc BK400.out 2, bc BK400.out 3, bc BK400.out 4, bc BK400.out 5, bc BK400.out 6, bc BK400.out 7, bc BK400.out 8, bc BK398.out 0, bc BK398.out 1, bc BK398.out 2, bc BK398.out 3, bc BK398.out 4, bc BK398.out 5, (BD HB.out hw402_0), (BD HB.out hw402_1), (BD HB.out hw402_2), (BD HB.out hw402_3), (BD HB.out hw402_4), (BD HB.out hw402_5), (BD HB.out hw402_6), (BD HB.out hw402_7), (BD HB.out hw402_8)⟩ (fun hHeld => ?_); refine with_tabW impl_Engine_areTransactions.tab4 impl_Engine_areTransactions.bits4 (fun HT_ HW_ => ?_)
     generalize w18.drew = w19 at BK398 BK400 HB HR402_7 HR402_8 hx402_0 hx402_1 hx402_2 hx402_3 hx402_4 hx402_5 hx402_6 hx402_7 hx402_8 hHeld ⊢
     refine TS HT_ HW_ hHeld ?_
     refine OS HT_ (fun K hK => ?_)
     refine GO Try.func78 #[.agg #[.int .i64 ((rd_T48 l0_2 x8_1).f0), .int .i64 ((rd_T48 l0_2 x8_1).f1), .int .i64 ((rd_T48 l0_2 x8_1).f2), .int .i64 ((rd_T48 l0_2 x8_1).f3), .int .i64 ((rd_T48 l0_2 x8_1).f4), .int .i64 ((rd_T48 l0_2 x8_1).f5), .int .i64 ((rd_T48 l0_2 x8_1).f6), .slice A399_7 ((rd_T48 l0_2 x8_1).f7).length c399_7, .slice A399_8 ((rd_T48 l0_2 x8_1).f8).length c399_8]] ?_
     with_reducible refine MB (impl_IsValidTransaction.calls k1 ((rd_T48 l0_2 x8_1).f0) ((rd_T48 l0_2 x8_1).f1) ((rd_T48 l0_2 x8_1).f2) ((rd_T48 l0_2 x8_1).f3) ((rd_T48 l0_2 x8_1).f4) ((rd_T48 l0_2 x8_1).f5) ((rd_T48 l0_2 x8_1).f6) _ _ ((rd_T48 l0_2 x8_1).f7) _ _ ((rd_T48 l0_2 x8_1).f8) true _ (CC HR399_7 HB) HC399_7.out (CC HR399_8 HB) HC399_8.out A11.out) ?_
     intro w20 hb
     replace BK398 := BV BK398 hb
     replace BK400 := BV BK400 hb
     replace HB := BW HB hb
     (try clear hb)
     refine hK.out _ _ ⟨bc BK400.out 0, bc BK400.out 1, bc BK400.out 2, bc BK400.out 3, bc BK400.out 4, bc BK400.out 5, bc BK400.out 6, bc BK400.out 7, bc BK400.out 8, bc BK398.out 0, bc BK398.out 1, bc BK398.out 2, bc BK398.out 3, bc BK398.out 4, bc BK398.out 5, (BD HB.out hw402_0), (BD HB.out hw402_1), (BD HB.out hw402_2), (BD HB.out hw402_3), (BD HB.out hw402_4), (BD HB.out hw402_5), (BD HB.out hw402_6), (BD HB.out hw402_7), (BD HB.out hw402_8)⟩ (fun hHeld => ?_)
     clear hK K
     refine NM 14 ?_
     iterate 6 refine PS HT_ ?_
     refine PV 9 (some 22) (bs 767 33) HT_ ?_
     refine PV 10 (some 23) (bs 1791 33) HT_ ?_
     refine PV 14 (some 27) (bs 18175 33) HT_ ?_
     refine TX 8 (some 21) (bs 18431 33) HT_ HW_ hHeld ?_
     refine PV 11 (some 24) (bs 20479 33) HT_ ?_
     refine PV 12 (some 25) (bs 24575 33) HT_ ?_
     refine TX 13 (some 26) (lo 15 33) HT_ HW_ hHeld ?_
     iterate 18 first | refine PS HT_ ?_ | refine PT HT_ ?_ | refine TS HT_ HW_ hHeld ?_
     refine done_ (done_of HT_.out (by kernel_rfl)) ?_
     try go_wp2
     go_meet
     case rel => exact ⟨_, (true), (by first | rfl | (simp; done) | (simp [*]; done)), H', ⟨by have := HK1.out; first | omega | exact Nat.le_refl _⟩, ⟨BH BK398.out⟩, ⟨BH BK400.out⟩, ⟨BT HB.out⟩⟩
    rw [if_neg c17] at H
    have c17b0 : decide (((rd_T48 l0_2 x8_1).f0) ≤ ((rd_T48 l0_2 (ji14)).f0)) = false := decide_eq_false c17
    clear c17
    try go_wp2
    generalize hW_ : ((((((((w8.setCell ⟨gb400, 0, none⟩ (.int .i64 ((rd_T48 l0_2 x8_1).f0))).setCell ⟨gb400, 1, none⟩ (.int .i64 ((rd_T48 l0_2 x8_1).f1))).setCell ⟨gb400, 2, none⟩ (.int .i64 ((rd_T48 l0_2 x8_1).f2))).setCell ⟨gb400, 3, none⟩ (.int .i64 ((rd_T48 l0_2 x8_1).f3))).setCell ⟨gb400, 4, none⟩ (.int .i64 ((rd_T48 l0_2 x8_1).f4))).setCell ⟨gb400, 5, none⟩ (.int .i64 ((rd_T48 l0_2 x8_1).f5))).setCell ⟨gb400, 6, none⟩ (.int .i64 ((rd_T48 l0_2 x8_1).f6))).setCell ⟨gb400, 7, none⟩ (.slice A399_7 ((rd_T48 l0_2 x8_1).f7).length c399_7)).setCell ⟨gb400, 8, none⟩ (.slice A399_8 ((rd_T48 l0_2 x8_1).f8).length c399_8) = w25
    have n0_ : Aside0 (w25.heap[gb398]? = some (.cells #[.bool a0_0, .slice A0_1 l0_1.length c0_1, .slice (some ad399) l0_2.length c0_2, .slice A0_3 l0_3.length c0_3, .slice A0_4 l0_4.length c0_4, .int .i64 a0_5] 39 (0, 0))) := by subst hW_; exact ⟨BG BK398.out NB398_400.out⟩
    have n1_ : Aside0 (w25.heap[gb400]? = some (.cells #[.int .i64 ((rd_T48 l0_2 x8_1).f0), .int .i64 ((rd_T48 l0_2 x8_1).f1), .int .i64 ((rd_T48 l0_2 x8_1).f2), .int .i64 ((rd_T48 l0_2 x8_1).f3), .int .i64 ((rd_T48 l0_2 x8_1).f4), .int .i64 ((rd_T48 l0_2 x8_1).f5), .int .i64 ((rd_T48 l0_2 x8_1).f6), .slice A399_7 ((rd_T48 l0_2 x8_1).f7).length c399_7, .slice A399_8 ((rd_T48 l0_2 x8_1).f8).length c399_8] 48 (0, 0))) := by subst hW_; exact ⟨BQ BK400.out⟩
    have n2_ : Aside0 (Below w.heap.size w w25) := by subst hW_; exact ⟨BT HB.out⟩
    (try clear BK398)
    (try clear BK400)
    (try clear HB)
    clear hW_
    have BK398 := n0_
    have BK400 := n1_
    have HB := n2_
    clear n0_ n1_ n2_
    replace BK398 := BD1 BK398
    replace BK400 := BD1 BK400
    replace HB := BD2 HB
    have p402 : 0 ≤ ((ji14) : Int) := DT
    have q402 : (ji14) < (l0_2.length : Int) := DT
    obtain ⟨ad402, A402_7, c402_7, A402_8, c402_8, e402, hx402_0, hx402_1, hx402_2, hx402_3, hx402_4, hx402_5, hx402_6, hx402_7, hx402_8, hl402_7, hi402_7, hl402_8, hi402_8⟩ := at_T48 HR0_2.out (ji14) p402 q402
    have hw402_8 := hx402_8
    have hw402_7 := hx402_7
    have hw402_6 := hx402_6
    have hw402_5 := hx402_5
    have hw402_4 := hx402_4
    have hw402_3 := hx402_3
    have hw402_2 := hx402_2
    have hw402_1 := hx402_1
    have hw402_0 := hx402_0
    obtain rfl : ad399 = ad402 := (by injection e402)
    replace hx402_0 := BC HB.out hx402_0
    replace hx402_1 := BC HB.out hx402_1
    replace hx402_2 := BC HB.out hx402_2
    replace hx402_3 := BC HB.out hx402_3
    replace hx402_4 := BC HB.out hx402_4
    replace hx402_5 := BC HB.out hx402_5
    replace hx402_6 := BC HB.out hx402_6
    replace hx402_7 := BC HB.out hx402_7
    replace hx402_8 := BC HB.out hx402_8
    have HR402_7 := AM_ hi402_7
    have HC402_7 := AM_ hl402_7
    clear hi402_7 hl402_7
    have HR402_8 := AM_ hi402_8
    have HC402_8 := AM_ hl402_8
    clear hi402_8 hl402_8
    replace p402 := eq_true p402
    replace q402 := eq_true q402
    refine start_ (n := 33) (S := fun w' => w'.cell? ⟨gb400, 0, none⟩ = some (.int .i64 ((rd_T48 l0_2 x8_1).f0)) ∧ w'.cell? ⟨gb400, 1, none⟩ = some (.int .i64 ((rd_T48 l0_2 x8_1).f1)) ∧ w'.cell? ⟨gb400, 2, none⟩ = some (.int .i64 ((rd_T48 l0_2 x8_1).f2)) ∧ w'.cell? ⟨gb400, 3, none⟩ = some (.int .i64 ((rd_T48 l0_2 x8_1).f3)) ∧ w'.cell? ⟨gb400, 4, none⟩ = some (.int .i64 ((rd_T48 l0_2 x8_1).f4)) ∧ w'.cell? ⟨gb400, 5, none⟩ = some (.int .i64 ((rd_T48 l0_2 x8_1).f5)) ∧ w'.cell? ⟨gb400, 6, none⟩ = some (.int .i64 ((rd_T48 l0_2 x8_1).f6)) ∧ w'.cell? ⟨gb400, 7, none⟩ = some (.slice A399_7 ((rd_T48 l0_2 x8_1).f7).length c399_7) ∧ w'.cell? ⟨gb400, 8, none⟩ = some (.slice A399_8 ((rd_T48 l0_2 x8_1).f8).length c399_8) ∧ w'.cell? ⟨gb398, 0, none⟩ = some (.bool a0_0) ∧ w'.cell? ⟨gb398, 1, none⟩ = some (.slice A0_1 l0_1.length c0_1) ∧ w'.cell? ⟨gb398, 2, none⟩ = some (.slice (some ad399) l0_2.length c0_2) ∧ w'.cell? ⟨gb398, 3, none⟩ = some (.slice A0_3 l0_3.length c0_3) ∧ w'.cell? ⟨gb398, 4, none⟩ = some (.slice A0_4 l0_4.length c0_4) ∧ w'.cell? ⟨gb398, 5, none⟩ = some (.int .i64 a0_5) ∧ w'.cell? (ad399.add (((ji14)).toNat * 9)) = some (.int .i64 ((rd_T48 l0_2 (ji14)).f0)) ∧ w'.cell? ⟨(ad399.add (((ji14)).toNat * 9)).block, (ad399.add (((ji14)).toNat * 9)).off + 1, none⟩ = some (.int .i64 ((rd_T48 l0_2 (ji14)).f1)) ∧ w'.cell? ⟨(ad399.add (((ji14)).toNat * 9)).block, (ad399.add (((ji14)).toNat * 9)).off + 2, none⟩ = some (.int .i64 ((rd_T48 l0_2 (ji14)).f2)) ∧ w'.cell? ⟨(ad399.add (((ji14)).toNat * 9)).block, (ad399.add (((ji14)).toNat * 9)).off + 3, none⟩ = some (.int .i64 ((rd_T48 l0_2 (ji14)).f3)) ∧ w'.cell? ⟨(ad399.add (((ji14)).toNat * 9)).block, (ad399.add (((ji14)).toNat * 9)).off + 4, none⟩ = some (.int .i64 ((rd_T48 l0_2 (ji14)).f4)) ∧ w'.cell? ⟨(ad399.add (((ji14)).toNat * 9)).block, (ad399.add (((ji14)).toNat * 9)).off + 5, none⟩ = some (.int .i64 ((rd_T48 l0_2 (ji14)).f5)) ∧ w'.cell? ⟨(ad399.add (((ji14)).toNat * 9)).block, (ad399.add (((ji14)).toNat * 9)).off + 6, none⟩ = some (.int .i64 ((rd_T48 l0_2 (ji14)).f6)) ∧ w'.cell? ⟨(ad399.add (((ji14)).toNat * 9)).block, (ad399.add (((ji14)).toNat * 9)).off + 7, none⟩ = some (.slice A402_7 ((rd_T48 l0_2 (ji14)).f7).length c402_7) ∧ w'.cell? ⟨(ad399.add (((ji14)).toNat * 9)).block, (ad399.add (((ji14)).toNat * 9)).off + 8, none⟩ = some (.slice A402_8 ((rd_T48 l0_2 (ji14)).f8).length c402_8)) (ds := []) (lo 0 33) (by kernel_rfl) rfl rfl ⟨bc BK400.out 0, bc BK400.out 1, bc BK400.out 2, bc BK400.out 3, bc BK400.out 4, bc BK400.out 5, bc BK400.out 6, bc BK400.out 7, bc BK400.out 8, bc BK398.out 0, bc BK398.out 1, bc BK398.out 2, bc BK398.out 3, bc BK398.out 4, bc BK398.out 5, (BD HB.out hw402_0), (BD HB.out hw402_1), (BD HB.out hw402_2), (BD HB.out hw402_3), (BD HB.out hw402_4), (BD HB.out hw402_5), (BD HB.out hw402_6), (BD HB.out hw402_7), (BD HB.out hw402_8)⟩ (fun hHeld => ?_); refine with_tabW impl_Engine_areTransactions.tab4 impl_Engine_areTransactions.bits4 (fun HT_ HW_ => ?_)
    generalize w25.drew = w26 at BK398 BK400 HB HR402_7 HR402_8 hx402_0 hx402_1 hx402_2 hx402_3 hx402_4 hx402_5 hx402_6 hx402_7 hx402_8 hHeld ⊢
    refine TS HT_ HW_ hHeld ?_
    refine OS HT_ (fun K hK => ?_)
    refine GO Try.func78 #[.agg #[.int .i64 ((rd_T48 l0_2 x8_1).f0), .int .i64 ((rd_T48 l0_2 x8_1).f1), .int .i64 ((rd_T48 l0_2 x8_1).f2), .int .i64 ((rd_T48 l0_2 x8_1).f3), .int .i64 ((rd_T48 l0_2 x8_1).f4), .int .i64 ((rd_T48 l0_2 x8_1).f5), .int .i64 ((rd_T48 l0_2 x8_1).f6), .slice A399_7 ((rd_T48 l0_2 x8_1).f7).length c399_7, .slice A399_8 ((rd_T48 l0_2 x8_1).f8).length c399_8]] ?_
    with_reducible refine MB (impl_IsValidTransaction.calls k1 ((rd_T48 l0_2 x8_1).f0) ((rd_T48 l0_2 x8_1).f1) ((rd_T48 l0_2 x8_1).f2) ((rd_T48 l0_2 x8_1).f3) ((rd_T48 l0_2 x8_1).f4) ((rd_T48 l0_2 x8_1).f5) ((rd_T48 l0_2 x8_1).f6) _ _ ((rd_T48 l0_2 x8_1).f7) _ _ ((rd_T48 l0_2 x8_1).f8) true _ (CC HR399_7 HB) HC399_7.out (CC HR399_8 HB) HC399_8.out A11.out) ?_
    intro w27 hb
    replace BK398 := BV BK398 hb
    replace BK400 := BV BK400 hb
    replace HB := BW HB hb
    (try clear hb)
    refine hK.out _ _ ⟨bc BK400.out 0, bc BK400.out 1, bc BK400.out 2, bc BK400.out 3, bc BK400.out 4, bc BK400.out 5, bc BK400.out 6, bc BK400.out 7, bc BK400.out 8, bc BK398.out 0, bc BK398.out 1, bc BK398.out 2, bc BK398.out 3, bc BK398.out 4, bc BK398.out 5, (BD HB.out hw402_0), (BD HB.out hw402_1), (BD HB.out hw402_2), (BD HB.out hw402_3), (BD HB.out hw402_4), (BD HB.out hw402_5), (BD HB.out hw402_6), (BD HB.out hw402_7), (BD HB.out hw402_8)⟩ (fun hHeld => ?_)
    clear hK K
    refine NM 14 ?_
    iterate 6 refine PS HT_ ?_
    refine PV 9 (some 22) (bs 767 33) HT_ ?_
    refine PV 10 (some 23) (bs 1791 33) HT_ ?_
    refine PV 14 (some 27) (bs 18175 33) HT_ ?_
    refine TX 8 (some 21) (bs 18431 33) HT_ HW_ hHeld ?_
    refine PV 11 (some 24) (bs 20479 33) HT_ ?_
    refine PV 12 (some 25) (bs 24575 33) HT_ ?_
    refine TX 13 (some 26) (lo 15 33) HT_ HW_ hHeld ?_
    iterate 6 first | refine PS HT_ ?_ | refine TS HT_ HW_ hHeld ?_
    refine PV 22 (some 35) (bs 6291455 33) HT_ ?_
    refine TX 21 (some 34) (lo 23 33) HT_ HW_ hHeld ?_
    refine TS HT_ HW_ hHeld ?_
    by_cases c21 : ((rd_T48 l0_2 x8_1).f3) > a0_5
    ·rw [if_pos c21] at H
     have c21b0 : decide (a0_5 < ((rd_T48 l0_2 x8_1).f3)) = true := decide_eq_true c21
     clear c21
     have H' := AM_ H
     clear H
     iterate 9 first | refine PS HT_ ?_ | refine PT HT_ ?_
     refine done_ (done_of HT_.out (by kernel_rfl)) ?_
     try go_wp2
     go_meet
     case rel => exact ⟨_, (true), (by first | rfl | (simp; done) | (simp [*]; done)), H', ⟨by have := HK1.out; first | omega | exact Nat.le_refl _⟩, ⟨BH BK398.out⟩, ⟨BH BK400.out⟩, ⟨BT HB.out⟩⟩
    rw [if_neg c21] at H
    have c21b0 : decide (a0_5 < ((rd_T48 l0_2 x8_1).f3)) = false := decide_eq_false c21
    clear c21
    have H' := AM_ H
    clear H
    iterate 4 refine PS HT_ ?_
    refine PV 29 (some 42) (bs 805306367 33) HT_ ?_
    refine TX 28 (some 41) (lo 30 33) HT_ HW_ hHeld ?_
    iterate 3 first | refine PS HT_ ?_ | refine TS HT_ HW_ hHeld ?_
    refine done_ (done_of HT_.out (by kernel_rfl)) ?_
    try go_wp2
    go_meet
    case rel => exact ⟨_, (decide (((rd_T48 l0_2 x8_1).f6) > a0_5)), (by first | rfl | (simp; done) | (simp [*]; done)), H', ⟨by have := HK1.out; first | omega | exact Nat.le_refl _⟩, ⟨BH BK398.out⟩, ⟨BH BK400.out⟩, ⟨BT HB.out⟩⟩
   case rest =>
    clear HC7
    try clear c12
    try clear c28
    try clear c28b0
    obtain ⟨kq, x45_6, rfl, HA, HJ6, BK398, BK400, HB⟩ := hcut
    cases kq with
    | zero => exact absurd HA.out (by simp [impl_Engine_areTransactions.j1])
    | succ kj6 =>
     have H := HA.out
     clear HA
     simp only [impl_Engine_areTransactions.j1] at H
     by_cases c38 : x45_6 = true
     ·subst c38
      replace H := HT H
      obtain rfl := Option.some.inj H
      go_wp2
      go_ret
      exact QT (BT HB.out)
     replace c38 := Bool.eq_false_iff.mpr c38
     subst c38
     replace H := HF H
     by_cases c39 : ((rd_T48 l0_2 x8_1).f2) = 1
     rotate_left
     ·rw [if_neg c39] at H
      have c39b0 : (((rd_T48 l0_2 x8_1).f2) == 1) = false := beq_eq_false_iff_ne.mpr c39
      have c39b1 : (((rd_T48 l0_2 x8_1).f2) != 1) = true := bne_iff_ne.mpr c39
      have H' := AM_ H
      clear H
      have hnb50 := NB400_398.out
      have hnc50 := NB398_400.out
      obtain ⟨hcz51_0, hcz51_1, hcz51_2, hcz51_3, hcz51_4, hcz51_5, hcz51_6, hcz51_7, hcz51_8, hfz51_0, hfz51_1, hfz51_2, hfz51_3, hfz51_4, hfz51_5, hfz51_6, hfz51_7, hfz51_8⟩ := bk9 BK400.out
      go_wp2
      go_roundg kj6
      case measure => have := HK1.out; have := HJ6.out; omega
      case rel => exact ⟨(wrap64 (x8_1 + 1)), (by first | rfl | (simp; done) | (simp [*]; done)), H', ⟨by have := HK1.out; have := HJ6.out; omega⟩, ⟨BH BK398.out⟩, ⟨BT HB.out⟩⟩
     rw [if_pos c39] at H
     have c39b0 : (((rd_T48 l0_2 x8_1).f2) == 1) = true := beq_iff_eq.mpr c39
     have c39b1 : (((rd_T48 l0_2 x8_1).f2) != 1) = false := bne_eq_false_iff_eq.mpr c39
     clear c39
     obtain ⟨t403, A40, H⟩ := OB H
     by_cases c41 : t403 = true
     rotate_left
     ·replace c41 := Bool.eq_false_iff.mpr c41
      subst c41
      replace H := HF H
      obtain rfl := Option.some.inj H
      have hnb46 := NB400_398.out
      have hnc46 := NB398_400.out
      obtain ⟨hcz47_0, hcz47_1, hcz47_2, hcz47_3, hcz47_4, hcz47_5, hcz47_6, hcz47_7, hcz47_8, hfz47_0, hfz47_1, hfz47_2, hfz47_3, hfz47_4, hfz47_5, hfz47_6, hfz47_7, hfz47_8⟩ := bk9 BK400.out
      obtain ⟨hcz48_0, hcz48_1, hcz48_2, hcz48_3, hcz48_4, hcz48_5, hfz48_0, hfz48_1, hfz48_2, hfz48_3, hfz48_4, hfz48_5⟩ := bk6 BK398.out
      go_wp2_with (first | (go_at_call 79; (with_reducible refine (impl_Store_readsExist.calls kj6 _ _ l0_1 _ _ ((rd_T48 l0_2 x8_1).f7) false _ ?side1 ?side2 ?side3 ?side4 A40.out).mono ?_); (case side1 => exact CB HR0_1.out HB.out); (case side2 => exact HC0_1.out); (case side3 => exact CB HR399_7.out HB.out); (case side4 => exact HC399_7.out); rintro e w49 ⟨rfl, hb⟩; replace BK398 := BV BK398 hb; replace BK400 := BV BK400 hb; replace HB := BW HB hb; (try clear hb)))
      go_ret
      exact QT (BT HB.out)
     subst c41
     replace H := HT H
     have H' := AM_ H
     clear H
     have hnb42 := NB400_398.out
     have hnc42 := NB398_400.out
     obtain ⟨hcz43_0, hcz43_1, hcz43_2, hcz43_3, hcz43_4, hcz43_5, hcz43_6, hcz43_7, hcz43_8, hfz43_0, hfz43_1, hfz43_2, hfz43_3, hfz43_4, hfz43_5, hfz43_6, hfz43_7, hfz43_8⟩ := bk9 BK400.out
     obtain ⟨hcz44_0, hcz44_1, hcz44_2, hcz44_3, hcz44_4, hcz44_5, hfz44_0, hfz44_1, hfz44_2, hfz44_3, hfz44_4, hfz44_5⟩ := bk6 BK398.out
     go_wp2_with (first | (go_at_call 79; (with_reducible refine (impl_Store_readsExist.calls kj6 _ _ l0_1 _ _ ((rd_T48 l0_2 x8_1).f7) true _ ?side1 ?side2 ?side3 ?side4 A40.out).mono ?_); (case side1 => exact CB HR0_1.out HB.out); (case side2 => exact HC0_1.out); (case side3 => exact CB HR399_7.out HB.out); (case side4 => exact HC399_7.out); rintro e w45 ⟨rfl, hb⟩; replace BK398 := BV BK398 hb; replace BK400 := BV BK400 hb; replace HB := BW HB hb; (try clear hb)))
     go_roundg kj6
     case measure => have := HK1.out; have := HJ6.out; omega
     case rel => exact ⟨(wrap64 (x8_1 + 1)), (by first | rfl | (simp; done) | (simp [*]; done)), H', ⟨by have := HK1.out; have := HJ6.out; omega⟩, ⟨BH BK398.out⟩, ⟨BT HB.out⟩⟩

end Go.Proofs.Ytdgknikgfjhohaa.PFnExactIsValidEngine
