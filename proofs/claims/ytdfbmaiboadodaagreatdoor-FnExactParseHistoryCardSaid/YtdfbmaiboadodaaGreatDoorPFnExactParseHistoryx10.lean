-- Printed by wip/myprint.py.
import Derived.Test.YtdfbmaiboadodaaGreatDoorPFnExactParseHistoryx8
import Derived.Test.YtdfbmaiboadodaaGreatDoorPFnExactParseHistoryx9
namespace Go.Proofs.YtdfbmaiboadodaaGreatDoor.PFnExactParseHistory
open Go.RowKit Go.Proofs.YtdfbmaiboadodaaGreatDoorW.PrintWords Go.Proofs.YtdfbmaiboadodaaGreatDoorW.PrintLast Go.Proofs.YtdfbmaiboadodaaGreatDoorW.PrintMore
set_option maxHeartbeats 8000000
set_option maxRecDepth 100000
set_option linter.unusedVariables false
set_option linter.unusedSimpArgs false

/-! ### impl_areReads: function 76 -/
mutual
def impl_areReads.l0 : Nat → List (S48) → List (S48) → Int → Int → Option (Bool)
 | 0, _, _, _, _ => none
 | k + 1, x0, x5, x6, x7 => if x7 < x6 then (if 0 ≤ x7 then (if x7 < (x5.length : Int) then ((impl_isKey.f ((rd_T48 x5 x7).f0)).bind fun t324 => (if t324 = true then ((impl_in.f ((rd_T48 x5 x7).f1) 0 999).bind fun t325 => (if t325 = true then (if x7 > 0 then (if 0 ≤ (wrap64 (x7 - 1)) then (if (wrap64 (x7 - 1)) < (x0.length : Int) then ((impl_compareMarks.f k ((rd_T48 x0 (wrap64 (x7 - 1))).f0) ((rd_T48 x0 (wrap64 (x7 - 1))).f1) ((rd_T48 x5 x7).f0) ((rd_T48 x5 x7).f1)).bind fun t327 => (impl_areReads.j1 k x0 x7 x5 x6 (decide (t327 ≥ 0)))) else (none)) else (none)) else (impl_areReads.j1 k x0 x7 x5 x6 false)) else (impl_areReads.j1 k x0 x7 x5 x6 true))) else (impl_areReads.j1 k x0 x7 x5 x6 true))) else (none)) else (none)) else (some (decide ((x0.length : Int) ≤ 60)))
def impl_areReads.j1 : Nat → List (S48) → Int → List (S48) → Int → Bool → Option (Bool)
 | 0, _, _, _, _, _ => none
 | k + 1, x0, x3, x5, x6, x35 => if x35 = true then (some false) else (impl_areReads.l0 k x0 x5 x6 (wrap64 (x3 + 1)))
end
def impl_areReads.f (k : Nat) (l0 : List (S48)) : Option (Bool) := impl_areReads.l0 k l0 l0 (l0.length : Int) 0
theorem impl_areReads.mono_l : ∀ k, (∀ y0 y1 y2 y3, LeO (impl_areReads.l0 k y0 y1 y2 y3) (impl_areReads.l0 (k + 1) y0 y1 y2 y3)) ∧ (∀ y0 y1 y2 y3 y4, LeO (impl_areReads.j1 k y0 y1 y2 y3 y4) (impl_areReads.j1 (k + 1) y0 y1 y2 y3 y4))
 | 0 => ⟨fun _ _ _ _ r h => by simp [impl_areReads.l0] at h, fun _ _ _ _ _ r h => by simp [impl_areReads.j1] at h⟩
 | k + 1 => by
  obtain ⟨ih0, ih1⟩ := impl_areReads.mono_l k
  refine ⟨?_, ?_⟩
  ·intro y0 y1 y2 y3
   unfold impl_areReads.l0
   repeat' first
   | (with_reducible exact ih0 _ _ _ _)
   | (with_reducible exact ih1 _ _ _ _ _)
   | (with_reducible exact impl_compareMarks.mono _ _ _ _ _)
   | (with_reducible first | exact LeO.refl _ | exact LeO.none _ | refine LeO.ite ?_ ?_ | refine LeO.bind ?_ (fun _ => ?_))
   | exact ih0 _ _ _ _
   | exact ih1 _ _ _ _ _
   | exact impl_compareMarks.mono _ _ _ _ _
   | exact LeO.none _ | refine LeO.ite ?_ ?_ | refine LeO.bind ?_ (fun _ => ?_)
  ·intro y0 y1 y2 y3 y4
   unfold impl_areReads.j1
   repeat' first
   | (with_reducible exact ih0 _ _ _ _)
   | (with_reducible exact ih1 _ _ _ _ _)
   | (with_reducible exact impl_compareMarks.mono _ _ _ _ _)
   | (with_reducible first | exact LeO.refl _ | exact LeO.none _ | refine LeO.ite ?_ ?_ | refine LeO.bind ?_ (fun _ => ?_))
   | exact ih0 _ _ _ _
   | exact ih1 _ _ _ _ _
   | exact impl_compareMarks.mono _ _ _ _ _
   | exact LeO.none _ | refine LeO.ite ?_ ?_ | refine LeO.bind ?_ (fun _ => ?_)
theorem impl_areReads.mono : ∀ a0 k, LeO (impl_areReads.f k a0) (impl_areReads.f (k + 1) a0) := by
 intro a0 k
 obtain ⟨ih0, ih1⟩ := impl_areReads.mono_l k
 unfold impl_areReads.f
 repeat' first
   | (with_reducible exact ih0 _ _ _ _)
   | (with_reducible exact ih1 _ _ _ _ _)
   | (with_reducible exact impl_compareMarks.mono _ _ _ _ _)
   | (with_reducible first | exact LeO.refl _ | exact LeO.none _ | refine LeO.ite ?_ ?_ | refine LeO.bind ?_ (fun _ => ?_))
   | exact ih0 _ _ _ _
   | exact ih1 _ _ _ _ _
   | exact impl_compareMarks.mono _ _ _ _ _
   | exact LeO.none _ | refine LeO.ite ?_ ?_ | refine LeO.bind ?_ (fun _ => ?_)
def impl_areReads.T4 : Bool × List (List Nat × List Nat) := (true, [([], []), ([0], [0]), ([1], [1]), ([2], [2]), ([3, 2], [3]), ([4], [4]), ([5, 4], [4, 5]), ([6, 4, 4], [4, 6]), ([7, 4], [4, 7]), ([4, 8], [4, 8]), ([9, 7], [9]), ([10], [10]), ([11, 10], [10, 11]), ([12, 10, 10], [10, 12]), ([13], [13]), ([13], [13]), ([15, 13], [13, 15]), ([14, 16, 13], [13, 14, 16]), ([17, 13], [13, 17]), ([13], [13]), ([18, 19, 13, 13], [13, 18, 19]), ([20, 13], [13, 20]), ([13, 21, 10], [10, 13, 21]), ([10, 22], [10, 22])])
def impl_areReads.B4 : List Nat := [0, 1, 3, 7, 15, 31, 63, 127, 255, 511, 1023, 2047, 4095, 8191, 16383, 16383, 49151, 131071, 262143, 16383, 1048575, 2097151, 4194303, 8388607]
theorem impl_areReads.tab4 : rtab .any (opsOf Tryz.f76 4) = impl_areReads.T4 := by kernel_rfl
theorem impl_areReads.bits4 : waitsOk impl_areReads.T4.2 impl_areReads.B4 = true := by kernel_rfl
theorem impl_areReads.calls (k : Nat) (A0 : Option Addr) (c0 : Nat) (l0 : List (S48)) (r : Bool) (w : World) (hr0 : Kd.C k48 w A0 l0.length l0) (hc0 : l0.length ≤ c0) (h : impl_areReads.f k l0 = some r) :
  Calls Tryz.prog 76 #[.slice A0 l0.length c0] w fun e w' => e = .returned (.bool r) ∧ Below w.heap.size w w' := by
 have hu48 := Tryz.underlying48
 have HR0 := AM_ hr0
 have HC0 := AM_ hc0
 clear hr0 hc0
 have HB := AM_ (Below.refl w.heap.size w)
 have H : (impl_areReads.l0 k l0 l0 (l0.length : Int) 0) = some r := h
 clear h
 have H' := AM_ H
 clear H
 go_enter Tryz.func76, Tryz.ntmps76
 go_wp2
 go_loopg [7] k (fun kq v7 w' => ∃ (x7_1 : Int), v7 = .int .i64 x7_1 ∧ Aside0 (impl_areReads.l0 kq l0 l0 (l0.length : Int) x7_1 = some r) ∧ Aside0 (kq ≤ k) ∧ Aside0 (Below w.heap.size w w'))
 case atStart => exact ⟨(0), (by first | rfl | (simp; done) | (simp [*]; done)), H', ⟨Nat.le_refl _⟩, ⟨BT HB.out⟩⟩
 case round =>
  clear H'
  obtain ⟨x7_1, rfl, HA, HK1, HB⟩ := hrel
  cases gk with
  | zero => exact absurd HA.out (by simp [impl_areReads.l0])
  | succ k1 =>
   have H := HA.out
   clear HA
   simp only [impl_areReads.l0] at H
   by_cases c2 : x7_1 < (l0.length : Int)
   rotate_left
   ·rw [if_neg c2] at H
    have c2b0 : decide (x7_1 < (l0.length : Int)) = false := decide_eq_false c2
    clear c2
    obtain rfl := Option.some.inj H
    go_wp2
    go_ret
    exact QT (BT HB.out)
   rw [if_pos c2] at H
   have c2b0 : decide (x7_1 < (l0.length : Int)) = true := decide_eq_true c2
   clear c2
   replace H := HI H
   obtain ⟨c3, H⟩ := H
   have c3b0 : decide (0 ≤ x7_1) = true := decide_eq_true c3
   clear c3
   replace H := HI H
   obtain ⟨c4, H⟩ := H
   have c4b0 : decide (x7_1 < (l0.length : Int)) = true := decide_eq_true c4
   clear c4
   have HC5 := AM_ H
   clear H
   have p322 : 0 ≤ (x7_1 : Int) := DT
   have q322 : x7_1 < (l0.length : Int) := DT
   obtain ⟨ad322, e322, hx322_0, hx322_1⟩ := at_T48 HR0.out x7_1 p322 q322
   cases e322
   replace hx322_0 := BC HB.out hx322_0
   replace hx322_1 := BC HB.out hx322_1
   replace p322 := eq_true p322
   replace q322 := eq_true q322
   go_upto_region 4 with (first | ((with_reducible refine gate_dst (N := 4) rfl ?_); refine box_event ?hg (N := 4) ?hd (cs := #[.int .i64 0, .int .i64 0]) (t := 48) ?hr ?_; (case hd => rfl); (case hg => rfl); (case hr => first | (go_simp; done) | (go_simp; rfl)); intro gb323 hg w6 hbox hb; have BK323 := AM_ (hbox); have GW323 := AM_ ((GS HB.out hg)); have GE323 := AM_ ((GS HB.out hg)); replace HB := AM_ (below_step (BT HB.out) hb); clear hb hbox hg; obtain ⟨hcz7_0, hcz7_1, hfz7_0, hfz7_1⟩ := bk2 BK323.out))
   (try simp only [pA, pS, pZ, pK])
   go_cut [35] (fun v35 wc => ∃ (kq : Nat) (x35_4 : Bool), v35 = .bool x35_4 ∧ Aside0 (impl_areReads.j1 kq l0 x7_1 l0 (l0.length : Int) x35_4 = some r) ∧ Aside0 (kq ≤ k1) ∧ Aside0 (wc.heap[gb323]? = some (.cells #[.int .i64 ((rd_T48 l0 x7_1).f0), .int .i64 ((rd_T48 l0 x7_1).f1)] 48 (0, 0))) ∧ Aside0 (Below w.heap.size w wc))
   case first =>
    have H := HC5.out
    clear HC5
    replace H := Option.bind_eq_some_iff.mp H
    obtain ⟨t324, A80, H⟩ := H
    replace H : (if t324 = true then ((impl_in.f ((rd_T48 l0 x7_1).f1) 0 999).bind fun t325 => (if t325 = true then (if x7_1 > 0 then (if 0 ≤ (wrap64 (x7_1 - 1)) then (if (wrap64 (x7_1 - 1)) < (l0.length : Int) then ((impl_compareMarks.f k1 ((rd_T48 l0 (wrap64 (x7_1 - 1))).f0) ((rd_T48 l0 (wrap64 (x7_1 - 1))).f1) ((rd_T48 l0 x7_1).f0) ((rd_T48 l0 x7_1).f1)).bind fun t327 => (impl_areReads.j1 k1 l0 x7_1 l0 (l0.length : Int) (decide (t327 ≥ 0)))) else (none)) else (none)) else (impl_areReads.j1 k1 l0 x7_1 l0 (l0.length : Int) false)) else (impl_areReads.j1 k1 l0 x7_1 l0 (l0.length : Int) true))) else (impl_areReads.j1 k1 l0 x7_1 l0 (l0.length : Int) true)) = some r := H
    have A8 := AM_ A80
    clear A80
    by_cases c9 : t324 = true
    rotate_left
    ·replace c9 := Bool.eq_false_iff.mpr c9
     subst c9
     have H1 : (impl_areReads.j1 k1 l0 x7_1 l0 (l0.length : Int) true) = some r := by rw [if_neg (show ¬ (false = true) by decide)] at H; exact H
     clear H
     have H := H1
     clear H1
     have H' := AM_ H
     clear H
     try go_wp2
     have n0_ : Aside0 (((w6.setCell ⟨gb323, 0, none⟩ (.int .i64 ((rd_T48 l0 x7_1).f0))).setCell ⟨gb323, 1, none⟩ (.int .i64 ((rd_T48 l0 x7_1).f1))).heap[gb323]? = some (.cells #[.int .i64 ((rd_T48 l0 x7_1).f0), .int .i64 ((rd_T48 l0 x7_1).f1)] 48 (0, 0))) := ⟨BQ BK323.out⟩
     have n1_ : Aside0 (Below w.heap.size w ((w6.setCell ⟨gb323, 0, none⟩ (.int .i64 ((rd_T48 l0 x7_1).f0))).setCell ⟨gb323, 1, none⟩ (.int .i64 ((rd_T48 l0 x7_1).f1)))) := ⟨BT HB.out⟩
     (try clear BK323)
     (try clear HB)
     generalize ((w6.setCell ⟨gb323, 0, none⟩ (.int .i64 ((rd_T48 l0 x7_1).f0))).setCell ⟨gb323, 1, none⟩ (.int .i64 ((rd_T48 l0 x7_1).f1))) = w24 at n0_ n1_ ⊢
     have BK323 := n0_
     have HB := n1_
     clear n0_ n1_
     replace BK323 := AM_ (blk_drew BK323.out)
     replace HB := AM_ (below_drew1 HB.out)
     refine start_ (n := 24) (S := fun w' => w'.cell? ⟨gb323, 0, none⟩ = some (.int .i64 ((rd_T48 l0 x7_1).f0)) ∧ w'.cell? ⟨gb323, 1, none⟩ = some (.int .i64 ((rd_T48 l0 x7_1).f1))) (ds := []) (bs 0 24) (by kernel_rfl) rfl rfl ⟨bc BK323.out 0, bc BK323.out 1⟩ (fun hHeld => ?_); refine with_tabW impl_areReads.tab4 impl_areReads.bits4 (fun HT_ HW_ => ?_)
     generalize w24.drew = w25 at BK323 HB hHeld ⊢
     refine pu (i := 0) (N := some 12) (v := ?_) (a' := ?_) (bs 1 24) rfl rfl HT_ ?_ ?_ ?_
     rotate_left
     ·intro w'
      go_simp
      with_reducible rfl
     rotate_left
     ·simp only[pA,pS,pZ,pK,pV]
      rfl
     refine tk (i := 1) (N := some 13) (v := ?_) (a' := ?_) (bs 3 24) rfl rfl HT_ HW_ ?_ hHeld ?_ ?_
     rotate_left
     ·rintro w' ⟨s0, s1⟩
      go_simp
      with_reducible rfl
     rotate_left
     ·simp only[pA,pS,pZ,pK,pV]
      rfl
     refine one_ (i := 2) (N := some 14) (bs 7 24) rfl rfl (one_of HT_.out (by kernel_rfl)) (by decide) (fun K hK => ?_)
     refine goes_ Tryz.func93 (by kernel_rfl) rfl #[.int .i64 ((rd_T48 l0 x7_1).f0)] (by rfl) rfl rfl (by (try simp only [List.map_toArray, List.map_cons, List.map_nil]); first | done | rfl | (simp only [List.length_drop, List.length_take]; rfl)) ?_
     with_reducible refine (impl_isKey.calls ((rd_T48 l0 x7_1).f0) false _ A8.out).mono ?_
     rintro e w' ⟨rfl, ⟨nd, rfl⟩⟩
     refine ⟨_, rfl, ?_⟩
     refine hK.out _ _ ⟨bc BK323.out 0, bc BK323.out 1⟩ (fun hHeld => ?_)
     clear hK K
     refine norm_ (a' := ?_) ?_ ?_
     rotate_left
     ·show Act.put _ (some 14) _ = _
      simp only[pA,pS,pZ,pK,pV]
      rfl
     refine pu (i := 3) (N := some 15) (v := ?_) (a' := ?_) (bs 15 24) rfl rfl HT_ ?_ ?_ ?_
     rotate_left
     ·intro w'
      go_simp
      with_reducible rfl
     rotate_left
     ·simp only[pA,pS,pZ,pK,pV]
      rfl
     refine pu (i := 4) (N := some 16) (v := ?_) (a' := ?_) (bs 31 24) rfl rfl HT_ ?_ ?_ ?_
     rotate_left
     ·intro w'
      go_simp
      with_reducible rfl
     rotate_left
     ·simp only[pA,pS,pZ,pK,pV]
      rfl
     refine pn (i := 5) (N := some 17) (v := undef) (a' := ?_) (bs 63 24) rfl rfl HT_ ?_ ?_
     rotate_left
     ·simp only[pA,pS,pZ,pK,pV]
      rfl
     refine pn (i := 6) (N := some 18) (v := undef) (a' := ?_) (bs 127 24) rfl rfl HT_ ?_ ?_
     rotate_left
     ·simp only[pA,pS,pZ,pK,pV]
      rfl
     refine pn (i := 7) (N := some 19) (v := undef) (a' := ?_) (bs 255 24) rfl rfl HT_ ?_ ?_
     rotate_left
     ·simp only[pA,pS,pZ,pK,pV]
      rfl
     refine pn (i := 8) (N := some 20) (v := undef) (a' := ?_) (bs 511 24) rfl rfl HT_ ?_ ?_
     rotate_left
     ·simp only[pA,pS,pZ,pK,pV]
      rfl
     refine pu (i := 9) (N := some 21) (v := ?_) (a' := ?_) (bs 1023 24) rfl rfl HT_ ?_ ?_ ?_
     rotate_left
     ·intro w'
      go_simp
      with_reducible rfl
     rotate_left
     ·simp only[pA,pS,pZ,pK,pV]
      rfl
     refine pu (i := 10) (N := some 22) (v := ?_) (a' := ?_) (bs 2047 24) rfl rfl HT_ ?_ ?_ ?_
     rotate_left
     ·intro w'
      go_simp
      with_reducible rfl
     rotate_left
     ·simp only[pA,pS,pZ,pK,pV]
      rfl
     refine pn (i := 11) (N := some 23) (v := undef) (a' := ?_) (bs 4095 24) rfl rfl HT_ ?_ ?_
     rotate_left
     ·simp only[pA,pS,pZ,pK,pV]
      rfl
     refine pn (i := 12) (N := some 24) (v := undef) (a' := ?_) (bs 8191 24) rfl rfl HT_ ?_ ?_
     rotate_left
     ·simp only[pA,pS,pZ,pK,pV]
      rfl
     refine pn (i := 13) (N := some 25) (v := undef) (a' := ?_) (bs 16383 24) rfl rfl HT_ ?_ ?_
     rotate_left
     ·simp only[pA,pS,pZ,pK,pV]
      rfl
     refine pn (i := 14) (N := some 26) (v := undef) (a' := ?_) (bs 32767 24) rfl rfl HT_ ?_ ?_
     rotate_left
     ·simp only[pA,pS,pZ,pK,pV]
      rfl
     refine pn (i := 15) (N := some 27) (v := undef) (a' := ?_) (bs 65535 24) rfl rfl HT_ ?_ ?_
     rotate_left
     ·simp only[pA,pS,pZ,pK,pV]
      rfl
     refine pn (i := 16) (N := some 28) (v := undef) (a' := ?_) (bs 131071 24) rfl rfl HT_ ?_ ?_
     rotate_left
     ·simp only[pA,pS,pZ,pK,pV]
      rfl
     refine pn (i := 17) (N := some 29) (v := undef) (a' := ?_) (bs 262143 24) rfl rfl HT_ ?_ ?_
     rotate_left
     ·simp only[pA,pS,pZ,pK,pV]
      rfl
     refine pn (i := 18) (N := some 30) (v := undef) (a' := ?_) (bs 524287 24) rfl rfl HT_ ?_ ?_
     rotate_left
     ·simp only[pA,pS,pZ,pK,pV]
      rfl
     refine pn (i := 19) (N := some 31) (v := undef) (a' := ?_) (bs 1048575 24) rfl rfl HT_ ?_ ?_
     rotate_left
     ·simp only[pA,pS,pZ,pK,pV]
      rfl
     refine pn (i := 20) (N := some 32) (v := undef) (a' := ?_) (bs 2097151 24) rfl rfl HT_ ?_ ?_
     rotate_left
     ·simp only[pA,pS,pZ,pK,pV]
      rfl
     refine pn (i := 21) (N := some 33) (v := undef) (a' := ?_) (bs 4194303 24) rfl rfl HT_ ?_ ?_
     rotate_left
     ·simp only[pA,pS,pZ,pK,pV]
      rfl
     refine pn (i := 22) (N := some 34) (v := undef) (a' := ?_) (bs 8388607 24) rfl rfl HT_ ?_ ?_
     rotate_left
     ·simp only[pA,pS,pZ,pK,pV]
      rfl
     refine pu (i := 23) (N := some 35) (v := ?_) (a' := ?_) (bs 16777215 24) rfl rfl HT_ ?_ ?_ ?_
     rotate_left
     ·intro w'
      go_simp
      with_reducible rfl
     rotate_left
     ·simp only[pA,pS,pZ,pK,pV]
      rfl
     refine done_ (done_of HT_.out (by kernel_rfl)) ?_
     try go_wp2
     go_meet
     case rel => exact ⟨_, (true), (by first | rfl | (simp; done) | (simp [*]; done)), H', ⟨by have := HK1.out; first | omega | exact Nat.le_refl _⟩, ⟨BH BK323.out⟩, ⟨BT HB.out⟩⟩
    subst c9
    have H1 : ((impl_in.f ((rd_T48 l0 x7_1).f1) 0 999).bind fun t325 => (if t325 = true then (if x7_1 > 0 then (if 0 ≤ (wrap64 (x7_1 - 1)) then (if (wrap64 (x7_1 - 1)) < (l0.length : Int) then ((impl_compareMarks.f k1 ((rd_T48 l0 (wrap64 (x7_1 - 1))).f0) ((rd_T48 l0 (wrap64 (x7_1 - 1))).f1) ((rd_T48 l0 x7_1).f0) ((rd_T48 l0 x7_1).f1)).bind fun t327 => (impl_areReads.j1 k1 l0 x7_1 l0 (l0.length : Int) (decide (t327 ≥ 0)))) else (none)) else (none)) else (impl_areReads.j1 k1 l0 x7_1 l0 (l0.length : Int) false)) else (impl_areReads.j1 k1 l0 x7_1 l0 (l0.length : Int) true))) = some r := by rw [if_pos rfl] at H; exact H
    clear H
    have H := H1
    clear H1
    replace H := Option.bind_eq_some_iff.mp H
    obtain ⟨t325, A100, H⟩ := H
    replace H : (if t325 = true then (if x7_1 > 0 then (if 0 ≤ (wrap64 (x7_1 - 1)) then (if (wrap64 (x7_1 - 1)) < (l0.length : Int) then ((impl_compareMarks.f k1 ((rd_T48 l0 (wrap64 (x7_1 - 1))).f0) ((rd_T48 l0 (wrap64 (x7_1 - 1))).f1) ((rd_T48 l0 x7_1).f0) ((rd_T48 l0 x7_1).f1)).bind fun t327 => (impl_areReads.j1 k1 l0 x7_1 l0 (l0.length : Int) (decide (t327 ≥ 0)))) else (none)) else (none)) else (impl_areReads.j1 k1 l0 x7_1 l0 (l0.length : Int) false)) else (impl_areReads.j1 k1 l0 x7_1 l0 (l0.length : Int) true)) = some r := H
    have A10 := AM_ A100
    clear A100
    by_cases c11 : t325 = true
    rotate_left
    ·replace c11 := Bool.eq_false_iff.mpr c11
     subst c11
     have H1 : (impl_areReads.j1 k1 l0 x7_1 l0 (l0.length : Int) true) = some r := by rw [if_neg (show ¬ (false = true) by decide)] at H; exact H
     clear H
     have H := H1
     clear H1
     have H' := AM_ H
     clear H
     try go_wp2
     have n0_ : Aside0 (((w6.setCell ⟨gb323, 0, none⟩ (.int .i64 ((rd_T48 l0 x7_1).f0))).setCell ⟨gb323, 1, none⟩ (.int .i64 ((rd_T48 l0 x7_1).f1))).heap[gb323]? = some (.cells #[.int .i64 ((rd_T48 l0 x7_1).f0), .int .i64 ((rd_T48 l0 x7_1).f1)] 48 (0, 0))) := ⟨BQ BK323.out⟩
     have n1_ : Aside0 (Below w.heap.size w ((w6.setCell ⟨gb323, 0, none⟩ (.int .i64 ((rd_T48 l0 x7_1).f0))).setCell ⟨gb323, 1, none⟩ (.int .i64 ((rd_T48 l0 x7_1).f1)))) := ⟨BT HB.out⟩
     (try clear BK323)
     (try clear HB)
     generalize ((w6.setCell ⟨gb323, 0, none⟩ (.int .i64 ((rd_T48 l0 x7_1).f0))).setCell ⟨gb323, 1, none⟩ (.int .i64 ((rd_T48 l0 x7_1).f1))) = w22 at n0_ n1_ ⊢
     have BK323 := n0_
     have HB := n1_
     clear n0_ n1_
     replace BK323 := AM_ (blk_drew BK323.out)
     replace HB := AM_ (below_drew1 HB.out)
     refine start_ (n := 24) (S := fun w' => w'.cell? ⟨gb323, 0, none⟩ = some (.int .i64 ((rd_T48 l0 x7_1).f0)) ∧ w'.cell? ⟨gb323, 1, none⟩ = some (.int .i64 ((rd_T48 l0 x7_1).f1))) (ds := []) (bs 0 24) (by kernel_rfl) rfl rfl ⟨bc BK323.out 0, bc BK323.out 1⟩ (fun hHeld => ?_); refine with_tabW impl_areReads.tab4 impl_areReads.bits4 (fun HT_ HW_ => ?_)
     generalize w22.drew = w23 at BK323 HB hHeld ⊢
     refine pu (i := 0) (N := some 12) (v := ?_) (a' := ?_) (bs 1 24) rfl rfl HT_ ?_ ?_ ?_
     rotate_left
     ·intro w'
      go_simp
      with_reducible rfl
     rotate_left
     ·simp only[pA,pS,pZ,pK,pV]
      rfl
     refine tk (i := 1) (N := some 13) (v := ?_) (a' := ?_) (bs 3 24) rfl rfl HT_ HW_ ?_ hHeld ?_ ?_
     rotate_left
     ·rintro w' ⟨s0, s1⟩
      go_simp
      with_reducible rfl
     rotate_left
     ·simp only[pA,pS,pZ,pK,pV]
      rfl
     refine one_ (i := 2) (N := some 14) (bs 7 24) rfl rfl (one_of HT_.out (by kernel_rfl)) (by decide) (fun K hK => ?_)
     refine goes_ Tryz.func93 (by kernel_rfl) rfl #[.int .i64 ((rd_T48 l0 x7_1).f0)] (by rfl) rfl rfl (by (try simp only [List.map_toArray, List.map_cons, List.map_nil]); first | done | rfl | (simp only [List.length_drop, List.length_take]; rfl)) ?_
     with_reducible refine (impl_isKey.calls ((rd_T48 l0 x7_1).f0) true _ A8.out).mono ?_
     rintro e w' ⟨rfl, ⟨nd, rfl⟩⟩
     refine ⟨_, rfl, ?_⟩
     refine hK.out _ _ ⟨bc BK323.out 0, bc BK323.out 1⟩ (fun hHeld => ?_)
     clear hK K
     refine norm_ (a' := ?_) ?_ ?_
     rotate_left
     ·show Act.put _ (some 14) _ = _
      simp only[pA,pS,pZ,pK,pV]
      rfl
     refine pu (i := 3) (N := some 15) (v := ?_) (a' := ?_) (bs 15 24) rfl rfl HT_ ?_ ?_ ?_
     rotate_left
     ·intro w'
      go_simp
      with_reducible rfl
     rotate_left
     ·simp only[pA,pS,pZ,pK,pV]
      rfl
     refine pu (i := 4) (N := some 16) (v := ?_) (a' := ?_) (bs 31 24) rfl rfl HT_ ?_ ?_ ?_
     rotate_left
     ·intro w'
      go_simp
      with_reducible rfl
     rotate_left
     ·simp only[pA,pS,pZ,pK,pV]
      rfl
     refine pu (i := 5) (N := some 17) (v := ?_) (a' := ?_) (bs 63 24) rfl rfl HT_ ?_ ?_ ?_
     rotate_left
     ·intro w'
      go_simp
      with_reducible rfl
     rotate_left
     ·simp only[pA,pS,pZ,pK,pV]
      rfl
     refine tk (i := 6) (N := some 18) (v := ?_) (a' := ?_) (bs 127 24) rfl rfl HT_ HW_ ?_ hHeld ?_ ?_
     rotate_left
     ·rintro w' ⟨s0, s1⟩
      go_simp
      with_reducible rfl
     rotate_left
     ·simp only[pA,pS,pZ,pK,pV]
      rfl
     refine one_ (i := 7) (N := some 19) (bs 255 24) rfl rfl (one_of HT_.out (by kernel_rfl)) (by decide) (fun K hK => ?_)
     refine goes_ Tryz.func30 (by kernel_rfl) rfl #[.int .i64 ((rd_T48 l0 x7_1).f1), .int .i64 0, .int .i64 999] (by rfl) rfl rfl (by (try simp only [List.map_toArray, List.map_cons, List.map_nil]); first | done | rfl | (simp only [List.length_drop, List.length_take]; rfl)) ?_
     with_reducible refine (impl_in.calls ((rd_T48 l0 x7_1).f1) 0 999 false _ A10.out).mono ?_
     rintro e w' ⟨rfl, ⟨nd, rfl⟩⟩
     refine ⟨_, rfl, ?_⟩
     refine hK.out _ _ ⟨bc BK323.out 0, bc BK323.out 1⟩ (fun hHeld => ?_)
     clear hK K
     refine norm_ (a' := ?_) ?_ ?_
     rotate_left
     ·show Act.put _ (some 19) _ = _
      simp only[pA,pS,pZ,pK,pV]
      rfl
     refine pu (i := 8) (N := some 20) (v := ?_) (a' := ?_) (bs 511 24) rfl rfl HT_ ?_ ?_ ?_
     rotate_left
     ·intro w'
      go_simp
      with_reducible rfl
     rotate_left
     ·simp only[pA,pS,pZ,pK,pV]
      rfl
     refine pu (i := 9) (N := some 21) (v := ?_) (a' := ?_) (bs 1023 24) rfl rfl HT_ ?_ ?_ ?_
     rotate_left
     ·intro w'
      go_simp
      with_reducible rfl
     rotate_left
     ·simp only[pA,pS,pZ,pK,pV]
      rfl
     refine pu (i := 10) (N := some 22) (v := ?_) (a' := ?_) (bs 2047 24) rfl rfl HT_ ?_ ?_ ?_
     rotate_left
     ·intro w'
      go_simp
      with_reducible rfl
     rotate_left
     ·simp only[pA,pS,pZ,pK,pV]
      rfl
     refine pn (i := 11) (N := some 23) (v := undef) (a' := ?_) (bs 4095 24) rfl rfl HT_ ?_ ?_
     rotate_left
     ·simp only[pA,pS,pZ,pK,pV]
      rfl
     refine pn (i := 12) (N := some 24) (v := undef) (a' := ?_) (bs 8191 24) rfl rfl HT_ ?_ ?_
     rotate_left
     ·simp only[pA,pS,pZ,pK,pV]
      rfl
     refine pn (i := 13) (N := some 25) (v := undef) (a' := ?_) (bs 16383 24) rfl rfl HT_ ?_ ?_
     rotate_left
     ·simp only[pA,pS,pZ,pK,pV]
      rfl
     refine pn (i := 14) (N := some 26) (v := undef) (a' := ?_) (bs 32767 24) rfl rfl HT_ ?_ ?_
     rotate_left
     ·simp only[pA,pS,pZ,pK,pV]
      rfl
     refine pn (i := 15) (N := some 27) (v := undef) (a' := ?_) (bs 65535 24) rfl rfl HT_ ?_ ?_
     rotate_left
     ·simp only[pA,pS,pZ,pK,pV]
      rfl
     refine pn (i := 16) (N := some 28) (v := undef) (a' := ?_) (bs 131071 24) rfl rfl HT_ ?_ ?_
     rotate_left
     ·simp only[pA,pS,pZ,pK,pV]
      rfl
     refine pn (i := 17) (N := some 29) (v := undef) (a' := ?_) (bs 262143 24) rfl rfl HT_ ?_ ?_
     rotate_left
     ·simp only[pA,pS,pZ,pK,pV]
      rfl
     refine pn (i := 18) (N := some 30) (v := undef) (a' := ?_) (bs 524287 24) rfl rfl HT_ ?_ ?_
     rotate_left
     ·simp only[pA,pS,pZ,pK,pV]
      rfl
     refine pn (i := 19) (N := some 31) (v := undef) (a' := ?_) (bs 1048575 24) rfl rfl HT_ ?_ ?_
     rotate_left
     ·simp only[pA,pS,pZ,pK,pV]
      rfl
     refine pn (i := 20) (N := some 32) (v := undef) (a' := ?_) (bs 2097151 24) rfl rfl HT_ ?_ ?_
     rotate_left
     ·simp only[pA,pS,pZ,pK,pV]
      rfl
     refine pn (i := 21) (N := some 33) (v := undef) (a' := ?_) (bs 4194303 24) rfl rfl HT_ ?_ ?_
     rotate_left
     ·simp only[pA,pS,pZ,pK,pV]
      rfl
     refine pn (i := 22) (N := some 34) (v := undef) (a' := ?_) (bs 8388607 24) rfl rfl HT_ ?_ ?_
     rotate_left
     ·simp only[pA,pS,pZ,pK,pV]
      rfl
     refine pu (i := 23) (N := some 35) (v := ?_) (a' := ?_) (bs 16777215 24) rfl rfl HT_ ?_ ?_ ?_
     rotate_left
     ·intro w'
      go_simp
      with_reducible rfl
     rotate_left
     ·simp only[pA,pS,pZ,pK,pV]
      rfl
     refine done_ (done_of HT_.out (by kernel_rfl)) ?_
     try go_wp2
     go_meet
     case rel => exact ⟨_, (true), (by first | rfl | (simp; done) | (simp [*]; done)), H', ⟨by have := HK1.out; first | omega | exact Nat.le_refl _⟩, ⟨BH BK323.out⟩, ⟨BT HB.out⟩⟩
    subst c11
    have H1 : (if x7_1 > 0 then (if 0 ≤ (wrap64 (x7_1 - 1)) then (if (wrap64 (x7_1 - 1)) < (l0.length : Int) then ((impl_compareMarks.f k1 ((rd_T48 l0 (wrap64 (x7_1 - 1))).f0) ((rd_T48 l0 (wrap64 (x7_1 - 1))).f1) ((rd_T48 l0 x7_1).f0) ((rd_T48 l0 x7_1).f1)).bind fun t327 => (impl_areReads.j1 k1 l0 x7_1 l0 (l0.length : Int) (decide (t327 ≥ 0)))) else (none)) else (none)) else (impl_areReads.j1 k1 l0 x7_1 l0 (l0.length : Int) false)) = some r := by rw [if_pos rfl] at H; exact H
    clear H
    have H := H1
    clear H1
    by_cases c12 : x7_1 > 0
    rotate_left
    ·rw [if_neg c12] at H
     have c12b0 : decide (0 < x7_1) = false := decide_eq_false c12
     clear c12
     (first | rw [c12b0] | (simp only [i64_w, i32_w]; rw [c12b0]) | skip)
     have H' := AM_ H
     clear H
     try go_wp2
     have n0_ : Aside0 (((w6.setCell ⟨gb323, 0, none⟩ (.int .i64 ((rd_T48 l0 x7_1).f0))).setCell ⟨gb323, 1, none⟩ (.int .i64 ((rd_T48 l0 x7_1).f1))).heap[gb323]? = some (.cells #[.int .i64 ((rd_T48 l0 x7_1).f0), .int .i64 ((rd_T48 l0 x7_1).f1)] 48 (0, 0))) := ⟨BQ BK323.out⟩
     have n1_ : Aside0 (Below w.heap.size w ((w6.setCell ⟨gb323, 0, none⟩ (.int .i64 ((rd_T48 l0 x7_1).f0))).setCell ⟨gb323, 1, none⟩ (.int .i64 ((rd_T48 l0 x7_1).f1)))) := ⟨BT HB.out⟩
     (try clear BK323)
     (try clear HB)
     generalize ((w6.setCell ⟨gb323, 0, none⟩ (.int .i64 ((rd_T48 l0 x7_1).f0))).setCell ⟨gb323, 1, none⟩ (.int .i64 ((rd_T48 l0 x7_1).f1))) = w20 at n0_ n1_ ⊢
     have BK323 := n0_
     have HB := n1_
     clear n0_ n1_
     replace BK323 := AM_ (blk_drew BK323.out)
     replace HB := AM_ (below_drew1 HB.out)
     refine start_ (n := 24) (S := fun w' => w'.cell? ⟨gb323, 0, none⟩ = some (.int .i64 ((rd_T48 l0 x7_1).f0)) ∧ w'.cell? ⟨gb323, 1, none⟩ = some (.int .i64 ((rd_T48 l0 x7_1).f1))) (ds := []) (bs 0 24) (by kernel_rfl) rfl rfl ⟨bc BK323.out 0, bc BK323.out 1⟩ (fun hHeld => ?_); refine with_tabW impl_areReads.tab4 impl_areReads.bits4 (fun HT_ HW_ => ?_)
     generalize w20.drew = w21 at BK323 HB hHeld ⊢
     refine pu (i := 0) (N := some 12) (v := ?_) (a' := ?_) (bs 1 24) rfl rfl HT_ ?_ ?_ ?_
     rotate_left
     ·intro w'
      go_simp
      with_reducible rfl
     rotate_left
     ·simp only[pA,pS,pZ,pK,pV]
      rfl
     refine tk (i := 1) (N := some 13) (v := ?_) (a' := ?_) (bs 3 24) rfl rfl HT_ HW_ ?_ hHeld ?_ ?_
     rotate_left
     ·rintro w' ⟨s0, s1⟩
      go_simp
      with_reducible rfl
     rotate_left
     ·simp only[pA,pS,pZ,pK,pV]
      rfl
     refine one_ (i := 2) (N := some 14) (bs 7 24) rfl rfl (one_of HT_.out (by kernel_rfl)) (by decide) (fun K hK => ?_)
     refine goes_ Tryz.func93 (by kernel_rfl) rfl #[.int .i64 ((rd_T48 l0 x7_1).f0)] (by rfl) rfl rfl (by (try simp only [List.map_toArray, List.map_cons, List.map_nil]); first | done | rfl | (simp only [List.length_drop, List.length_take]; rfl)) ?_
     with_reducible refine (impl_isKey.calls ((rd_T48 l0 x7_1).f0) true _ A8.out).mono ?_
     rintro e w' ⟨rfl, ⟨nd, rfl⟩⟩
     refine ⟨_, rfl, ?_⟩
     refine hK.out _ _ ⟨bc BK323.out 0, bc BK323.out 1⟩ (fun hHeld => ?_)
     clear hK K
     refine norm_ (a' := ?_) ?_ ?_
     rotate_left
     ·show Act.put _ (some 14) _ = _
      simp only[pA,pS,pZ,pK,pV]
      rfl
     refine pu (i := 3) (N := some 15) (v := ?_) (a' := ?_) (bs 15 24) rfl rfl HT_ ?_ ?_ ?_
     rotate_left
     ·intro w'
      go_simp
      with_reducible rfl
     rotate_left
     ·simp only[pA,pS,pZ,pK,pV]
      rfl
     refine pu (i := 4) (N := some 16) (v := ?_) (a' := ?_) (bs 31 24) rfl rfl HT_ ?_ ?_ ?_
     rotate_left
     ·intro w'
      go_simp
      with_reducible rfl
     rotate_left
     ·simp only[pA,pS,pZ,pK,pV]
      rfl
     refine pu (i := 5) (N := some 17) (v := ?_) (a' := ?_) (bs 63 24) rfl rfl HT_ ?_ ?_ ?_
     rotate_left
     ·intro w'
      go_simp
      with_reducible rfl
     rotate_left
     ·simp only[pA,pS,pZ,pK,pV]
      rfl
     refine tk (i := 6) (N := some 18) (v := ?_) (a' := ?_) (bs 127 24) rfl rfl HT_ HW_ ?_ hHeld ?_ ?_
     rotate_left
     ·rintro w' ⟨s0, s1⟩
      go_simp
      with_reducible rfl
     rotate_left
     ·simp only[pA,pS,pZ,pK,pV]
      rfl
     refine one_ (i := 7) (N := some 19) (bs 255 24) rfl rfl (one_of HT_.out (by kernel_rfl)) (by decide) (fun K hK => ?_)
     refine goes_ Tryz.func30 (by kernel_rfl) rfl #[.int .i64 ((rd_T48 l0 x7_1).f1), .int .i64 0, .int .i64 999] (by rfl) rfl rfl (by (try simp only [List.map_toArray, List.map_cons, List.map_nil]); first | done | rfl | (simp only [List.length_drop, List.length_take]; rfl)) ?_
     with_reducible refine (impl_in.calls ((rd_T48 l0 x7_1).f1) 0 999 true _ A10.out).mono ?_
     rintro e w' ⟨rfl, ⟨nd, rfl⟩⟩
     refine ⟨_, rfl, ?_⟩
     refine hK.out _ _ ⟨bc BK323.out 0, bc BK323.out 1⟩ (fun hHeld => ?_)
     clear hK K
     refine norm_ (a' := ?_) ?_ ?_
     rotate_left
     ·show Act.put _ (some 19) _ = _
      simp only[pA,pS,pZ,pK,pV]
      rfl
     refine pu (i := 8) (N := some 20) (v := ?_) (a' := ?_) (bs 511 24) rfl rfl HT_ ?_ ?_ ?_
     rotate_left
     ·intro w'
      go_simp
      with_reducible rfl
     rotate_left
     ·simp only[pA,pS,pZ,pK,pV]
      rfl
     refine pu (i := 9) (N := some 21) (v := ?_) (a' := ?_) (bs 1023 24) rfl rfl HT_ ?_ ?_ ?_
     rotate_left
     ·intro w'
      go_simp
      with_reducible rfl
     rotate_left
     ·simp only[pA,pS,pZ,pK,pV]
      rfl
     refine pu (i := 10) (N := some 22) (v := ?_) (a' := ?_) (bs 2047 24) rfl rfl HT_ ?_ ?_ ?_
     rotate_left
     ·intro w'
      go_simp
      with_reducible rfl
     rotate_left
     ·simp only[pA,pS,pZ,pK,pV]
      rfl
     refine pu (i := 11) (N := some 23) (v := ?_) (a' := ?_) (bs 4095 24) rfl rfl HT_ ?_ ?_ ?_
     rotate_left
     ·intro w'
      go_simp
      with_reducible rfl
     rotate_left
     ·simp only[pA,pS,pZ,pK,pV]
      rfl
     refine pu (i := 12) (N := some 24) (v := ?_) (a' := ?_) (bs 8191 24) rfl rfl HT_ ?_ ?_ ?_
     rotate_left
     ·intro w'
      go_simp
      with_reducible rfl
     rotate_left
     ·simp only[pA,pS,pZ,pK,pV]
      rfl
     refine pu (i := 13) (N := some 25) (v := ?_) (a' := ?_) (bs 16383 24) rfl rfl HT_ ?_ ?_ ?_
     rotate_left
     ·intro w'
      go_simp
      with_reducible rfl
     rotate_left
     ·simp only[pA,pS,pZ,pK,pV]
      rfl
     refine pn (i := 14) (N := some 26) (v := undef) (a' := ?_) (bs 32767 24) rfl rfl HT_ ?_ ?_
     rotate_left
     ·simp only[pA,pS,pZ,pK,pV]
      rfl
     refine pn (i := 15) (N := some 27) (v := undef) (a' := ?_) (bs 65535 24) rfl rfl HT_ ?_ ?_
     rotate_left
     ·simp only[pA,pS,pZ,pK,pV]
      rfl
     refine pn (i := 16) (N := some 28) (v := undef) (a' := ?_) (bs 131071 24) rfl rfl HT_ ?_ ?_
     rotate_left
     ·simp only[pA,pS,pZ,pK,pV]
      rfl
     refine pn (i := 17) (N := some 29) (v := undef) (a' := ?_) (bs 262143 24) rfl rfl HT_ ?_ ?_
     rotate_left
     ·simp only[pA,pS,pZ,pK,pV]
      rfl
     refine pn (i := 18) (N := some 30) (v := undef) (a' := ?_) (bs 524287 24) rfl rfl HT_ ?_ ?_
     rotate_left
     ·simp only[pA,pS,pZ,pK,pV]
      rfl
     refine pn (i := 19) (N := some 31) (v := undef) (a' := ?_) (bs 1048575 24) rfl rfl HT_ ?_ ?_
     rotate_left
     ·simp only[pA,pS,pZ,pK,pV]
      rfl
     refine pn (i := 20) (N := some 32) (v := undef) (a' := ?_) (bs 2097151 24) rfl rfl HT_ ?_ ?_
     rotate_left
     ·simp only[pA,pS,pZ,pK,pV]
      rfl
     refine pn (i := 21) (N := some 33) (v := undef) (a' := ?_) (bs 4194303 24) rfl rfl HT_ ?_ ?_
     rotate_left
     ·simp only[pA,pS,pZ,pK,pV]
      rfl
     refine pu (i := 22) (N := some 34) (v := ?_) (a' := ?_) (bs 8388607 24) rfl rfl HT_ ?_ ?_ ?_
     rotate_left
     ·intro w'
      go_simp
      with_reducible rfl
     rotate_left
     ·simp only[pA,pS,pZ,pK,pV]
      rfl
     refine pu (i := 23) (N := some 35) (v := ?_) (a' := ?_) (bs 16777215 24) rfl rfl HT_ ?_ ?_ ?_
     rotate_left
     ·intro w'
      go_simp
      with_reducible rfl
     rotate_left
     ·simp only[pA,pS,pZ,pK,pV]
      rfl
     refine done_ (done_of HT_.out (by kernel_rfl)) ?_
     try go_wp2
     go_meet
     case rel => exact ⟨_, (false), (by first | rfl | (simp; done) | (simp [*]; done)), H', ⟨by have := HK1.out; first | omega | exact Nat.le_refl _⟩, ⟨BH BK323.out⟩, ⟨BT HB.out⟩⟩
    rw [if_pos c12] at H
    have c12b0 : decide (0 < x7_1) = true := decide_eq_true c12
    clear c12
    (first | rw [c12b0] | (simp only [i64_w, i32_w]; rw [c12b0]) | skip)
    obtain ⟨ji13, hji13⟩ : ∃ j_ : Int, (wrap64 (x7_1 - 1)) = j_ := ⟨_, rfl⟩
    replace H : (if 0 ≤ (ji13) then (if (ji13) < (l0.length : Int) then ((impl_compareMarks.f k1 ((rd_T48 l0 (ji13)).f0) ((rd_T48 l0 (ji13)).f1) ((rd_T48 l0 x7_1).f0) ((rd_T48 l0 x7_1).f1)).bind fun t327 => (impl_areReads.j1 k1 l0 x7_1 l0 (l0.length : Int) (decide (t327 ≥ 0)))) else (none)) else (none)) = some r := by first | (rw [hji13] at H; exact H) | (simp only [hji13] at H ⊢; exact H)
    (try rw [hji13] at A8)
    (try rw [hji13] at A10)
    have hji13w : (IntKind.i64.wrap (x7_1 - 1)) = ji13 := (i64_w _).trans hji13
    replace H := HI H
    obtain ⟨c14, H⟩ := H
    have c14b0 : decide (0 ≤ (ji13)) = true := decide_eq_true c14
    clear c14
    replace H := HI H
    obtain ⟨c15, H⟩ := H
    have c15b0 : decide ((ji13) < (l0.length : Int)) = true := decide_eq_true c15
    clear c15
    replace H := Option.bind_eq_some_iff.mp H
    obtain ⟨t327, A160, H⟩ := H
    replace H : (impl_areReads.j1 k1 l0 x7_1 l0 (l0.length : Int) (decide (t327 ≥ 0))) = some r := H
    have A16 := AM_ A160
    clear A160
    have H' := AM_ H
    clear H
    try go_wp2
    have n0_ : Aside0 (((w6.setCell ⟨gb323, 0, none⟩ (.int .i64 ((rd_T48 l0 x7_1).f0))).setCell ⟨gb323, 1, none⟩ (.int .i64 ((rd_T48 l0 x7_1).f1))).heap[gb323]? = some (.cells #[.int .i64 ((rd_T48 l0 x7_1).f0), .int .i64 ((rd_T48 l0 x7_1).f1)] 48 (0, 0))) := ⟨BQ BK323.out⟩
    have n1_ : Aside0 (Below w.heap.size w ((w6.setCell ⟨gb323, 0, none⟩ (.int .i64 ((rd_T48 l0 x7_1).f0))).setCell ⟨gb323, 1, none⟩ (.int .i64 ((rd_T48 l0 x7_1).f1)))) := ⟨BT HB.out⟩
    (try clear BK323)
    (try clear HB)
    generalize ((w6.setCell ⟨gb323, 0, none⟩ (.int .i64 ((rd_T48 l0 x7_1).f0))).setCell ⟨gb323, 1, none⟩ (.int .i64 ((rd_T48 l0 x7_1).f1))) = w17 at n0_ n1_ ⊢
    have BK323 := n0_
    have HB := n1_
    clear n0_ n1_
    replace BK323 := AM_ (blk_drew BK323.out)
    replace HB := AM_ (below_drew1 HB.out)
    have p326 : 0 ≤ ((ji13) : Int) := DT
    have q326 : (ji13) < (l0.length : Int) := DT
    obtain ⟨ad326, e326, hx326_0, hx326_1⟩ := at_T48 HR0.out (ji13) p326 q326
    have hw326_1 := hx326_1
    have hw326_0 := hx326_0
    obtain rfl : ad322 = ad326 := (by injection e326)
    replace hx326_0 := BC HB.out hx326_0
    replace hx326_1 := BC HB.out hx326_1
    replace p326 := eq_true p326
    replace q326 := eq_true q326
    refine start_ (n := 24) (S := fun w' => w'.cell? ⟨gb323, 0, none⟩ = some (.int .i64 ((rd_T48 l0 x7_1).f0)) ∧ w'.cell? ⟨gb323, 1, none⟩ = some (.int .i64 ((rd_T48 l0 x7_1).f1)) ∧ w'.cell? (ad322.add (((ji13)).toNat * 2)) = some (.int .i64 ((rd_T48 l0 (ji13)).f0)) ∧ w'.cell? ⟨(ad322.add (((ji13)).toNat * 2)).block, (ad322.add (((ji13)).toNat * 2)).off + 1, none⟩ = some (.int .i64 ((rd_T48 l0 (ji13)).f1))) (ds := []) (bs 0 24) (by kernel_rfl) rfl rfl ⟨bc BK323.out 0, bc BK323.out 1, (BD HB.out hw326_0), (BD HB.out hw326_1)⟩ (fun hHeld => ?_); refine with_tabW impl_areReads.tab4 impl_areReads.bits4 (fun HT_ HW_ => ?_)
    generalize w17.drew = w18 at BK323 HB hx326_0 hx326_1 hHeld ⊢
    refine pu (i := 0) (N := some 12) (v := ?_) (a' := ?_) (bs 1 24) rfl rfl HT_ ?_ ?_ ?_
    rotate_left
    ·intro w'
     go_simp
     with_reducible rfl
    rotate_left
    ·simp only[pA,pS,pZ,pK,pV]
     rfl
    refine tk (i := 1) (N := some 13) (v := ?_) (a' := ?_) (bs 3 24) rfl rfl HT_ HW_ ?_ hHeld ?_ ?_
    rotate_left
    ·rintro w' ⟨s0, s1, s2, s3⟩
     go_simp
     with_reducible rfl
    rotate_left
    ·simp only[pA,pS,pZ,pK,pV]
     rfl
    refine one_ (i := 2) (N := some 14) (bs 7 24) rfl rfl (one_of HT_.out (by kernel_rfl)) (by decide) (fun K hK => ?_)
    refine goes_ Tryz.func93 (by kernel_rfl) rfl #[.int .i64 ((rd_T48 l0 x7_1).f0)] (by rfl) rfl rfl (by (try simp only [List.map_toArray, List.map_cons, List.map_nil]); first | done | rfl | (simp only [List.length_drop, List.length_take]; rfl)) ?_
    with_reducible refine (impl_isKey.calls ((rd_T48 l0 x7_1).f0) true _ A8.out).mono ?_
    rintro e w' ⟨rfl, ⟨nd, rfl⟩⟩
    refine ⟨_, rfl, ?_⟩
    refine hK.out _ _ ⟨bc BK323.out 0, bc BK323.out 1, (BD HB.out hw326_0), (BD HB.out hw326_1)⟩ (fun hHeld => ?_)
    clear hK K
    refine norm_ (a' := ?_) ?_ ?_
    rotate_left
    ·show Act.put _ (some 14) _ = _
     simp only[pA,pS,pZ,pK,pV]
     rfl
    refine pu (i := 3) (N := some 15) (v := ?_) (a' := ?_) (bs 15 24) rfl rfl HT_ ?_ ?_ ?_
    rotate_left
    ·intro w'
     go_simp
     with_reducible rfl
    rotate_left
    ·simp only[pA,pS,pZ,pK,pV]
     rfl
    refine pu (i := 4) (N := some 16) (v := ?_) (a' := ?_) (bs 31 24) rfl rfl HT_ ?_ ?_ ?_
    rotate_left
    ·intro w'
     go_simp
     with_reducible rfl
    rotate_left
    ·simp only[pA,pS,pZ,pK,pV]
     rfl
    refine pu (i := 5) (N := some 17) (v := ?_) (a' := ?_) (bs 63 24) rfl rfl HT_ ?_ ?_ ?_
    rotate_left
    ·intro w'
     go_simp
     with_reducible rfl
    rotate_left
    ·simp only[pA,pS,pZ,pK,pV]
     rfl
    refine tk (i := 6) (N := some 18) (v := ?_) (a' := ?_) (bs 127 24) rfl rfl HT_ HW_ ?_ hHeld ?_ ?_
    rotate_left
    ·rintro w' ⟨s0, s1, s2, s3⟩
     go_simp
     with_reducible rfl
    rotate_left
    ·simp only[pA,pS,pZ,pK,pV]
     rfl
    refine one_ (i := 7) (N := some 19) (bs 255 24) rfl rfl (one_of HT_.out (by kernel_rfl)) (by decide) (fun K hK => ?_)
    refine goes_ Tryz.func30 (by kernel_rfl) rfl #[.int .i64 ((rd_T48 l0 x7_1).f1), .int .i64 0, .int .i64 999] (by rfl) rfl rfl (by (try simp only [List.map_toArray, List.map_cons, List.map_nil]); first | done | rfl | (simp only [List.length_drop, List.length_take]; rfl)) ?_
    with_reducible refine (impl_in.calls ((rd_T48 l0 x7_1).f1) 0 999 true _ A10.out).mono ?_
    rintro e w' ⟨rfl, ⟨nd, rfl⟩⟩
    refine ⟨_, rfl, ?_⟩
    refine hK.out _ _ ⟨bc BK323.out 0, bc BK323.out 1, (BD HB.out hw326_0), (BD HB.out hw326_1)⟩ (fun hHeld => ?_)
    clear hK K
    refine norm_ (a' := ?_) ?_ ?_
    rotate_left
    ·show Act.put _ (some 19) _ = _
     simp only[pA,pS,pZ,pK,pV]
     rfl
    refine pu (i := 8) (N := some 20) (v := ?_) (a' := ?_) (bs 511 24) rfl rfl HT_ ?_ ?_ ?_
    rotate_left
    ·intro w'
     go_simp
     with_reducible rfl
    rotate_left
    ·simp only[pA,pS,pZ,pK,pV]
     rfl
    refine pu (i := 9) (N := some 21) (v := ?_) (a' := ?_) (bs 1023 24) rfl rfl HT_ ?_ ?_ ?_
    rotate_left
    ·intro w'
     go_simp
     with_reducible rfl
    rotate_left
    ·simp only[pA,pS,pZ,pK,pV]
     rfl
    refine pu (i := 10) (N := some 22) (v := ?_) (a' := ?_) (bs 2047 24) rfl rfl HT_ ?_ ?_ ?_
    rotate_left
    ·intro w'
     go_simp
     with_reducible rfl
    rotate_left
    ·simp only[pA,pS,pZ,pK,pV]
     rfl
    refine pu (i := 11) (N := some 23) (v := ?_) (a' := ?_) (bs 4095 24) rfl rfl HT_ ?_ ?_ ?_
    rotate_left
    ·intro w'
     go_simp
     with_reducible rfl
    rotate_left
    ·simp only[pA,pS,pZ,pK,pV]
     rfl
    refine pu (i := 12) (N := some 24) (v := ?_) (a' := ?_) (bs 8191 24) rfl rfl HT_ ?_ ?_ ?_
    rotate_left
    ·intro w'
     go_simp
     with_reducible rfl
    rotate_left
    ·simp only[pA,pS,pZ,pK,pV]
     rfl
    refine pu (i := 13) (N := some 25) (v := ?_) (a' := ?_) (bs 16383 24) rfl rfl HT_ ?_ ?_ ?_
    rotate_left
    ·intro w'
     go_simp
     with_reducible rfl
    rotate_left
    ·simp only[pA,pS,pZ,pK,pV]
     rfl
    refine pu (i := 14) (N := some 26) (v := ?_) (a' := ?_) (bs 32767 24) rfl rfl HT_ ?_ ?_ ?_
    rotate_left
    ·intro w'
     go_simp
     with_reducible rfl
    rotate_left
    ·simp only[pA,pS,pZ,pK,pV]
     rfl
    refine pu (i := 15) (N := some 27) (v := ?_) (a' := ?_) (bs 65535 24) rfl rfl HT_ ?_ ?_ ?_
    rotate_left
    ·intro w'
     go_simp
     with_reducible rfl
    rotate_left
    ·simp only[pA,pS,pZ,pK,pV]
     rfl
    refine pu (i := 16) (N := some 28) (v := ?_) (a' := ?_) (bs 131071 24) rfl rfl HT_ ?_ ?_ ?_
    rotate_left
    ·intro w'
     go_simp
     with_reducible rfl
    rotate_left
    ·simp only[pA,pS,pZ,pK,pV]
     rfl
    refine pu (i := 17) (N := some 29) (v := ?_) (a' := ?_) (bs 262143 24) rfl rfl HT_ ?_ ?_ ?_
    rotate_left
    ·intro w'
     go_simp
     with_reducible rfl
    rotate_left
    ·simp only[pA,pS,pZ,pK,pV]
     rfl
    refine tk (i := 18) (N := some 30) (v := ?_) (a' := ?_) (bs 524287 24) rfl rfl HT_ HW_ ?_ hHeld ?_ ?_
    rotate_left
    ·rintro w' ⟨s0, s1, s2, s3⟩
     go_simp
     with_reducible rfl
    rotate_left
    ·simp only[pA,pS,pZ,pK,pV]
     rfl
    refine tk (i := 19) (N := some 31) (v := ?_) (a' := ?_) (bs 1048575 24) rfl rfl HT_ HW_ ?_ hHeld ?_ ?_
    rotate_left
    ·rintro w' ⟨s0, s1, s2, s3⟩
     go_simp
     with_reducible rfl
    rotate_left
    ·simp only[pA,pS,pZ,pK,pV]
     rfl
    refine one_ (i := 20) (N := some 32) (bs 2097151 24) rfl rfl (one_of HT_.out (by kernel_rfl)) (by decide) (fun K hK => ?_)
    refine goes_ Tryz.func94 (by kernel_rfl) rfl #[.agg #[.int .i64 ((rd_T48 l0 (ji13)).f0), .int .i64 ((rd_T48 l0 (ji13)).f1)], .agg #[.int .i64 ((rd_T48 l0 x7_1).f0), .int .i64 ((rd_T48 l0 x7_1).f1)]] (by rfl) rfl rfl (by (try simp only [List.map_toArray, List.map_cons, List.map_nil]); first | done | (simp only [hji13]; rfl) | rfl | (simp only [List.length_drop, List.length_take]; rfl)) ?_
    with_reducible refine (impl_compareMarks.calls k1 ((rd_T48 l0 (ji13)).f0) ((rd_T48 l0 (ji13)).f1) ((rd_T48 l0 x7_1).f0) ((rd_T48 l0 x7_1).f1) t327 _ A16.out).mono ?_
    rintro e w19 ⟨rfl, hb⟩
    refine ⟨_, rfl, ?_⟩
    replace BK323 := AM_ (BB BK323.out hb)
    replace HB := AM_ (below_step (BT HB.out) hb)
    (try clear hb)
    (try clear hb2)
    (try clear hk)
    (try clear hi)
    refine hK.out _ _ ⟨bc BK323.out 0, bc BK323.out 1, (BD HB.out hw326_0), (BD HB.out hw326_1)⟩ (fun hHeld => ?_)
    clear hK K
    refine norm_ (a' := ?_) ?_ ?_
    rotate_left
    ·show Act.put _ (some 32) _ = _
     simp only[pA,pS,pZ,pK,pV]
     rfl
    refine pu (i := 21) (N := some 33) (v := ?_) (a' := ?_) (bs 4194303 24) rfl rfl HT_ ?_ ?_ ?_
    rotate_left
    ·intro w'
     go_simp
     with_reducible rfl
    rotate_left
    ·simp only[pA,pS,pZ,pK,pV]
     rfl
    refine pu (i := 22) (N := some 34) (v := ?_) (a' := ?_) (bs 8388607 24) rfl rfl HT_ ?_ ?_ ?_
    rotate_left
    ·intro w'
     go_simp
     with_reducible rfl
    rotate_left
    ·simp only[pA,pS,pZ,pK,pV]
     rfl
    refine pu (i := 23) (N := some 35) (v := ?_) (a' := ?_) (bs 16777215 24) rfl rfl HT_ ?_ ?_ ?_
    rotate_left
    ·intro w'
     go_simp
     with_reducible rfl
    rotate_left
    ·simp only[pA,pS,pZ,pK,pV]
     rfl
    refine done_ (done_of HT_.out (by kernel_rfl)) ?_
    try go_wp2
    go_meet
    case rel => exact ⟨_, (decide (t327 ≥ 0)), (by first | rfl | (simp; done) | (simp [*]; done)), H', ⟨by have := HK1.out; first | omega | exact Nat.le_refl _⟩, ⟨BH BK323.out⟩, ⟨BT HB.out⟩⟩
   case rest =>
    clear HC5
    try clear c1
    try clear p2
    try clear c3
    try clear c9
    try clear c11
    try clear c12
    try clear c12b0
    try clear c14
    try clear c15
    obtain ⟨kq, x35_4, rfl, HA, HJ4, BK323, HB⟩ := hcut
    cases kq with
    | zero => exact absurd HA.out (by simp [impl_areReads.j1])
    | succ kj4 =>
     have H := HA.out
     clear HA
     simp only [impl_areReads.j1] at H
     by_cases c26 : x35_4 = true
     ·subst c26
      have H1 : (some false) = some r := by rw [if_pos rfl] at H; exact H
      clear H
      have H := H1
      clear H1
      obtain rfl := Option.some.inj H
      go_wp2
      go_ret
      exact QT (BT HB.out)
     replace c26 := Bool.eq_false_iff.mpr c26
     subst c26
     have H1 : (impl_areReads.l0 kj4 l0 l0 (l0.length : Int) (wrap64 (x7_1 + 1))) = some r := by rw [if_neg (show ¬ (false = true) by decide)] at H; exact H
     clear H
     have H := H1
     clear H1
     have H' := AM_ H
     clear H
     go_wp2
     go_roundg kj4
     case measure => have := HK1.out; have := HJ4.out; omega
     case rel => exact ⟨(wrap64 (x7_1 + 1)), (by first | rfl | (simp; done) | (simp [*]; done)), H', ⟨by have := HK1.out; have := HJ4.out; omega⟩, ⟨BT HB.out⟩⟩

end Go.Proofs.YtdfbmaiboadodaaGreatDoor.PFnExactParseHistory
