-- Printed by a program of mine (wip/myprint.py), which runs the printer of the kit with contracts of mine beside it.
import Derived.Test.YtgpmfkmdchcagaaDoorPFnExactFormatHistoryx0
import Derived.Test.YtgpmfkmdchcagaaDoorPFnExactFormatHistoryx14
namespace Go.Proofs.YtgpmfkmdchcagaaDoor.PFnExactFormatHistory
open Go.RowKit Go.Proofs.YtgpmfkmdchcagaaDoorW.PrintWords Go.Proofs.YtgpmfkmdchcagaaDoorW.PrintLast Go.Proofs.YtgpmfkmdchcagaaDoorW.PrintMore
attribute [local go_sem] max2_int min2_int max_two min_two max_three min_three max_four min_four   -- for this text's walks alone
set_option linter.unusedVariables false
set_option linter.unusedSimpArgs false

/-! ### laws_eqWrite: function 85 -/
def laws_eqWrite.f (a0_0 : Int) (a0_1 : Int) (a1_0 : Int) (a1_1 : Int) : Option (Bool) := if a0_0 = a1_0 then (if a0_1 = a1_1 then (some true) else (some false)) else (some false)
set_option maxHeartbeats 8000000 in
set_option maxRecDepth 100000 in
theorem laws_eqWrite.calls (a0_0 : Int) (a0_1 : Int) (a1_0 : Int) (a1_1 : Int) (r : Bool) (w : World) (h : laws_eqWrite.f a0_0 a0_1 a1_0 a1_1 = some r) :
  Calls Tryd.prog 85 #[.agg #[.int .i64 a0_0, .int .i64 a0_1], .agg #[.int .i64 a1_0, .int .i64 a1_1]] w fun e w' => e = .returned (.bool r) ∧ Below w.heap.size w w' := by
 have hu57 := Tryd.underlying57
 have HB := AM_ (Below.refl w.heap.size w)
 have H : (if a0_0 = a1_0 then (if a0_1 = a1_1 then (some true) else (some false)) else (some false)) = some r := h
 clear h
 by_cases c3 : a0_0 = a1_0
 rotate_left
 ·rw [if_neg c3] at H
  have c3b0 : (a0_0 == a1_0) = false := beq_eq_false_iff_ne.mpr c3
  have c3b1 : (a0_0 != a1_0) = true := bne_iff_ne.mpr c3
  obtain rfl := Option.some.inj H
  go_enter Tryd.func85, Tryd.ntmps85
  go_wp2_with (first | ((with_reducible refine gate_dst (N := 2) rfl ?_); refine box_event ?hg (N := 2) ?hd (cs := #[.int .i64 a0_0, .int .i64 a0_1]) (t := 57) ?hr ?_; (case hd => rfl); (case hg => rfl); (case hr => first | (go_simp; done) | (go_simp; rfl)); intro gb315 hg w15 hbox hb; have BK315 := AM_ (hbox); have GW315 := AM_ ((GS HB.out hg)); have GE315 := AM_ ((GS HB.out hg)); replace HB := AM_ (below_step (BT HB.out) hb); clear hb hbox hg) | ((with_reducible refine gate_dst (N := 3) rfl ?_); refine box_event ?hg (N := 3) ?hd (cs := #[.int .i64 a1_0, .int .i64 a1_1]) (t := 57) ?hr ?_; (case hd => rfl); (case hg => rfl); (case hr => first | (go_simp; done) | (go_simp; rfl)); intro gb316 hg w16 hbox hb; have BK316 := AM_ (hbox); have GW316 := AM_ ((GS HB.out hg)); have GE316 := AM_ ((GS HB.out hg)); replace HB := AM_ (below_step (BT HB.out) hb); have NB315_316 := AM_ ((NL BK315.out hg)); have NB316_315 := AM_ ((NG BK315.out hg)); replace BK315 := AM_ (BB BK315.out hb); clear hb hbox hg; have hnb17 := NB315_316.out; have hnc17 := NB316_315.out; obtain ⟨hcz18_0, hcz18_1, hfz18_0, hfz18_1⟩ := bk2 BK315.out; obtain ⟨hcz19_0, hcz19_1, hfz19_0, hfz19_1⟩ := bk2 BK316.out))
  go_ret
  exact QT (BT HB.out)
 rw [if_pos c3] at H
 have c3b0 : (a0_0 == a1_0) = true := beq_iff_eq.mpr c3
 have c3b1 : (a0_0 != a1_0) = false := bne_eq_false_iff_eq.mpr c3
 clear c3
 by_cases c4 : a0_1 = a1_1
 ·rw [if_pos c4] at H
  have c4b0 : (a0_1 == a1_1) = true := beq_iff_eq.mpr c4
  have c4b1 : (a0_1 != a1_1) = false := bne_eq_false_iff_eq.mpr c4
  clear c4
  obtain rfl := Option.some.inj H
  go_enter Tryd.func85, Tryd.ntmps85
  go_wp2_with (first | ((with_reducible refine gate_dst (N := 2) rfl ?_); refine box_event ?hg (N := 2) ?hd (cs := #[.int .i64 a0_0, .int .i64 a0_1]) (t := 57) ?hr ?_; (case hd => rfl); (case hg => rfl); (case hr => first | (go_simp; done) | (go_simp; rfl)); intro gb315 hg w5 hbox hb; have BK315 := AM_ (hbox); have GW315 := AM_ ((GS HB.out hg)); have GE315 := AM_ ((GS HB.out hg)); replace HB := AM_ (below_step (BT HB.out) hb); clear hb hbox hg) | ((with_reducible refine gate_dst (N := 3) rfl ?_); refine box_event ?hg (N := 3) ?hd (cs := #[.int .i64 a1_0, .int .i64 a1_1]) (t := 57) ?hr ?_; (case hd => rfl); (case hg => rfl); (case hr => first | (go_simp; done) | (go_simp; rfl)); intro gb316 hg w6 hbox hb; have BK316 := AM_ (hbox); have GW316 := AM_ ((GS HB.out hg)); have GE316 := AM_ ((GS HB.out hg)); replace HB := AM_ (below_step (BT HB.out) hb); have NB315_316 := AM_ ((NL BK315.out hg)); have NB316_315 := AM_ ((NG BK315.out hg)); replace BK315 := AM_ (BB BK315.out hb); clear hb hbox hg; have hnb7 := NB315_316.out; have hnc7 := NB316_315.out; obtain ⟨hcz8_0, hcz8_1, hfz8_0, hfz8_1⟩ := bk2 BK315.out; obtain ⟨hcz9_0, hcz9_1, hfz9_0, hfz9_1⟩ := bk2 BK316.out))
  go_ret
  exact QT (BT HB.out)
 rw [if_neg c4] at H
 have c4b0 : (a0_1 == a1_1) = false := beq_eq_false_iff_ne.mpr c4
 have c4b1 : (a0_1 != a1_1) = true := bne_iff_ne.mpr c4
 obtain rfl := Option.some.inj H
 go_enter Tryd.func85, Tryd.ntmps85
 go_wp2_with (first | ((with_reducible refine gate_dst (N := 2) rfl ?_); refine box_event ?hg (N := 2) ?hd (cs := #[.int .i64 a0_0, .int .i64 a0_1]) (t := 57) ?hr ?_; (case hd => rfl); (case hg => rfl); (case hr => first | (go_simp; done) | (go_simp; rfl)); intro gb315 hg w10 hbox hb; have BK315 := AM_ (hbox); have GW315 := AM_ ((GS HB.out hg)); have GE315 := AM_ ((GS HB.out hg)); replace HB := AM_ (below_step (BT HB.out) hb); clear hb hbox hg) | ((with_reducible refine gate_dst (N := 3) rfl ?_); refine box_event ?hg (N := 3) ?hd (cs := #[.int .i64 a1_0, .int .i64 a1_1]) (t := 57) ?hr ?_; (case hd => rfl); (case hg => rfl); (case hr => first | (go_simp; done) | (go_simp; rfl)); intro gb316 hg w11 hbox hb; have BK316 := AM_ (hbox); have GW316 := AM_ ((GS HB.out hg)); have GE316 := AM_ ((GS HB.out hg)); replace HB := AM_ (below_step (BT HB.out) hb); have NB315_316 := AM_ ((NL BK315.out hg)); have NB316_315 := AM_ ((NG BK315.out hg)); replace BK315 := AM_ (BB BK315.out hb); clear hb hbox hg; have hnb12 := NB315_316.out; have hnc12 := NB316_315.out; obtain ⟨hcz13_0, hcz13_1, hfz13_0, hfz13_1⟩ := bk2 BK315.out; obtain ⟨hcz14_0, hcz14_1, hfz14_0, hfz14_1⟩ := bk2 BK316.out))
 go_ret
 exact QT (BT HB.out)

/-! ### laws_eqWriteS: function 57 -/
def laws_eqWriteS.l0 : Nat → List (S57) → List (S57) → Int → Option (Bool)
 | 0, _, _, _ => none
 | k + 1, x0, x1, x5 => if x5 < (x0.length : Int) then (if 0 ≤ x5 then (if x5 < (x1.length : Int) then ((laws_eqWrite.f ((rd_T57 x0 x5).f0) ((rd_T57 x0 x5).f1) ((rd_T57 x1 x5).f0) ((rd_T57 x1 x5).f1)).bind fun t319 => (if t319 = true then (laws_eqWriteS.l0 k x0 x1 (wrap64 (x5 + 1))) else (some false))) else (none)) else (none)) else (some true)
def laws_eqWriteS.f (k : Nat) (l0 : List (S57)) (l1 : List (S57)) : Option (Bool) := if (l0.length : Int) = (l1.length : Int) then (laws_eqWriteS.l0 k l0 l1 0) else (some false)
theorem laws_eqWriteS.mono_l : ∀ k, (∀ y0 y1 y2, LeO (laws_eqWriteS.l0 k y0 y1 y2) (laws_eqWriteS.l0 (k + 1) y0 y1 y2))
 | 0 => fun _ _ _ r h => by simp [laws_eqWriteS.l0] at h
 | k + 1 => by
  have ih0 := laws_eqWriteS.mono_l k
  ·intro y0 y1 y2
   unfold laws_eqWriteS.l0
   repeat' first
   | (with_reducible exact ih0 _ _ _)
   | (with_reducible exact LeO.refl _)
   | (with_reducible exact LeO.none _)
   | (with_reducible refine LeO.ite ?_ ?_)
   | (with_reducible refine LeO.bind ?_ (fun _ => ?_))
   | exact ih0 _ _ _
   | exact LeO.none _
   | refine LeO.ite ?_ ?_
   | refine LeO.bind ?_ (fun _ => ?_)
theorem laws_eqWriteS.mono : ∀ a0 a1 k, LeO (laws_eqWriteS.f k a0 a1) (laws_eqWriteS.f (k + 1) a0 a1) := by
 intro a0 a1 k
 have ih0 := laws_eqWriteS.mono_l k
 unfold laws_eqWriteS.f
 repeat' first
   | (with_reducible exact ih0 _ _ _)
   | (with_reducible exact LeO.refl _)
   | (with_reducible exact LeO.none _)
   | (with_reducible refine LeO.ite ?_ ?_)
   | (with_reducible refine LeO.bind ?_ (fun _ => ?_))
   | exact ih0 _ _ _
   | exact LeO.none _
   | refine LeO.ite ?_ ?_
   | refine LeO.bind ?_ (fun _ => ?_)
def laws_eqWriteS.T6 : Bool × List (List Nat × List Nat) := (true, [([], []), ([], []), ([0, 1], [0, 1]), ([2], [2]), ([], []), ([], []), ([4, 5], [4, 5]), ([6], [6]), ([3, 7], [3, 7]), ([8], [8])])
def laws_eqWriteS.B6 : List Nat := [0, 0, 3, 7, 0, 0, 48, 112, 255, 511]
theorem laws_eqWriteS.tab6 : rtab .any (opsOf Tryd.f57 6) = laws_eqWriteS.T6 := by kernel_rfl
theorem laws_eqWriteS.bits6 : waitsOk laws_eqWriteS.T6.2 laws_eqWriteS.B6 = true := by kernel_rfl
set_option maxHeartbeats 8000000 in
set_option maxRecDepth 100000 in
theorem laws_eqWriteS.calls (k : Nat) (A0 : Option Addr) (c0 : Nat) (l0 : List (S57)) (A1 : Option Addr) (c1 : Nat) (l1 : List (S57)) (r : Bool) (w : World) (hr0 : Kd.C k57 w A0 l0.length l0) (hc0 : l0.length ≤ c0) (hr1 : Kd.C k57 w A1 l1.length l1) (hc1 : l1.length ≤ c1) (h : laws_eqWriteS.f k l0 l1 = some r) :
  Calls Tryd.prog 57 #[.slice A0 l0.length c0, .slice A1 l1.length c1] w fun e w' => e = .returned (.bool r) ∧ Below w.heap.size w w' := by
 have hu57 := Tryd.underlying57
 have HR0 := AM_ hr0
 have HC0 := AM_ hc0
 clear hr0 hc0
 have HR1 := AM_ hr1
 have HC1 := AM_ hc1
 clear hr1 hc1
 have HB := AM_ (Below.refl w.heap.size w)
 have H : (if (l0.length : Int) = (l1.length : Int) then (laws_eqWriteS.l0 k l0 l1 0) else (some false)) = some r := h
 clear h
 by_cases c3 : (l0.length : Int) = (l1.length : Int)
 rotate_left
 ·rw [if_neg c3] at H
  have c3b0 : ((l0.length : Int) == (l1.length : Int)) = false := beq_eq_false_iff_ne.mpr c3
  have c3b1 : ((l0.length : Int) != (l1.length : Int)) = true := bne_iff_ne.mpr c3
  have c3b2 : (l0.length == l1.length) = false := by first | simpa using c3 | (simp at c3 ⊢; omega)
  obtain rfl := Option.some.inj H
  go_enter Tryd.func57, Tryd.ntmps57
  go_wp2
  go_ret
  exact QT (BT HB.out)
 rw [if_pos c3] at H
 have c3b0 : ((l0.length : Int) == (l1.length : Int)) = true := beq_iff_eq.mpr c3
 have c3b1 : ((l0.length : Int) != (l1.length : Int)) = false := bne_eq_false_iff_eq.mpr c3
 have c3b2 : (l0.length == l1.length) = true := by first | simpa using c3 | (simp at c3 ⊢; omega)
 clear c3
 have H' := AM_ H
 clear H
 go_enter Tryd.func57, Tryd.ntmps57
 go_wp2
 go_loopg [5] k (fun kq v5 w' => ∃ (x5_1 : Int), v5 = .int .i64 x5_1 ∧ Aside0 (laws_eqWriteS.l0 kq l0 l1 x5_1 = some r) ∧ Aside0 (kq ≤ k) ∧ Aside0 (Below w.heap.size w w'))
 case atStart => exact ⟨(0), (by first | rfl | (simp; done) | (simp [*]; done)), H', ⟨Nat.le_refl _⟩, ⟨BT HB.out⟩⟩
 case round =>
  clear H'
  try clear c1
  try clear p2
  try clear c3
  try clear c3b0
  try clear c3b1
  try clear c3b2
  obtain ⟨x5_1, rfl, HA, HK1, HB⟩ := hrel
  cases gk with
  | zero => exact absurd HA.out (by simp [laws_eqWriteS.l0])
  | succ k1 =>
   have H := HA.out
   clear HA
   simp only [laws_eqWriteS.l0] at H
   by_cases c4 : x5_1 < (l0.length : Int)
   rotate_left
   ·rw [if_neg c4] at H
    have c4b0 : decide (x5_1 < (l0.length : Int)) = false := decide_eq_false c4
    clear c4
    obtain rfl := Option.some.inj H
    go_wp2
    go_ret
    exact QT (BT HB.out)
   rw [if_pos c4] at H
   have c4b0 : decide (x5_1 < (l0.length : Int)) = true := decide_eq_true c4
   clear c4
   by_cases c5 : 0 ≤ x5_1
   rotate_left
   ·rw [if_neg c5] at H
    exact absurd H (by simp)
   rw [if_pos c5] at H
   have c5b0 : decide (0 ≤ x5_1) = true := decide_eq_true c5
   clear c5
   by_cases c6 : x5_1 < (l1.length : Int)
   rotate_left
   ·rw [if_neg c6] at H
    exact absurd H (by simp)
   rw [if_pos c6] at H
   have c6b0 : decide (x5_1 < (l1.length : Int)) = true := decide_eq_true c6
   clear c6
   replace H := Option.bind_eq_some_iff.mp H
   obtain ⟨t319, A70, H⟩ := H
   replace H : (if t319 = true then (laws_eqWriteS.l0 k1 l0 l1 (wrap64 (x5_1 + 1))) else (some false)) = some r := H
   have A7 := AM_ A70
   clear A70
   by_cases c8 : t319 = true
   rotate_left
   ·replace c8 := Bool.eq_false_iff.mpr c8
    subst c8
    have H1 : (some false) = some r := by rw [if_neg (show ¬ (false = true) by decide)] at H; exact H
    clear H
    have H := H1
    clear H1
    obtain rfl := Option.some.inj H
    try go_wp2
    replace HB := AM_ (below_drew1 HB.out)
    have p317 : 0 ≤ (x5_1 : Int) := DT
    have q317 : x5_1 < (l0.length : Int) := DT
    obtain ⟨ad317, e317, hx317_0, hx317_1⟩ := at_T57 HR0.out x5_1 p317 q317
    have hw317_1 := hx317_1
    have hw317_0 := hx317_0
    cases e317
    replace hx317_0 := BC HB.out hx317_0
    replace hx317_1 := BC HB.out hx317_1
    replace p317 := eq_true p317
    replace q317 := eq_true q317
    have p318 : 0 ≤ (x5_1 : Int) := DT
    have q318 : x5_1 < (l1.length : Int) := DT
    obtain ⟨ad318, e318, hx318_0, hx318_1⟩ := at_T57 HR1.out x5_1 p318 q318
    have hw318_1 := hx318_1
    have hw318_0 := hx318_0
    cases e318
    replace hx318_0 := BC HB.out hx318_0
    replace hx318_1 := BC HB.out hx318_1
    replace p318 := eq_true p318
    replace q318 := eq_true q318
    refine start_ (n := 10) (S := fun w' => w'.cell? (ad317.add ((x5_1).toNat * 2)) = some (.int .i64 ((rd_T57 l0 x5_1).f0)) ∧ w'.cell? ⟨(ad317.add ((x5_1).toNat * 2)).block, (ad317.add ((x5_1).toNat * 2)).off + 1, none⟩ = some (.int .i64 ((rd_T57 l0 x5_1).f1)) ∧ w'.cell? (ad318.add ((x5_1).toNat * 2)) = some (.int .i64 ((rd_T57 l1 x5_1).f0)) ∧ w'.cell? ⟨(ad318.add ((x5_1).toNat * 2)).block, (ad318.add ((x5_1).toNat * 2)).off + 1, none⟩ = some (.int .i64 ((rd_T57 l1 x5_1).f1))) (ds := []) (bs 0 10) (by kernel_rfl) rfl rfl ⟨(BD HB.out hw317_0), (BD HB.out hw317_1), (BD HB.out hw318_0), (BD HB.out hw318_1)⟩ (fun hHeld => ?_); refine with_tabW laws_eqWriteS.tab6 laws_eqWriteS.bits6 (fun HT_ HW_ => ?_)
    generalize wr.drew = w11 at HB hx317_0 hx317_1 hx318_0 hx318_1 hHeld ⊢
    refine pu (i := 0) (N := some 17) (v := ?_) (a' := ?_) (bs 1 10) rfl rfl HT_ ?_ ?_ ?_
    rotate_left
    ·intro w'
     go_simp
     with_reducible rfl
    rotate_left
    ·simp only [pA, pS, pZ, pK, i64_w, i32_w]
     rfl
    refine pu (i := 1) (N := some 18) (v := ?_) (a' := ?_) (bs 3 10) rfl rfl HT_ ?_ ?_ ?_
    rotate_left
    ·intro w'
     go_simp
     with_reducible rfl
    rotate_left
    ·simp only [pA, pS, pZ, pK, i64_w, i32_w]
     rfl
    refine pu (i := 2) (N := some 19) (v := ?_) (a' := ?_) (bs 7 10) rfl rfl HT_ ?_ ?_ ?_
    rotate_left
    ·intro w'
     go_simp
     with_reducible rfl
    rotate_left
    ·simp only [pA, pS, pZ, pK, i64_w, i32_w]
     rfl
    refine pu (i := 4) (N := some 21) (v := ?_) (a' := ?_) (bs 23 10) rfl rfl HT_ ?_ ?_ ?_
    rotate_left
    ·intro w'
     go_simp
     with_reducible rfl
    rotate_left
    ·simp only [pA, pS, pZ, pK, i64_w, i32_w]
     rfl
    refine pu (i := 5) (N := some 22) (v := ?_) (a' := ?_) (bs 55 10) rfl rfl HT_ ?_ ?_ ?_
    rotate_left
    ·intro w'
     go_simp
     with_reducible rfl
    rotate_left
    ·simp only [pA, pS, pZ, pK, i64_w, i32_w]
     rfl
    refine pu (i := 6) (N := some 23) (v := ?_) (a' := ?_) (bs 119 10) rfl rfl HT_ ?_ ?_ ?_
    rotate_left
    ·intro w'
     go_simp
     with_reducible rfl
    rotate_left
    ·simp only [pA, pS, pZ, pK, i64_w, i32_w]
     rfl
    refine tk (i := 3) (N := some 20) (v := ?_) (a' := ?_) (bs 127 10) rfl rfl HT_ HW_ ?_ hHeld ?_ ?_
    rotate_left
    ·rintro w' ⟨s0, s1, s2, s3⟩
     go_simp
     with_reducible rfl
    rotate_left
    ·simp only [pA, pS, pZ, pK, i64_w, i32_w]
     rfl
    refine tk (i := 7) (N := some 24) (v := ?_) (a' := ?_) (bs 255 10) rfl rfl HT_ HW_ ?_ hHeld ?_ ?_
    rotate_left
    ·rintro w' ⟨s0, s1, s2, s3⟩
     go_simp
     with_reducible rfl
    rotate_left
    ·simp only [pA, pS, pZ, pK, i64_w, i32_w]
     rfl
    refine one_ (i := 8) (N := some 25) (bs 511 10) rfl rfl (one_of HT_.out (by kernel_rfl)) (by decide) (fun K hK => ?_)
    refine goes_ Tryd.func85 (by kernel_rfl) rfl #[.agg #[.int .i64 ((rd_T57 l0 x5_1).f0), .int .i64 ((rd_T57 l0 x5_1).f1)], .agg #[.int .i64 ((rd_T57 l1 x5_1).f0), .int .i64 ((rd_T57 l1 x5_1).f1)]] (by rfl) rfl rfl (by (try simp only [List.map_toArray, List.map_cons, List.map_nil]); first | done | rfl | (simp only [List.length_drop, List.length_take]; rfl)) ?_
    with_reducible refine (laws_eqWrite.calls ((rd_T57 l0 x5_1).f0) ((rd_T57 l0 x5_1).f1) ((rd_T57 l1 x5_1).f0) ((rd_T57 l1 x5_1).f1) false _ A7.out).mono ?_
    rintro e w12 ⟨rfl, hb⟩
    refine ⟨_, rfl, ?_⟩
    replace HB := AM_ (below_step (BT HB.out) hb)
    (try clear hb)
    (try clear hb2)
    (try clear hk)
    (try clear hi)
    refine hK.out _ _ ⟨(BD HB.out hw317_0), (BD HB.out hw317_1), (BD HB.out hw318_0), (BD HB.out hw318_1)⟩ (fun hHeld => ?_)
    clear hK K
    refine norm_ (a' := ?_) ?_ ?_
    rotate_left
    ·show Act.put _ (some 25) _ = _
     simp only [pA, pS, pZ, pK, i64_w, i32_w]
     rfl
    refine pu (i := 9) (N := some 26) (v := ?_) (a' := ?_) (bs 1023 10) rfl rfl HT_ ?_ ?_ ?_
    rotate_left
    ·intro w'
     go_simp
     with_reducible rfl
    rotate_left
    ·simp only [pA, pS, pZ, pK, i64_w, i32_w]
     rfl
    refine done_ (done_of HT_.out (by kernel_rfl)) ?_
    try go_wp2
    go_ret
    exact QT (BT HB.out)
   subst c8
   have H1 : (laws_eqWriteS.l0 k1 l0 l1 (wrap64 (x5_1 + 1))) = some r := by rw [if_pos rfl] at H; exact H
   clear H
   have H := H1
   clear H1
   have H' := AM_ H
   clear H
   try go_wp2
   replace HB := AM_ (below_drew1 HB.out)
   have p317 : 0 ≤ (x5_1 : Int) := DT
   have q317 : x5_1 < (l0.length : Int) := DT
   obtain ⟨ad317, e317, hx317_0, hx317_1⟩ := at_T57 HR0.out x5_1 p317 q317
   have hw317_1 := hx317_1
   have hw317_0 := hx317_0
   cases e317
   replace hx317_0 := BC HB.out hx317_0
   replace hx317_1 := BC HB.out hx317_1
   replace p317 := eq_true p317
   replace q317 := eq_true q317
   have p318 : 0 ≤ (x5_1 : Int) := DT
   have q318 : x5_1 < (l1.length : Int) := DT
   obtain ⟨ad318, e318, hx318_0, hx318_1⟩ := at_T57 HR1.out x5_1 p318 q318
   have hw318_1 := hx318_1
   have hw318_0 := hx318_0
   cases e318
   replace hx318_0 := BC HB.out hx318_0
   replace hx318_1 := BC HB.out hx318_1
   replace p318 := eq_true p318
   replace q318 := eq_true q318
   refine start_ (n := 10) (S := fun w' => w'.cell? (ad317.add ((x5_1).toNat * 2)) = some (.int .i64 ((rd_T57 l0 x5_1).f0)) ∧ w'.cell? ⟨(ad317.add ((x5_1).toNat * 2)).block, (ad317.add ((x5_1).toNat * 2)).off + 1, none⟩ = some (.int .i64 ((rd_T57 l0 x5_1).f1)) ∧ w'.cell? (ad318.add ((x5_1).toNat * 2)) = some (.int .i64 ((rd_T57 l1 x5_1).f0)) ∧ w'.cell? ⟨(ad318.add ((x5_1).toNat * 2)).block, (ad318.add ((x5_1).toNat * 2)).off + 1, none⟩ = some (.int .i64 ((rd_T57 l1 x5_1).f1))) (ds := []) (bs 0 10) (by kernel_rfl) rfl rfl ⟨(BD HB.out hw317_0), (BD HB.out hw317_1), (BD HB.out hw318_0), (BD HB.out hw318_1)⟩ (fun hHeld => ?_); refine with_tabW laws_eqWriteS.tab6 laws_eqWriteS.bits6 (fun HT_ HW_ => ?_)
   generalize wr.drew = w9 at HB hx317_0 hx317_1 hx318_0 hx318_1 hHeld ⊢
   refine pu (i := 0) (N := some 17) (v := ?_) (a' := ?_) (bs 1 10) rfl rfl HT_ ?_ ?_ ?_
   rotate_left
   ·intro w'
    go_simp
    with_reducible rfl
   rotate_left
   ·simp only [pA, pS, pZ, pK, i64_w, i32_w]
    rfl
   refine pu (i := 1) (N := some 18) (v := ?_) (a' := ?_) (bs 3 10) rfl rfl HT_ ?_ ?_ ?_
   rotate_left
   ·intro w'
    go_simp
    with_reducible rfl
   rotate_left
   ·simp only [pA, pS, pZ, pK, i64_w, i32_w]
    rfl
   refine pu (i := 2) (N := some 19) (v := ?_) (a' := ?_) (bs 7 10) rfl rfl HT_ ?_ ?_ ?_
   rotate_left
   ·intro w'
    go_simp
    with_reducible rfl
   rotate_left
   ·simp only [pA, pS, pZ, pK, i64_w, i32_w]
    rfl
   refine pu (i := 4) (N := some 21) (v := ?_) (a' := ?_) (bs 23 10) rfl rfl HT_ ?_ ?_ ?_
   rotate_left
   ·intro w'
    go_simp
    with_reducible rfl
   rotate_left
   ·simp only [pA, pS, pZ, pK, i64_w, i32_w]
    rfl
   refine pu (i := 5) (N := some 22) (v := ?_) (a' := ?_) (bs 55 10) rfl rfl HT_ ?_ ?_ ?_
   rotate_left
   ·intro w'
    go_simp
    with_reducible rfl
   rotate_left
   ·simp only [pA, pS, pZ, pK, i64_w, i32_w]
    rfl
   refine pu (i := 6) (N := some 23) (v := ?_) (a' := ?_) (bs 119 10) rfl rfl HT_ ?_ ?_ ?_
   rotate_left
   ·intro w'
    go_simp
    with_reducible rfl
   rotate_left
   ·simp only [pA, pS, pZ, pK, i64_w, i32_w]
    rfl
   refine tk (i := 3) (N := some 20) (v := ?_) (a' := ?_) (bs 127 10) rfl rfl HT_ HW_ ?_ hHeld ?_ ?_
   rotate_left
   ·rintro w' ⟨s0, s1, s2, s3⟩
    go_simp
    with_reducible rfl
   rotate_left
   ·simp only [pA, pS, pZ, pK, i64_w, i32_w]
    rfl
   refine tk (i := 7) (N := some 24) (v := ?_) (a' := ?_) (bs 255 10) rfl rfl HT_ HW_ ?_ hHeld ?_ ?_
   rotate_left
   ·rintro w' ⟨s0, s1, s2, s3⟩
    go_simp
    with_reducible rfl
   rotate_left
   ·simp only [pA, pS, pZ, pK, i64_w, i32_w]
    rfl
   refine one_ (i := 8) (N := some 25) (bs 511 10) rfl rfl (one_of HT_.out (by kernel_rfl)) (by decide) (fun K hK => ?_)
   refine goes_ Tryd.func85 (by kernel_rfl) rfl #[.agg #[.int .i64 ((rd_T57 l0 x5_1).f0), .int .i64 ((rd_T57 l0 x5_1).f1)], .agg #[.int .i64 ((rd_T57 l1 x5_1).f0), .int .i64 ((rd_T57 l1 x5_1).f1)]] (by rfl) rfl rfl (by (try simp only [List.map_toArray, List.map_cons, List.map_nil]); first | done | rfl | (simp only [List.length_drop, List.length_take]; rfl)) ?_
   with_reducible refine (laws_eqWrite.calls ((rd_T57 l0 x5_1).f0) ((rd_T57 l0 x5_1).f1) ((rd_T57 l1 x5_1).f0) ((rd_T57 l1 x5_1).f1) true _ A7.out).mono ?_
   rintro e w10 ⟨rfl, hb⟩
   refine ⟨_, rfl, ?_⟩
   replace HB := AM_ (below_step (BT HB.out) hb)
   (try clear hb)
   (try clear hb2)
   (try clear hk)
   (try clear hi)
   refine hK.out _ _ ⟨(BD HB.out hw317_0), (BD HB.out hw317_1), (BD HB.out hw318_0), (BD HB.out hw318_1)⟩ (fun hHeld => ?_)
   clear hK K
   refine norm_ (a' := ?_) ?_ ?_
   rotate_left
   ·show Act.put _ (some 25) _ = _
    simp only [pA, pS, pZ, pK, i64_w, i32_w]
    rfl
   refine pu (i := 9) (N := some 26) (v := ?_) (a' := ?_) (bs 1023 10) rfl rfl HT_ ?_ ?_ ?_
   rotate_left
   ·intro w'
    go_simp
    with_reducible rfl
   rotate_left
   ·simp only [pA, pS, pZ, pK, i64_w, i32_w]
    rfl
   refine done_ (done_of HT_.out (by kernel_rfl)) ?_
   try go_wp2
   go_roundg k1
   case measure => have := HK1.out; omega
   case rel => exact ⟨(wrap64 (x5_1 + 1)), (by first | rfl | (simp; done) | (simp [*]; done)), H', ⟨by have := HK1.out; omega⟩, ⟨BT HB.out⟩⟩

/-! ### laws_eqEntry: function 30 -/
def laws_eqEntry.f (k : Nat) (a0_0 : Int) (a0_1 : Int) (l0_2 : List (S55)) (l0_3 : List (S57)) (a1_0 : Int) (a1_1 : Int) (l1_2 : List (S55)) (l1_3 : List (S57)) : Option (Bool) := if a0_0 = a1_0 then (if a0_1 = a1_1 then ((laws_eqReadMarkS.f k l0_2 l1_2).bind fun t322 => (if t322 = true then ((laws_eqWriteS.f k l0_3 l1_3).bind fun t323 => (if t323 = true then (some true) else (some false))) else (some false))) else (some false)) else (some false)
theorem laws_eqEntry.mono : ∀ a0 a1 a2 a3 a4 a5 a6 a7 k, LeO (laws_eqEntry.f k a0 a1 a2 a3 a4 a5 a6 a7) (laws_eqEntry.f (k + 1) a0 a1 a2 a3 a4 a5 a6 a7) := by
 intro a0 a1 a2 a3 a4 a5 a6 a7 k
 unfold laws_eqEntry.f
 repeat' first
   | (with_reducible exact laws_eqReadMarkS.mono _ _ _)
   | (with_reducible exact laws_eqWriteS.mono _ _ _)
   | (with_reducible exact LeO.refl _)
   | (with_reducible exact LeO.none _)
   | (with_reducible refine LeO.ite ?_ ?_)
   | (with_reducible refine LeO.bind ?_ (fun _ => ?_))
   | exact laws_eqReadMarkS.mono _ _ _
   | exact laws_eqWriteS.mono _ _ _
   | exact LeO.none _
   | refine LeO.ite ?_ ?_
   | refine LeO.bind ?_ (fun _ => ?_)
set_option maxHeartbeats 8000000 in
set_option maxRecDepth 100000 in
theorem laws_eqEntry.calls (k : Nat) (a0_0 : Int) (a0_1 : Int) (A0_2 : Option Addr) (c0_2 : Nat) (l0_2 : List (S55)) (A0_3 : Option Addr) (c0_3 : Nat) (l0_3 : List (S57)) (a1_0 : Int) (a1_1 : Int) (A1_2 : Option Addr) (c1_2 : Nat) (l1_2 : List (S55)) (A1_3 : Option Addr) (c1_3 : Nat) (l1_3 : List (S57)) (r : Bool) (w : World) (hr0_2 : Kd.C k55 w A0_2 l0_2.length l0_2) (hc0_2 : l0_2.length ≤ c0_2) (hr0_3 : Kd.C k57 w A0_3 l0_3.length l0_3) (hc0_3 : l0_3.length ≤ c0_3) (hr1_2 : Kd.C k55 w A1_2 l1_2.length l1_2) (hc1_2 : l1_2.length ≤ c1_2) (hr1_3 : Kd.C k57 w A1_3 l1_3.length l1_3) (hc1_3 : l1_3.length ≤ c1_3) (h : laws_eqEntry.f k a0_0 a0_1 l0_2 l0_3 a1_0 a1_1 l1_2 l1_3 = some r) :
  Calls Tryd.prog 30 #[.agg #[.int .i64 a0_0, .int .i64 a0_1, .slice A0_2 l0_2.length c0_2, .slice A0_3 l0_3.length c0_3], .agg #[.int .i64 a1_0, .int .i64 a1_1, .slice A1_2 l1_2.length c1_2, .slice A1_3 l1_3.length c1_3]] w fun e w' => e = .returned (.bool r) ∧ Below w.heap.size w w' := by
 have hu53 := Tryd.underlying53
 have HR0_2 := AM_ hr0_2
 have HC0_2 := AM_ hc0_2
 clear hr0_2 hc0_2
 have HR0_3 := AM_ hr0_3
 have HC0_3 := AM_ hc0_3
 clear hr0_3 hc0_3
 have HR1_2 := AM_ hr1_2
 have HC1_2 := AM_ hc1_2
 clear hr1_2 hc1_2
 have HR1_3 := AM_ hr1_3
 have HC1_3 := AM_ hc1_3
 clear hr1_3 hc1_3
 have HB := AM_ (Below.refl w.heap.size w)
 have H : (if a0_0 = a1_0 then (if a0_1 = a1_1 then ((laws_eqReadMarkS.f k l0_2 l1_2).bind fun t322 => (if t322 = true then ((laws_eqWriteS.f k l0_3 l1_3).bind fun t323 => (if t323 = true then (some true) else (some false))) else (some false))) else (some false)) else (some false)) = some r := h
 clear h
 by_cases c3 : a0_0 = a1_0
 rotate_left
 ·rw [if_neg c3] at H
  have c3b0 : (a0_0 == a1_0) = false := beq_eq_false_iff_ne.mpr c3
  have c3b1 : (a0_0 != a1_0) = true := bne_iff_ne.mpr c3
  obtain rfl := Option.some.inj H
  go_enter Tryd.func30, Tryd.ntmps30
  go_wp2_with (first | ((with_reducible refine gate_dst (N := 2) rfl ?_); refine box_event ?hg (N := 2) ?hd (cs := #[.int .i64 a0_0, .int .i64 a0_1, .slice A0_2 l0_2.length c0_2, .slice A0_3 l0_3.length c0_3]) (t := 53) ?hr ?_; (case hd => rfl); (case hg => rfl); (case hr => first | (go_simp; done) | (go_simp; rfl)); intro gb320 hg w38 hbox hb; have BK320 := AM_ (hbox); have GW320 := AM_ ((GS HB.out hg)); have GE320 := AM_ ((GS HB.out hg)); replace HB := AM_ (below_step (BT HB.out) hb); clear hb hbox hg) | ((with_reducible refine gate_dst (N := 3) rfl ?_); refine box_event ?hg (N := 3) ?hd (cs := #[.int .i64 a1_0, .int .i64 a1_1, .slice A1_2 l1_2.length c1_2, .slice A1_3 l1_3.length c1_3]) (t := 53) ?hr ?_; (case hd => rfl); (case hg => rfl); (case hr => first | (go_simp; done) | (go_simp; rfl)); intro gb321 hg w39 hbox hb; have BK321 := AM_ (hbox); have GW321 := AM_ ((GS HB.out hg)); have GE321 := AM_ ((GS HB.out hg)); replace HB := AM_ (below_step (BT HB.out) hb); have NB320_321 := AM_ ((NL BK320.out hg)); have NB321_320 := AM_ ((NG BK320.out hg)); replace BK320 := AM_ (BB BK320.out hb); clear hb hbox hg; have hnb40 := NB320_321.out; have hnc40 := NB321_320.out; obtain ⟨hcz41_0, hcz41_1, hcz41_2, hcz41_3, hfz41_0, hfz41_1, hfz41_2, hfz41_3⟩ := bk4 BK320.out; obtain ⟨hcz42_0, hcz42_1, hcz42_2, hcz42_3, hfz42_0, hfz42_1, hfz42_2, hfz42_3⟩ := bk4 BK321.out))
  go_ret
  exact QT (BT HB.out)
 rw [if_pos c3] at H
 have c3b0 : (a0_0 == a1_0) = true := beq_iff_eq.mpr c3
 have c3b1 : (a0_0 != a1_0) = false := bne_eq_false_iff_eq.mpr c3
 clear c3
 by_cases c4 : a0_1 = a1_1
 rotate_left
 ·rw [if_neg c4] at H
  have c4b0 : (a0_1 == a1_1) = false := beq_eq_false_iff_ne.mpr c4
  have c4b1 : (a0_1 != a1_1) = true := bne_iff_ne.mpr c4
  obtain rfl := Option.some.inj H
  go_enter Tryd.func30, Tryd.ntmps30
  go_wp2_with (first | ((with_reducible refine gate_dst (N := 2) rfl ?_); refine box_event ?hg (N := 2) ?hd (cs := #[.int .i64 a0_0, .int .i64 a0_1, .slice A0_2 l0_2.length c0_2, .slice A0_3 l0_3.length c0_3]) (t := 53) ?hr ?_; (case hd => rfl); (case hg => rfl); (case hr => first | (go_simp; done) | (go_simp; rfl)); intro gb320 hg w33 hbox hb; have BK320 := AM_ (hbox); have GW320 := AM_ ((GS HB.out hg)); have GE320 := AM_ ((GS HB.out hg)); replace HB := AM_ (below_step (BT HB.out) hb); clear hb hbox hg) | ((with_reducible refine gate_dst (N := 3) rfl ?_); refine box_event ?hg (N := 3) ?hd (cs := #[.int .i64 a1_0, .int .i64 a1_1, .slice A1_2 l1_2.length c1_2, .slice A1_3 l1_3.length c1_3]) (t := 53) ?hr ?_; (case hd => rfl); (case hg => rfl); (case hr => first | (go_simp; done) | (go_simp; rfl)); intro gb321 hg w34 hbox hb; have BK321 := AM_ (hbox); have GW321 := AM_ ((GS HB.out hg)); have GE321 := AM_ ((GS HB.out hg)); replace HB := AM_ (below_step (BT HB.out) hb); have NB320_321 := AM_ ((NL BK320.out hg)); have NB321_320 := AM_ ((NG BK320.out hg)); replace BK320 := AM_ (BB BK320.out hb); clear hb hbox hg; have hnb35 := NB320_321.out; have hnc35 := NB321_320.out; obtain ⟨hcz36_0, hcz36_1, hcz36_2, hcz36_3, hfz36_0, hfz36_1, hfz36_2, hfz36_3⟩ := bk4 BK320.out; obtain ⟨hcz37_0, hcz37_1, hcz37_2, hcz37_3, hfz37_0, hfz37_1, hfz37_2, hfz37_3⟩ := bk4 BK321.out))
  go_ret
  exact QT (BT HB.out)
 rw [if_pos c4] at H
 have c4b0 : (a0_1 == a1_1) = true := beq_iff_eq.mpr c4
 have c4b1 : (a0_1 != a1_1) = false := bne_eq_false_iff_eq.mpr c4
 clear c4
 replace H := Option.bind_eq_some_iff.mp H
 obtain ⟨t322, A50, H⟩ := H
 replace H : (if t322 = true then ((laws_eqWriteS.f k l0_3 l1_3).bind fun t323 => (if t323 = true then (some true) else (some false))) else (some false)) = some r := H
 have A5 := AM_ A50
 clear A50
 by_cases c6 : t322 = true
 rotate_left
 ·replace c6 := Bool.eq_false_iff.mpr c6
  subst c6
  have H1 : (some false) = some r := by rw [if_neg (show ¬ (false = true) by decide)] at H; exact H
  clear H
  have H := H1
  clear H1
  obtain rfl := Option.some.inj H
  go_enter Tryd.func30, Tryd.ntmps30
  go_wp2_with (first | ((with_reducible refine gate_dst (N := 2) rfl ?_); refine box_event ?hg (N := 2) ?hd (cs := #[.int .i64 a0_0, .int .i64 a0_1, .slice A0_2 l0_2.length c0_2, .slice A0_3 l0_3.length c0_3]) (t := 53) ?hr ?_; (case hd => rfl); (case hg => rfl); (case hr => first | (go_simp; done) | (go_simp; rfl)); intro gb320 hg w27 hbox hb; have BK320 := AM_ (hbox); have GW320 := AM_ ((GS HB.out hg)); have GE320 := AM_ ((GS HB.out hg)); replace HB := AM_ (below_step (BT HB.out) hb); clear hb hbox hg) | ((with_reducible refine gate_dst (N := 3) rfl ?_); refine box_event ?hg (N := 3) ?hd (cs := #[.int .i64 a1_0, .int .i64 a1_1, .slice A1_2 l1_2.length c1_2, .slice A1_3 l1_3.length c1_3]) (t := 53) ?hr ?_; (case hd => rfl); (case hg => rfl); (case hr => first | (go_simp; done) | (go_simp; rfl)); intro gb321 hg w28 hbox hb; have BK321 := AM_ (hbox); have GW321 := AM_ ((GS HB.out hg)); have GE321 := AM_ ((GS HB.out hg)); replace HB := AM_ (below_step (BT HB.out) hb); have NB320_321 := AM_ ((NL BK320.out hg)); have NB321_320 := AM_ ((NG BK320.out hg)); replace BK320 := AM_ (BB BK320.out hb); clear hb hbox hg; have hnb29 := NB320_321.out; have hnc29 := NB321_320.out; obtain ⟨hcz30_0, hcz30_1, hcz30_2, hcz30_3, hfz30_0, hfz30_1, hfz30_2, hfz30_3⟩ := bk4 BK320.out; obtain ⟨hcz31_0, hcz31_1, hcz31_2, hcz31_3, hfz31_0, hfz31_1, hfz31_2, hfz31_3⟩ := bk4 BK321.out) | ((with_reducible refine gate_callee (f := 56) rfl ?_); refine goesL_ (some 19) rfl rfl Tryd.func56 (by kernel_rfl) rfl #[.slice A0_2 l0_2.length c0_2, .slice A1_2 l1_2.length c1_2] rfl (by (try simp only [List.map_toArray, List.map_cons, List.map_nil]); first | done | rfl | (simp only [List.length_drop, List.length_take]; rfl)) ?_; (with_reducible refine (laws_eqReadMarkS.calls k _ _ l0_2 _ _ l1_2 false _ ?side1 ?side2 ?side3 ?side4 A5.out).mono ?_); (case side1 => exact CB HR0_2.out HB.out); (case side2 => exact HC0_2.out); (case side3 => exact CB HR1_2.out HB.out); (case side4 => exact HC1_2.out); rintro e w32 ⟨rfl, hb⟩; refine ⟨_, rfl, ?_⟩; replace BK320 := AM_ (BB BK320.out hb); replace BK321 := AM_ (BB BK321.out hb); replace HB := AM_ (below_step (BT HB.out) hb); (try clear hb); (try clear hb2); (try clear hk); (try clear hi)))
  go_ret
  exact QT (BT HB.out)
 subst c6
 have H1 : ((laws_eqWriteS.f k l0_3 l1_3).bind fun t323 => (if t323 = true then (some true) else (some false))) = some r := by rw [if_pos rfl] at H; exact H
 clear H
 have H := H1
 clear H1
 replace H := Option.bind_eq_some_iff.mp H
 obtain ⟨t323, A70, H⟩ := H
 replace H : (if t323 = true then (some true) else (some false)) = some r := H
 have A7 := AM_ A70
 clear A70
 by_cases c8 : t323 = true
 ·subst c8
  have H1 : (some true) = some r := by rw [if_pos rfl] at H; exact H
  clear H
  have H := H1
  clear H1
  obtain rfl := Option.some.inj H
  go_enter Tryd.func30, Tryd.ntmps30
  go_wp2_with (first | ((with_reducible refine gate_dst (N := 2) rfl ?_); refine box_event ?hg (N := 2) ?hd (cs := #[.int .i64 a0_0, .int .i64 a0_1, .slice A0_2 l0_2.length c0_2, .slice A0_3 l0_3.length c0_3]) (t := 53) ?hr ?_; (case hd => rfl); (case hg => rfl); (case hr => first | (go_simp; done) | (go_simp; rfl)); intro gb320 hg w9 hbox hb; have BK320 := AM_ (hbox); have GW320 := AM_ ((GS HB.out hg)); have GE320 := AM_ ((GS HB.out hg)); replace HB := AM_ (below_step (BT HB.out) hb); clear hb hbox hg) | ((with_reducible refine gate_dst (N := 3) rfl ?_); refine box_event ?hg (N := 3) ?hd (cs := #[.int .i64 a1_0, .int .i64 a1_1, .slice A1_2 l1_2.length c1_2, .slice A1_3 l1_3.length c1_3]) (t := 53) ?hr ?_; (case hd => rfl); (case hg => rfl); (case hr => first | (go_simp; done) | (go_simp; rfl)); intro gb321 hg w10 hbox hb; have BK321 := AM_ (hbox); have GW321 := AM_ ((GS HB.out hg)); have GE321 := AM_ ((GS HB.out hg)); replace HB := AM_ (below_step (BT HB.out) hb); have NB320_321 := AM_ ((NL BK320.out hg)); have NB321_320 := AM_ ((NG BK320.out hg)); replace BK320 := AM_ (BB BK320.out hb); clear hb hbox hg; have hnb11 := NB320_321.out; have hnc11 := NB321_320.out; obtain ⟨hcz12_0, hcz12_1, hcz12_2, hcz12_3, hfz12_0, hfz12_1, hfz12_2, hfz12_3⟩ := bk4 BK320.out; obtain ⟨hcz13_0, hcz13_1, hcz13_2, hcz13_3, hfz13_0, hfz13_1, hfz13_2, hfz13_3⟩ := bk4 BK321.out) | ((with_reducible refine gate_callee (f := 56) rfl ?_); refine goesL_ (some 19) rfl rfl Tryd.func56 (by kernel_rfl) rfl #[.slice A0_2 l0_2.length c0_2, .slice A1_2 l1_2.length c1_2] rfl (by (try simp only [List.map_toArray, List.map_cons, List.map_nil]); first | done | rfl | (simp only [List.length_drop, List.length_take]; rfl)) ?_; (with_reducible refine (laws_eqReadMarkS.calls k _ _ l0_2 _ _ l1_2 true _ ?side1 ?side2 ?side3 ?side4 A5.out).mono ?_); (case side1 => exact CB HR0_2.out HB.out); (case side2 => exact HC0_2.out); (case side3 => exact CB HR1_2.out HB.out); (case side4 => exact HC1_2.out); rintro e w14 ⟨rfl, hb⟩; refine ⟨_, rfl, ?_⟩; replace BK320 := AM_ (BB BK320.out hb); replace BK321 := AM_ (BB BK321.out hb); replace HB := AM_ (below_step (BT HB.out) hb); (try clear hb); (try clear hb2); (try clear hk); (try clear hi); obtain ⟨hcz15_0, hcz15_1, hcz15_2, hcz15_3, hfz15_0, hfz15_1, hfz15_2, hfz15_3⟩ := bk4 BK320.out; obtain ⟨hcz16_0, hcz16_1, hcz16_2, hcz16_3, hfz16_0, hfz16_1, hfz16_2, hfz16_3⟩ := bk4 BK321.out) | ((with_reducible refine gate_callee (f := 57) rfl ?_); refine goesL_ (some 25) rfl rfl Tryd.func57 (by kernel_rfl) rfl #[.slice A0_3 l0_3.length c0_3, .slice A1_3 l1_3.length c1_3] rfl (by (try simp only [List.map_toArray, List.map_cons, List.map_nil]); first | done | rfl | (simp only [List.length_drop, List.length_take]; rfl)) ?_; (with_reducible refine (laws_eqWriteS.calls k _ _ l0_3 _ _ l1_3 true _ ?side1 ?side2 ?side3 ?side4 A7.out).mono ?_); (case side1 => exact CB HR0_3.out HB.out); (case side2 => exact HC0_3.out); (case side3 => exact CB HR1_3.out HB.out); (case side4 => exact HC1_3.out); rintro e w17 ⟨rfl, hb⟩; refine ⟨_, rfl, ?_⟩; replace BK320 := AM_ (BB BK320.out hb); replace BK321 := AM_ (BB BK321.out hb); replace HB := AM_ (below_step (BT HB.out) hb); (try clear hb); (try clear hb2); (try clear hk); (try clear hi)))
  go_ret
  exact QT (BT HB.out)
 replace c8 := Bool.eq_false_iff.mpr c8
 subst c8
 have H1 : (some false) = some r := by rw [if_neg (show ¬ (false = true) by decide)] at H; exact H
 clear H
 have H := H1
 clear H1
 obtain rfl := Option.some.inj H
 go_enter Tryd.func30, Tryd.ntmps30
 go_wp2_with (first | ((with_reducible refine gate_dst (N := 2) rfl ?_); refine box_event ?hg (N := 2) ?hd (cs := #[.int .i64 a0_0, .int .i64 a0_1, .slice A0_2 l0_2.length c0_2, .slice A0_3 l0_3.length c0_3]) (t := 53) ?hr ?_; (case hd => rfl); (case hg => rfl); (case hr => first | (go_simp; done) | (go_simp; rfl)); intro gb320 hg w18 hbox hb; have BK320 := AM_ (hbox); have GW320 := AM_ ((GS HB.out hg)); have GE320 := AM_ ((GS HB.out hg)); replace HB := AM_ (below_step (BT HB.out) hb); clear hb hbox hg) | ((with_reducible refine gate_dst (N := 3) rfl ?_); refine box_event ?hg (N := 3) ?hd (cs := #[.int .i64 a1_0, .int .i64 a1_1, .slice A1_2 l1_2.length c1_2, .slice A1_3 l1_3.length c1_3]) (t := 53) ?hr ?_; (case hd => rfl); (case hg => rfl); (case hr => first | (go_simp; done) | (go_simp; rfl)); intro gb321 hg w19 hbox hb; have BK321 := AM_ (hbox); have GW321 := AM_ ((GS HB.out hg)); have GE321 := AM_ ((GS HB.out hg)); replace HB := AM_ (below_step (BT HB.out) hb); have NB320_321 := AM_ ((NL BK320.out hg)); have NB321_320 := AM_ ((NG BK320.out hg)); replace BK320 := AM_ (BB BK320.out hb); clear hb hbox hg; have hnb20 := NB320_321.out; have hnc20 := NB321_320.out; obtain ⟨hcz21_0, hcz21_1, hcz21_2, hcz21_3, hfz21_0, hfz21_1, hfz21_2, hfz21_3⟩ := bk4 BK320.out; obtain ⟨hcz22_0, hcz22_1, hcz22_2, hcz22_3, hfz22_0, hfz22_1, hfz22_2, hfz22_3⟩ := bk4 BK321.out) | ((with_reducible refine gate_callee (f := 56) rfl ?_); refine goesL_ (some 19) rfl rfl Tryd.func56 (by kernel_rfl) rfl #[.slice A0_2 l0_2.length c0_2, .slice A1_2 l1_2.length c1_2] rfl (by (try simp only [List.map_toArray, List.map_cons, List.map_nil]); first | done | rfl | (simp only [List.length_drop, List.length_take]; rfl)) ?_; (with_reducible refine (laws_eqReadMarkS.calls k _ _ l0_2 _ _ l1_2 true _ ?side1 ?side2 ?side3 ?side4 A5.out).mono ?_); (case side1 => exact CB HR0_2.out HB.out); (case side2 => exact HC0_2.out); (case side3 => exact CB HR1_2.out HB.out); (case side4 => exact HC1_2.out); rintro e w23 ⟨rfl, hb⟩; refine ⟨_, rfl, ?_⟩; replace BK320 := AM_ (BB BK320.out hb); replace BK321 := AM_ (BB BK321.out hb); replace HB := AM_ (below_step (BT HB.out) hb); (try clear hb); (try clear hb2); (try clear hk); (try clear hi); obtain ⟨hcz24_0, hcz24_1, hcz24_2, hcz24_3, hfz24_0, hfz24_1, hfz24_2, hfz24_3⟩ := bk4 BK320.out; obtain ⟨hcz25_0, hcz25_1, hcz25_2, hcz25_3, hfz25_0, hfz25_1, hfz25_2, hfz25_3⟩ := bk4 BK321.out) | ((with_reducible refine gate_callee (f := 57) rfl ?_); refine goesL_ (some 25) rfl rfl Tryd.func57 (by kernel_rfl) rfl #[.slice A0_3 l0_3.length c0_3, .slice A1_3 l1_3.length c1_3] rfl (by (try simp only [List.map_toArray, List.map_cons, List.map_nil]); first | done | rfl | (simp only [List.length_drop, List.length_take]; rfl)) ?_; (with_reducible refine (laws_eqWriteS.calls k _ _ l0_3 _ _ l1_3 false _ ?side1 ?side2 ?side3 ?side4 A7.out).mono ?_); (case side1 => exact CB HR0_3.out HB.out); (case side2 => exact HC0_3.out); (case side3 => exact CB HR1_3.out HB.out); (case side4 => exact HC1_3.out); rintro e w26 ⟨rfl, hb⟩; refine ⟨_, rfl, ?_⟩; replace BK320 := AM_ (BB BK320.out hb); replace BK321 := AM_ (BB BK321.out hb); replace HB := AM_ (below_step (BT HB.out) hb); (try clear hb); (try clear hb2); (try clear hk); (try clear hi)))
 go_ret
 exact QT (BT HB.out)

end Go.Proofs.YtgpmfkmdchcagaaDoor.PFnExactFormatHistory
