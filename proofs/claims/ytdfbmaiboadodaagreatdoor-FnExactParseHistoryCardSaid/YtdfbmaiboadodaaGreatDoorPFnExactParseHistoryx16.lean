-- Printed by wip/myprint.py.
import Derived.Test.YtdfbmaiboadodaaGreatDoorPFnExactParseHistoryx15
namespace Go.Proofs.YtdfbmaiboadodaaGreatDoor.PFnExactParseHistory
open Go.RowKit Go.Proofs.YtdfbmaiboadodaaGreatDoorW.PrintWords Go.Proofs.YtdfbmaiboadodaaGreatDoorW.PrintLast Go.Proofs.YtdfbmaiboadodaaGreatDoorW.PrintMore
set_option maxHeartbeats 8000000
set_option maxRecDepth 100000
set_option linter.unusedVariables false
set_option linter.unusedSimpArgs false

/-! ### laws_eqReadMarkS: function 37 -/
def laws_eqReadMarkS.l0 : Nat → List (S48) → List (S48) → Int → Option (Bool)
 | 0, _, _, _ => none
 | k + 1, x0, x1, x5 => if x5 < (x0.length : Int) then (if 0 ≤ x5 then (if x5 < (x1.length : Int) then ((laws_eqReadMark.f ((rd_T48 x0 x5).f0) ((rd_T48 x0 x5).f1) ((rd_T48 x1 x5).f0) ((rd_T48 x1 x5).f1)).bind fun t418 => (if t418 = true then (laws_eqReadMarkS.l0 k x0 x1 (wrap64 (x5 + 1))) else (some false))) else (none)) else (none)) else (some true)
def laws_eqReadMarkS.f (k : Nat) (l0 : List (S48)) (l1 : List (S48)) : Option (Bool) := if (l0.length : Int) = (l1.length : Int) then (laws_eqReadMarkS.l0 k l0 l1 0) else (some false)
theorem laws_eqReadMarkS.mono_l : ∀ k, (∀ y0 y1 y2, LeO (laws_eqReadMarkS.l0 k y0 y1 y2) (laws_eqReadMarkS.l0 (k + 1) y0 y1 y2))
 | 0 => fun _ _ _ r h => by simp [laws_eqReadMarkS.l0] at h
 | k + 1 => by
  have ih0 := laws_eqReadMarkS.mono_l k
  ·intro y0 y1 y2
   unfold laws_eqReadMarkS.l0
   repeat' first
   | (with_reducible exact ih0 _ _ _)
   | (with_reducible first | exact LeO.refl _ | exact LeO.none _ | refine LeO.ite ?_ ?_ | refine LeO.bind ?_ (fun _ => ?_))
   | exact ih0 _ _ _
   | exact LeO.none _ | refine LeO.ite ?_ ?_ | refine LeO.bind ?_ (fun _ => ?_)
theorem laws_eqReadMarkS.mono : ∀ a0 a1 k, LeO (laws_eqReadMarkS.f k a0 a1) (laws_eqReadMarkS.f (k + 1) a0 a1) := by
 intro a0 a1 k
 have ih0 := laws_eqReadMarkS.mono_l k
 unfold laws_eqReadMarkS.f
 repeat' first
   | (with_reducible exact ih0 _ _ _)
   | (with_reducible first | exact LeO.refl _ | exact LeO.none _ | refine LeO.ite ?_ ?_ | refine LeO.bind ?_ (fun _ => ?_))
   | exact ih0 _ _ _
   | exact LeO.none _ | refine LeO.ite ?_ ?_ | refine LeO.bind ?_ (fun _ => ?_)
def laws_eqReadMarkS.T6 : Bool × List (List Nat × List Nat) := (true, [([], []), ([], []), ([0, 1], [0, 1]), ([2], [2]), ([], []), ([], []), ([4, 5], [4, 5]), ([6], [6]), ([3, 7], [3, 7]), ([8], [8])])
def laws_eqReadMarkS.B6 : List Nat := [0, 0, 3, 7, 0, 0, 48, 112, 255, 511]
theorem laws_eqReadMarkS.tab6 : rtab .any (opsOf Tryz.f37 6) = laws_eqReadMarkS.T6 := by kernel_rfl
theorem laws_eqReadMarkS.bits6 : waitsOk laws_eqReadMarkS.T6.2 laws_eqReadMarkS.B6 = true := by kernel_rfl
theorem laws_eqReadMarkS.calls (k : Nat) (A0 : Option Addr) (c0 : Nat) (l0 : List (S48)) (A1 : Option Addr) (c1 : Nat) (l1 : List (S48)) (r : Bool) (w : World) (hr0 : Kd.C k48 w A0 l0.length l0) (hc0 : l0.length ≤ c0) (hr1 : Kd.C k48 w A1 l1.length l1) (hc1 : l1.length ≤ c1) (h : laws_eqReadMarkS.f k l0 l1 = some r) :
  Calls Tryz.prog 37 #[.slice A0 l0.length c0, .slice A1 l1.length c1] w fun e w' => e = .returned (.bool r) ∧ Below w.heap.size w w' := by
 have hu48 := Tryz.underlying48
 have HR0 := AM_ hr0
 have HC0 := AM_ hc0
 clear hr0 hc0
 have HR1 := AM_ hr1
 have HC1 := AM_ hc1
 clear hr1 hc1
 have HB := AM_ (Below.refl w.heap.size w)
 have H : (if (l0.length : Int) = (l1.length : Int) then (laws_eqReadMarkS.l0 k l0 l1 0) else (some false)) = some r := h
 clear h
 by_cases c3 : (l0.length : Int) = (l1.length : Int)
 rotate_left
 ·rw [if_neg c3] at H
  have c3b0 : ((l0.length : Int) == (l1.length : Int)) = false := beq_eq_false_iff_ne.mpr c3
  have c3b1 : ((l0.length : Int) != (l1.length : Int)) = true := bne_iff_ne.mpr c3
  have c3b2 : (l0.length == l1.length) = false := by first | simpa using c3 | (simp at c3 ⊢; omega)
  obtain rfl := Option.some.inj H
  go_enter Tryz.func37, Tryz.ntmps37
  go_wp2
  go_ret
  exact QT (BT HB.out)
 rw [if_pos c3] at H
 have c3b0 : ((l0.length : Int) == (l1.length : Int)) = true := beq_iff_eq.mpr c3
 have c3b1 : ((l0.length : Int) != (l1.length : Int)) = false := bne_eq_false_iff_eq.mpr c3
 have c3b2 : (l0.length == l1.length) = true := by first | simpa using c3 | (simp at c3 ⊢; omega)
 clear c3
 have H' := AM_ H
 clear H
 go_enter Tryz.func37, Tryz.ntmps37
 go_wp2
 go_loopg [5] k (fun kq v5 w' => ∃ (x5_1 : Int), v5 = .int .i64 x5_1 ∧ Aside0 (laws_eqReadMarkS.l0 kq l0 l1 x5_1 = some r) ∧ Aside0 (kq ≤ k) ∧ Aside0 (Below w.heap.size w w'))
 case atStart => exact ⟨(0), (by first | rfl | (simp; done) | (simp [*]; done)), H', ⟨Nat.le_refl _⟩, ⟨BT HB.out⟩⟩
 case round =>
  clear H'
  try clear c1
  try clear p2
  try clear c3
  try clear c3b0
  try clear c3b1
  try clear c3b2
  obtain ⟨x5_1, rfl, HA, HK1, HB⟩ := hrel
  cases gk with
  | zero => exact absurd HA.out (by simp [laws_eqReadMarkS.l0])
  | succ k1 =>
   have H := HA.out
   clear HA
   simp only [laws_eqReadMarkS.l0] at H
   by_cases c4 : x5_1 < (l0.length : Int)
   rotate_left
   ·rw [if_neg c4] at H
    have c4b0 : decide (x5_1 < (l0.length : Int)) = false := decide_eq_false c4
    clear c4
    obtain rfl := Option.some.inj H
    go_wp2
    go_ret
    exact QT (BT HB.out)
   rw [if_pos c4] at H
   have c4b0 : decide (x5_1 < (l0.length : Int)) = true := decide_eq_true c4
   clear c4
   replace H := HI H
   obtain ⟨c5, H⟩ := H
   have c5b0 : decide (0 ≤ x5_1) = true := decide_eq_true c5
   clear c5
   replace H := HI H
   obtain ⟨c6, H⟩ := H
   have c6b0 : decide (x5_1 < (l1.length : Int)) = true := decide_eq_true c6
   clear c6
   replace H := Option.bind_eq_some_iff.mp H
   obtain ⟨t418, A70, H⟩ := H
   replace H : (if t418 = true then (laws_eqReadMarkS.l0 k1 l0 l1 (wrap64 (x5_1 + 1))) else (some false)) = some r := H
   have A7 := AM_ A70
   clear A70
   by_cases c8 : t418 = true
   rotate_left
   ·replace c8 := Bool.eq_false_iff.mpr c8
    subst c8
    have H1 : (some false) = some r := by rw [if_neg (show ¬ (false = true) by decide)] at H; exact H
    clear H
    have H := H1
    clear H1
    obtain rfl := Option.some.inj H
    try go_wp2
    replace HB := AM_ (below_drew1 HB.out)
    have p416 : 0 ≤ (x5_1 : Int) := DT
    have q416 : x5_1 < (l0.length : Int) := DT
    obtain ⟨ad416, e416, hx416_0, hx416_1⟩ := at_T48 HR0.out x5_1 p416 q416
    have hw416_1 := hx416_1
    have hw416_0 := hx416_0
    cases e416
    replace hx416_0 := BC HB.out hx416_0
    replace hx416_1 := BC HB.out hx416_1
    replace p416 := eq_true p416
    replace q416 := eq_true q416
    have p417 : 0 ≤ (x5_1 : Int) := DT
    have q417 : x5_1 < (l1.length : Int) := DT
    obtain ⟨ad417, e417, hx417_0, hx417_1⟩ := at_T48 HR1.out x5_1 p417 q417
    have hw417_1 := hx417_1
    have hw417_0 := hx417_0
    cases e417
    replace hx417_0 := BC HB.out hx417_0
    replace hx417_1 := BC HB.out hx417_1
    replace p417 := eq_true p417
    replace q417 := eq_true q417
    refine start_ (n := 10) (S := fun w' => w'.cell? (ad416.add ((x5_1).toNat * 2)) = some (.int .i64 ((rd_T48 l0 x5_1).f0)) ∧ w'.cell? ⟨(ad416.add ((x5_1).toNat * 2)).block, (ad416.add ((x5_1).toNat * 2)).off + 1, none⟩ = some (.int .i64 ((rd_T48 l0 x5_1).f1)) ∧ w'.cell? (ad417.add ((x5_1).toNat * 2)) = some (.int .i64 ((rd_T48 l1 x5_1).f0)) ∧ w'.cell? ⟨(ad417.add ((x5_1).toNat * 2)).block, (ad417.add ((x5_1).toNat * 2)).off + 1, none⟩ = some (.int .i64 ((rd_T48 l1 x5_1).f1))) (ds := []) (bs 0 10) (by kernel_rfl) rfl rfl ⟨(BD HB.out hw416_0), (BD HB.out hw416_1), (BD HB.out hw417_0), (BD HB.out hw417_1)⟩ (fun hHeld => ?_); refine with_tabW laws_eqReadMarkS.tab6 laws_eqReadMarkS.bits6 (fun HT_ HW_ => ?_)
    generalize wr.drew = w11 at HB hx416_0 hx416_1 hx417_0 hx417_1 hHeld ⊢
    refine pu (i := 0) (N := some 17) (v := ?_) (a' := ?_) (bs 1 10) rfl rfl HT_ ?_ ?_ ?_
    rotate_left
    ·intro w'
     go_simp
     with_reducible rfl
    rotate_left
    ·simp only[pA,pS,pZ,pK,pV]
     rfl
    refine pu (i := 1) (N := some 18) (v := ?_) (a' := ?_) (bs 3 10) rfl rfl HT_ ?_ ?_ ?_
    rotate_left
    ·intro w'
     go_simp
     with_reducible rfl
    rotate_left
    ·simp only[pA,pS,pZ,pK,pV]
     rfl
    refine pu (i := 2) (N := some 19) (v := ?_) (a' := ?_) (bs 7 10) rfl rfl HT_ ?_ ?_ ?_
    rotate_left
    ·intro w'
     go_simp
     with_reducible rfl
    rotate_left
    ·simp only[pA,pS,pZ,pK,pV]
     rfl
    refine pu (i := 4) (N := some 21) (v := ?_) (a' := ?_) (bs 23 10) rfl rfl HT_ ?_ ?_ ?_
    rotate_left
    ·intro w'
     go_simp
     with_reducible rfl
    rotate_left
    ·simp only[pA,pS,pZ,pK,pV]
     rfl
    refine pu (i := 5) (N := some 22) (v := ?_) (a' := ?_) (bs 55 10) rfl rfl HT_ ?_ ?_ ?_
    rotate_left
    ·intro w'
     go_simp
     with_reducible rfl
    rotate_left
    ·simp only[pA,pS,pZ,pK,pV]
     rfl
    refine pu (i := 6) (N := some 23) (v := ?_) (a' := ?_) (bs 119 10) rfl rfl HT_ ?_ ?_ ?_
    rotate_left
    ·intro w'
     go_simp
     with_reducible rfl
    rotate_left
    ·simp only[pA,pS,pZ,pK,pV]
     rfl
    refine tk (i := 3) (N := some 20) (v := ?_) (a' := ?_) (bs 127 10) rfl rfl HT_ HW_ ?_ hHeld ?_ ?_
    rotate_left
    ·rintro w' ⟨s0, s1, s2, s3⟩
     go_simp
     with_reducible rfl
    rotate_left
    ·simp only[pA,pS,pZ,pK,pV]
     rfl
    refine tk (i := 7) (N := some 24) (v := ?_) (a' := ?_) (bs 255 10) rfl rfl HT_ HW_ ?_ hHeld ?_ ?_
    rotate_left
    ·rintro w' ⟨s0, s1, s2, s3⟩
     go_simp
     with_reducible rfl
    rotate_left
    ·simp only[pA,pS,pZ,pK,pV]
     rfl
    refine one_ (i := 8) (N := some 25) (bs 511 10) rfl rfl (one_of HT_.out (by kernel_rfl)) (by decide) (fun K hK => ?_)
    refine goes_ Tryz.func57 (by kernel_rfl) rfl #[.agg #[.int .i64 ((rd_T48 l0 x5_1).f0), .int .i64 ((rd_T48 l0 x5_1).f1)], .agg #[.int .i64 ((rd_T48 l1 x5_1).f0), .int .i64 ((rd_T48 l1 x5_1).f1)]] (by rfl) rfl rfl (by (try simp only [List.map_toArray, List.map_cons, List.map_nil]); first | done | rfl | (simp only [List.length_drop, List.length_take]; rfl)) ?_
    with_reducible refine (laws_eqReadMark.calls ((rd_T48 l0 x5_1).f0) ((rd_T48 l0 x5_1).f1) ((rd_T48 l1 x5_1).f0) ((rd_T48 l1 x5_1).f1) false _ A7.out).mono ?_
    rintro e w12 ⟨rfl, hb⟩
    refine ⟨_, rfl, ?_⟩
    replace HB := AM_ (below_step (BT HB.out) hb)
    (try clear hb)
    (try clear hb2)
    (try clear hk)
    (try clear hi)
    refine hK.out _ _ ⟨(BD HB.out hw416_0), (BD HB.out hw416_1), (BD HB.out hw417_0), (BD HB.out hw417_1)⟩ (fun hHeld => ?_)
    clear hK K
    refine norm_ (a' := ?_) ?_ ?_
    rotate_left
    ·show Act.put _ (some 25) _ = _
     simp only[pA,pS,pZ,pK,pV]
     rfl
    refine pu (i := 9) (N := some 26) (v := ?_) (a' := ?_) (bs 1023 10) rfl rfl HT_ ?_ ?_ ?_
    rotate_left
    ·intro w'
     go_simp
     with_reducible rfl
    rotate_left
    ·simp only[pA,pS,pZ,pK,pV]
     rfl
    refine done_ (done_of HT_.out (by kernel_rfl)) ?_
    try go_wp2
    go_ret
    exact QT (BT HB.out)
   subst c8
   have H1 : (laws_eqReadMarkS.l0 k1 l0 l1 (wrap64 (x5_1 + 1))) = some r := by rw [if_pos rfl] at H; exact H
   clear H
   have H := H1
   clear H1
   have H' := AM_ H
   clear H
   try go_wp2
   replace HB := AM_ (below_drew1 HB.out)
   have p416 : 0 ≤ (x5_1 : Int) := DT
   have q416 : x5_1 < (l0.length : Int) := DT
   obtain ⟨ad416, e416, hx416_0, hx416_1⟩ := at_T48 HR0.out x5_1 p416 q416
   have hw416_1 := hx416_1
   have hw416_0 := hx416_0
   cases e416
   replace hx416_0 := BC HB.out hx416_0
   replace hx416_1 := BC HB.out hx416_1
   replace p416 := eq_true p416
   replace q416 := eq_true q416
   have p417 : 0 ≤ (x5_1 : Int) := DT
   have q417 : x5_1 < (l1.length : Int) := DT
   obtain ⟨ad417, e417, hx417_0, hx417_1⟩ := at_T48 HR1.out x5_1 p417 q417
   have hw417_1 := hx417_1
   have hw417_0 := hx417_0
   cases e417
   replace hx417_0 := BC HB.out hx417_0
   replace hx417_1 := BC HB.out hx417_1
   replace p417 := eq_true p417
   replace q417 := eq_true q417
   refine start_ (n := 10) (S := fun w' => w'.cell? (ad416.add ((x5_1).toNat * 2)) = some (.int .i64 ((rd_T48 l0 x5_1).f0)) ∧ w'.cell? ⟨(ad416.add ((x5_1).toNat * 2)).block, (ad416.add ((x5_1).toNat * 2)).off + 1, none⟩ = some (.int .i64 ((rd_T48 l0 x5_1).f1)) ∧ w'.cell? (ad417.add ((x5_1).toNat * 2)) = some (.int .i64 ((rd_T48 l1 x5_1).f0)) ∧ w'.cell? ⟨(ad417.add ((x5_1).toNat * 2)).block, (ad417.add ((x5_1).toNat * 2)).off + 1, none⟩ = some (.int .i64 ((rd_T48 l1 x5_1).f1))) (ds := []) (bs 0 10) (by kernel_rfl) rfl rfl ⟨(BD HB.out hw416_0), (BD HB.out hw416_1), (BD HB.out hw417_0), (BD HB.out hw417_1)⟩ (fun hHeld => ?_); refine with_tabW laws_eqReadMarkS.tab6 laws_eqReadMarkS.bits6 (fun HT_ HW_ => ?_)
   generalize wr.drew = w9 at HB hx416_0 hx416_1 hx417_0 hx417_1 hHeld ⊢
   refine pu (i := 0) (N := some 17) (v := ?_) (a' := ?_) (bs 1 10) rfl rfl HT_ ?_ ?_ ?_
   rotate_left
   ·intro w'
    go_simp
    with_reducible rfl
   rotate_left
   ·simp only[pA,pS,pZ,pK,pV]
    rfl
   refine pu (i := 1) (N := some 18) (v := ?_) (a' := ?_) (bs 3 10) rfl rfl HT_ ?_ ?_ ?_
   rotate_left
   ·intro w'
    go_simp
    with_reducible rfl
   rotate_left
   ·simp only[pA,pS,pZ,pK,pV]
    rfl
   refine pu (i := 2) (N := some 19) (v := ?_) (a' := ?_) (bs 7 10) rfl rfl HT_ ?_ ?_ ?_
   rotate_left
   ·intro w'
    go_simp
    with_reducible rfl
   rotate_left
   ·simp only[pA,pS,pZ,pK,pV]
    rfl
   refine pu (i := 4) (N := some 21) (v := ?_) (a' := ?_) (bs 23 10) rfl rfl HT_ ?_ ?_ ?_
   rotate_left
   ·intro w'
    go_simp
    with_reducible rfl
   rotate_left
   ·simp only[pA,pS,pZ,pK,pV]
    rfl
   refine pu (i := 5) (N := some 22) (v := ?_) (a' := ?_) (bs 55 10) rfl rfl HT_ ?_ ?_ ?_
   rotate_left
   ·intro w'
    go_simp
    with_reducible rfl
   rotate_left
   ·simp only[pA,pS,pZ,pK,pV]
    rfl
   refine pu (i := 6) (N := some 23) (v := ?_) (a' := ?_) (bs 119 10) rfl rfl HT_ ?_ ?_ ?_
   rotate_left
   ·intro w'
    go_simp
    with_reducible rfl
   rotate_left
   ·simp only[pA,pS,pZ,pK,pV]
    rfl
   refine tk (i := 3) (N := some 20) (v := ?_) (a' := ?_) (bs 127 10) rfl rfl HT_ HW_ ?_ hHeld ?_ ?_
   rotate_left
   ·rintro w' ⟨s0, s1, s2, s3⟩
    go_simp
    with_reducible rfl
   rotate_left
   ·simp only[pA,pS,pZ,pK,pV]
    rfl
   refine tk (i := 7) (N := some 24) (v := ?_) (a' := ?_) (bs 255 10) rfl rfl HT_ HW_ ?_ hHeld ?_ ?_
   rotate_left
   ·rintro w' ⟨s0, s1, s2, s3⟩
    go_simp
    with_reducible rfl
   rotate_left
   ·simp only[pA,pS,pZ,pK,pV]
    rfl
   refine one_ (i := 8) (N := some 25) (bs 511 10) rfl rfl (one_of HT_.out (by kernel_rfl)) (by decide) (fun K hK => ?_)
   refine goes_ Tryz.func57 (by kernel_rfl) rfl #[.agg #[.int .i64 ((rd_T48 l0 x5_1).f0), .int .i64 ((rd_T48 l0 x5_1).f1)], .agg #[.int .i64 ((rd_T48 l1 x5_1).f0), .int .i64 ((rd_T48 l1 x5_1).f1)]] (by rfl) rfl rfl (by (try simp only [List.map_toArray, List.map_cons, List.map_nil]); first | done | rfl | (simp only [List.length_drop, List.length_take]; rfl)) ?_
   with_reducible refine (laws_eqReadMark.calls ((rd_T48 l0 x5_1).f0) ((rd_T48 l0 x5_1).f1) ((rd_T48 l1 x5_1).f0) ((rd_T48 l1 x5_1).f1) true _ A7.out).mono ?_
   rintro e w10 ⟨rfl, hb⟩
   refine ⟨_, rfl, ?_⟩
   replace HB := AM_ (below_step (BT HB.out) hb)
   (try clear hb)
   (try clear hb2)
   (try clear hk)
   (try clear hi)
   refine hK.out _ _ ⟨(BD HB.out hw416_0), (BD HB.out hw416_1), (BD HB.out hw417_0), (BD HB.out hw417_1)⟩ (fun hHeld => ?_)
   clear hK K
   refine norm_ (a' := ?_) ?_ ?_
   rotate_left
   ·show Act.put _ (some 25) _ = _
    simp only[pA,pS,pZ,pK,pV]
    rfl
   refine pu (i := 9) (N := some 26) (v := ?_) (a' := ?_) (bs 1023 10) rfl rfl HT_ ?_ ?_ ?_
   rotate_left
   ·intro w'
    go_simp
    with_reducible rfl
   rotate_left
   ·simp only[pA,pS,pZ,pK,pV]
    rfl
   refine done_ (done_of HT_.out (by kernel_rfl)) ?_
   try go_wp2
   go_roundg k1
   case measure => have := HK1.out; omega
   case rel => exact ⟨(wrap64 (x5_1 + 1)), (by first | rfl | (simp; done) | (simp [*]; done)), H', ⟨by have := HK1.out; omega⟩, ⟨BT HB.out⟩⟩

/-! ### laws_eqWrite: function 58 -/
def laws_eqWrite.f (a0_0 : Int) (a0_1 : Int) (a1_0 : Int) (a1_1 : Int) : Option (Bool) := if a0_0 = a1_0 then (if a0_1 = a1_1 then (some true) else (some false)) else (some false)
theorem laws_eqWrite.calls (a0_0 : Int) (a0_1 : Int) (a1_0 : Int) (a1_1 : Int) (r : Bool) (w : World) (h : laws_eqWrite.f a0_0 a0_1 a1_0 a1_1 = some r) :
  Calls Tryz.prog 58 #[.agg #[.int .i64 a0_0, .int .i64 a0_1], .agg #[.int .i64 a1_0, .int .i64 a1_1]] w fun e w' => e = .returned (.bool r) ∧ Below w.heap.size w w' := by
 have hu50 := Tryz.underlying50
 have HB := AM_ (Below.refl w.heap.size w)
 have H : (if a0_0 = a1_0 then (if a0_1 = a1_1 then (some true) else (some false)) else (some false)) = some r := h
 clear h
 by_cases c3 : a0_0 = a1_0
 rotate_left
 ·rw [if_neg c3] at H
  have c3b0 : (a0_0 == a1_0) = false := beq_eq_false_iff_ne.mpr c3
  have c3b1 : (a0_0 != a1_0) = true := bne_iff_ne.mpr c3
  obtain rfl := Option.some.inj H
  go_enter Tryz.func58, Tryz.ntmps58
  go_wp2_with (first | ((with_reducible refine gate_dst (N := 2) rfl ?_); refine box_event ?hg (N := 2) ?hd (cs := #[.int .i64 a0_0, .int .i64 a0_1]) (t := 50) ?hr ?_; (case hd => rfl); (case hg => rfl); (case hr => first | (go_simp; done) | (go_simp; rfl)); intro gb419 hg w15 hbox hb; have BK419 := AM_ (hbox); have GW419 := AM_ ((GS HB.out hg)); have GE419 := AM_ ((GS HB.out hg)); replace HB := AM_ (below_step (BT HB.out) hb); clear hb hbox hg) | ((with_reducible refine gate_dst (N := 3) rfl ?_); refine box_event ?hg (N := 3) ?hd (cs := #[.int .i64 a1_0, .int .i64 a1_1]) (t := 50) ?hr ?_; (case hd => rfl); (case hg => rfl); (case hr => first | (go_simp; done) | (go_simp; rfl)); intro gb420 hg w16 hbox hb; have BK420 := AM_ (hbox); have GW420 := AM_ ((GS HB.out hg)); have GE420 := AM_ ((GS HB.out hg)); replace HB := AM_ (below_step (BT HB.out) hb); have NB419_420 := AM_ ((NL BK419.out hg)); have NB420_419 := AM_ ((NG BK419.out hg)); replace BK419 := AM_ (BB BK419.out hb); clear hb hbox hg; have hnb17 := NB419_420.out; have hnc17 := NB420_419.out; obtain ⟨hcz18_0, hcz18_1, hfz18_0, hfz18_1⟩ := bk2 BK419.out; obtain ⟨hcz19_0, hcz19_1, hfz19_0, hfz19_1⟩ := bk2 BK420.out))
  go_ret
  exact QT (BT HB.out)
 rw [if_pos c3] at H
 have c3b0 : (a0_0 == a1_0) = true := beq_iff_eq.mpr c3
 have c3b1 : (a0_0 != a1_0) = false := bne_eq_false_iff_eq.mpr c3
 clear c3
 by_cases c4 : a0_1 = a1_1
 ·rw [if_pos c4] at H
  have c4b0 : (a0_1 == a1_1) = true := beq_iff_eq.mpr c4
  have c4b1 : (a0_1 != a1_1) = false := bne_eq_false_iff_eq.mpr c4
  clear c4
  obtain rfl := Option.some.inj H
  go_enter Tryz.func58, Tryz.ntmps58
  go_wp2_with (first | ((with_reducible refine gate_dst (N := 2) rfl ?_); refine box_event ?hg (N := 2) ?hd (cs := #[.int .i64 a0_0, .int .i64 a0_1]) (t := 50) ?hr ?_; (case hd => rfl); (case hg => rfl); (case hr => first | (go_simp; done) | (go_simp; rfl)); intro gb419 hg w5 hbox hb; have BK419 := AM_ (hbox); have GW419 := AM_ ((GS HB.out hg)); have GE419 := AM_ ((GS HB.out hg)); replace HB := AM_ (below_step (BT HB.out) hb); clear hb hbox hg) | ((with_reducible refine gate_dst (N := 3) rfl ?_); refine box_event ?hg (N := 3) ?hd (cs := #[.int .i64 a1_0, .int .i64 a1_1]) (t := 50) ?hr ?_; (case hd => rfl); (case hg => rfl); (case hr => first | (go_simp; done) | (go_simp; rfl)); intro gb420 hg w6 hbox hb; have BK420 := AM_ (hbox); have GW420 := AM_ ((GS HB.out hg)); have GE420 := AM_ ((GS HB.out hg)); replace HB := AM_ (below_step (BT HB.out) hb); have NB419_420 := AM_ ((NL BK419.out hg)); have NB420_419 := AM_ ((NG BK419.out hg)); replace BK419 := AM_ (BB BK419.out hb); clear hb hbox hg; have hnb7 := NB419_420.out; have hnc7 := NB420_419.out; obtain ⟨hcz8_0, hcz8_1, hfz8_0, hfz8_1⟩ := bk2 BK419.out; obtain ⟨hcz9_0, hcz9_1, hfz9_0, hfz9_1⟩ := bk2 BK420.out))
  go_ret
  exact QT (BT HB.out)
 rw [if_neg c4] at H
 have c4b0 : (a0_1 == a1_1) = false := beq_eq_false_iff_ne.mpr c4
 have c4b1 : (a0_1 != a1_1) = true := bne_iff_ne.mpr c4
 obtain rfl := Option.some.inj H
 go_enter Tryz.func58, Tryz.ntmps58
 go_wp2_with (first | ((with_reducible refine gate_dst (N := 2) rfl ?_); refine box_event ?hg (N := 2) ?hd (cs := #[.int .i64 a0_0, .int .i64 a0_1]) (t := 50) ?hr ?_; (case hd => rfl); (case hg => rfl); (case hr => first | (go_simp; done) | (go_simp; rfl)); intro gb419 hg w10 hbox hb; have BK419 := AM_ (hbox); have GW419 := AM_ ((GS HB.out hg)); have GE419 := AM_ ((GS HB.out hg)); replace HB := AM_ (below_step (BT HB.out) hb); clear hb hbox hg) | ((with_reducible refine gate_dst (N := 3) rfl ?_); refine box_event ?hg (N := 3) ?hd (cs := #[.int .i64 a1_0, .int .i64 a1_1]) (t := 50) ?hr ?_; (case hd => rfl); (case hg => rfl); (case hr => first | (go_simp; done) | (go_simp; rfl)); intro gb420 hg w11 hbox hb; have BK420 := AM_ (hbox); have GW420 := AM_ ((GS HB.out hg)); have GE420 := AM_ ((GS HB.out hg)); replace HB := AM_ (below_step (BT HB.out) hb); have NB419_420 := AM_ ((NL BK419.out hg)); have NB420_419 := AM_ ((NG BK419.out hg)); replace BK419 := AM_ (BB BK419.out hb); clear hb hbox hg; have hnb12 := NB419_420.out; have hnc12 := NB420_419.out; obtain ⟨hcz13_0, hcz13_1, hfz13_0, hfz13_1⟩ := bk2 BK419.out; obtain ⟨hcz14_0, hcz14_1, hfz14_0, hfz14_1⟩ := bk2 BK420.out))
 go_ret
 exact QT (BT HB.out)

/-! ### laws_eqWriteS: function 38 -/
def laws_eqWriteS.l0 : Nat → List (S50) → List (S50) → Int → Option (Bool)
 | 0, _, _, _ => none
 | k + 1, x0, x1, x5 => if x5 < (x0.length : Int) then (if 0 ≤ x5 then (if x5 < (x1.length : Int) then ((laws_eqWrite.f ((rd_T50 x0 x5).f0) ((rd_T50 x0 x5).f1) ((rd_T50 x1 x5).f0) ((rd_T50 x1 x5).f1)).bind fun t423 => (if t423 = true then (laws_eqWriteS.l0 k x0 x1 (wrap64 (x5 + 1))) else (some false))) else (none)) else (none)) else (some true)
def laws_eqWriteS.f (k : Nat) (l0 : List (S50)) (l1 : List (S50)) : Option (Bool) := if (l0.length : Int) = (l1.length : Int) then (laws_eqWriteS.l0 k l0 l1 0) else (some false)
theorem laws_eqWriteS.mono_l : ∀ k, (∀ y0 y1 y2, LeO (laws_eqWriteS.l0 k y0 y1 y2) (laws_eqWriteS.l0 (k + 1) y0 y1 y2))
 | 0 => fun _ _ _ r h => by simp [laws_eqWriteS.l0] at h
 | k + 1 => by
  have ih0 := laws_eqWriteS.mono_l k
  ·intro y0 y1 y2
   unfold laws_eqWriteS.l0
   repeat' first
   | (with_reducible exact ih0 _ _ _)
   | (with_reducible first | exact LeO.refl _ | exact LeO.none _ | refine LeO.ite ?_ ?_ | refine LeO.bind ?_ (fun _ => ?_))
   | exact ih0 _ _ _
   | exact LeO.none _ | refine LeO.ite ?_ ?_ | refine LeO.bind ?_ (fun _ => ?_)
theorem laws_eqWriteS.mono : ∀ a0 a1 k, LeO (laws_eqWriteS.f k a0 a1) (laws_eqWriteS.f (k + 1) a0 a1) := by
 intro a0 a1 k
 have ih0 := laws_eqWriteS.mono_l k
 unfold laws_eqWriteS.f
 repeat' first
   | (with_reducible exact ih0 _ _ _)
   | (with_reducible first | exact LeO.refl _ | exact LeO.none _ | refine LeO.ite ?_ ?_ | refine LeO.bind ?_ (fun _ => ?_))
   | exact ih0 _ _ _
   | exact LeO.none _ | refine LeO.ite ?_ ?_ | refine LeO.bind ?_ (fun _ => ?_)
def laws_eqWriteS.T6 : Bool × List (List Nat × List Nat) := (true, [([], []), ([], []), ([0, 1], [0, 1]), ([2], [2]), ([], []), ([], []), ([4, 5], [4, 5]), ([6], [6]), ([3, 7], [3, 7]), ([8], [8])])
def laws_eqWriteS.B6 : List Nat := [0, 0, 3, 7, 0, 0, 48, 112, 255, 511]
theorem laws_eqWriteS.tab6 : rtab .any (opsOf Tryz.f38 6) = laws_eqWriteS.T6 := by kernel_rfl
theorem laws_eqWriteS.bits6 : waitsOk laws_eqWriteS.T6.2 laws_eqWriteS.B6 = true := by kernel_rfl
theorem laws_eqWriteS.calls (k : Nat) (A0 : Option Addr) (c0 : Nat) (l0 : List (S50)) (A1 : Option Addr) (c1 : Nat) (l1 : List (S50)) (r : Bool) (w : World) (hr0 : Kd.C k50 w A0 l0.length l0) (hc0 : l0.length ≤ c0) (hr1 : Kd.C k50 w A1 l1.length l1) (hc1 : l1.length ≤ c1) (h : laws_eqWriteS.f k l0 l1 = some r) :
  Calls Tryz.prog 38 #[.slice A0 l0.length c0, .slice A1 l1.length c1] w fun e w' => e = .returned (.bool r) ∧ Below w.heap.size w w' := by
 have hu50 := Tryz.underlying50
 have HR0 := AM_ hr0
 have HC0 := AM_ hc0
 clear hr0 hc0
 have HR1 := AM_ hr1
 have HC1 := AM_ hc1
 clear hr1 hc1
 have HB := AM_ (Below.refl w.heap.size w)
 have H : (if (l0.length : Int) = (l1.length : Int) then (laws_eqWriteS.l0 k l0 l1 0) else (some false)) = some r := h
 clear h
 by_cases c3 : (l0.length : Int) = (l1.length : Int)
 rotate_left
 ·rw [if_neg c3] at H
  have c3b0 : ((l0.length : Int) == (l1.length : Int)) = false := beq_eq_false_iff_ne.mpr c3
  have c3b1 : ((l0.length : Int) != (l1.length : Int)) = true := bne_iff_ne.mpr c3
  have c3b2 : (l0.length == l1.length) = false := by first | simpa using c3 | (simp at c3 ⊢; omega)
  obtain rfl := Option.some.inj H
  go_enter Tryz.func38, Tryz.ntmps38
  go_wp2
  go_ret
  exact QT (BT HB.out)
 rw [if_pos c3] at H
 have c3b0 : ((l0.length : Int) == (l1.length : Int)) = true := beq_iff_eq.mpr c3
 have c3b1 : ((l0.length : Int) != (l1.length : Int)) = false := bne_eq_false_iff_eq.mpr c3
 have c3b2 : (l0.length == l1.length) = true := by first | simpa using c3 | (simp at c3 ⊢; omega)
 clear c3
 have H' := AM_ H
 clear H
 go_enter Tryz.func38, Tryz.ntmps38
 go_wp2
 go_loopg [5] k (fun kq v5 w' => ∃ (x5_1 : Int), v5 = .int .i64 x5_1 ∧ Aside0 (laws_eqWriteS.l0 kq l0 l1 x5_1 = some r) ∧ Aside0 (kq ≤ k) ∧ Aside0 (Below w.heap.size w w'))
 case atStart => exact ⟨(0), (by first | rfl | (simp; done) | (simp [*]; done)), H', ⟨Nat.le_refl _⟩, ⟨BT HB.out⟩⟩
 case round =>
  clear H'
  try clear c1
  try clear p2
  try clear c3
  try clear c3b0
  try clear c3b1
  try clear c3b2
  obtain ⟨x5_1, rfl, HA, HK1, HB⟩ := hrel
  cases gk with
  | zero => exact absurd HA.out (by simp [laws_eqWriteS.l0])
  | succ k1 =>
   have H := HA.out
   clear HA
   simp only [laws_eqWriteS.l0] at H
   by_cases c4 : x5_1 < (l0.length : Int)
   rotate_left
   ·rw [if_neg c4] at H
    have c4b0 : decide (x5_1 < (l0.length : Int)) = false := decide_eq_false c4
    clear c4
    obtain rfl := Option.some.inj H
    go_wp2
    go_ret
    exact QT (BT HB.out)
   rw [if_pos c4] at H
   have c4b0 : decide (x5_1 < (l0.length : Int)) = true := decide_eq_true c4
   clear c4
   replace H := HI H
   obtain ⟨c5, H⟩ := H
   have c5b0 : decide (0 ≤ x5_1) = true := decide_eq_true c5
   clear c5
   replace H := HI H
   obtain ⟨c6, H⟩ := H
   have c6b0 : decide (x5_1 < (l1.length : Int)) = true := decide_eq_true c6
   clear c6
   replace H := Option.bind_eq_some_iff.mp H
   obtain ⟨t423, A70, H⟩ := H
   replace H : (if t423 = true then (laws_eqWriteS.l0 k1 l0 l1 (wrap64 (x5_1 + 1))) else (some false)) = some r := H
   have A7 := AM_ A70
   clear A70
   by_cases c8 : t423 = true
   rotate_left
   ·replace c8 := Bool.eq_false_iff.mpr c8
    subst c8
    have H1 : (some false) = some r := by rw [if_neg (show ¬ (false = true) by decide)] at H; exact H
    clear H
    have H := H1
    clear H1
    obtain rfl := Option.some.inj H
    try go_wp2
    replace HB := AM_ (below_drew1 HB.out)
    have p421 : 0 ≤ (x5_1 : Int) := DT
    have q421 : x5_1 < (l0.length : Int) := DT
    obtain ⟨ad421, e421, hx421_0, hx421_1⟩ := at_T50 HR0.out x5_1 p421 q421
    have hw421_1 := hx421_1
    have hw421_0 := hx421_0
    cases e421
    replace hx421_0 := BC HB.out hx421_0
    replace hx421_1 := BC HB.out hx421_1
    replace p421 := eq_true p421
    replace q421 := eq_true q421
    have p422 : 0 ≤ (x5_1 : Int) := DT
    have q422 : x5_1 < (l1.length : Int) := DT
    obtain ⟨ad422, e422, hx422_0, hx422_1⟩ := at_T50 HR1.out x5_1 p422 q422
    have hw422_1 := hx422_1
    have hw422_0 := hx422_0
    cases e422
    replace hx422_0 := BC HB.out hx422_0
    replace hx422_1 := BC HB.out hx422_1
    replace p422 := eq_true p422
    replace q422 := eq_true q422
    refine start_ (n := 10) (S := fun w' => w'.cell? (ad421.add ((x5_1).toNat * 2)) = some (.int .i64 ((rd_T50 l0 x5_1).f0)) ∧ w'.cell? ⟨(ad421.add ((x5_1).toNat * 2)).block, (ad421.add ((x5_1).toNat * 2)).off + 1, none⟩ = some (.int .i64 ((rd_T50 l0 x5_1).f1)) ∧ w'.cell? (ad422.add ((x5_1).toNat * 2)) = some (.int .i64 ((rd_T50 l1 x5_1).f0)) ∧ w'.cell? ⟨(ad422.add ((x5_1).toNat * 2)).block, (ad422.add ((x5_1).toNat * 2)).off + 1, none⟩ = some (.int .i64 ((rd_T50 l1 x5_1).f1))) (ds := []) (bs 0 10) (by kernel_rfl) rfl rfl ⟨(BD HB.out hw421_0), (BD HB.out hw421_1), (BD HB.out hw422_0), (BD HB.out hw422_1)⟩ (fun hHeld => ?_); refine with_tabW laws_eqWriteS.tab6 laws_eqWriteS.bits6 (fun HT_ HW_ => ?_)
    generalize wr.drew = w11 at HB hx421_0 hx421_1 hx422_0 hx422_1 hHeld ⊢
    refine pu (i := 0) (N := some 17) (v := ?_) (a' := ?_) (bs 1 10) rfl rfl HT_ ?_ ?_ ?_
    rotate_left
    ·intro w'
     go_simp
     with_reducible rfl
    rotate_left
    ·simp only[pA,pS,pZ,pK,pV]
     rfl
    refine pu (i := 1) (N := some 18) (v := ?_) (a' := ?_) (bs 3 10) rfl rfl HT_ ?_ ?_ ?_
    rotate_left
    ·intro w'
     go_simp
     with_reducible rfl
    rotate_left
    ·simp only[pA,pS,pZ,pK,pV]
     rfl
    refine pu (i := 2) (N := some 19) (v := ?_) (a' := ?_) (bs 7 10) rfl rfl HT_ ?_ ?_ ?_
    rotate_left
    ·intro w'
     go_simp
     with_reducible rfl
    rotate_left
    ·simp only[pA,pS,pZ,pK,pV]
     rfl
    refine pu (i := 4) (N := some 21) (v := ?_) (a' := ?_) (bs 23 10) rfl rfl HT_ ?_ ?_ ?_
    rotate_left
    ·intro w'
     go_simp
     with_reducible rfl
    rotate_left
    ·simp only[pA,pS,pZ,pK,pV]
     rfl
    refine pu (i := 5) (N := some 22) (v := ?_) (a' := ?_) (bs 55 10) rfl rfl HT_ ?_ ?_ ?_
    rotate_left
    ·intro w'
     go_simp
     with_reducible rfl
    rotate_left
    ·simp only[pA,pS,pZ,pK,pV]
     rfl
    refine pu (i := 6) (N := some 23) (v := ?_) (a' := ?_) (bs 119 10) rfl rfl HT_ ?_ ?_ ?_
    rotate_left
    ·intro w'
     go_simp
     with_reducible rfl
    rotate_left
    ·simp only[pA,pS,pZ,pK,pV]
     rfl
    refine tk (i := 3) (N := some 20) (v := ?_) (a' := ?_) (bs 127 10) rfl rfl HT_ HW_ ?_ hHeld ?_ ?_
    rotate_left
    ·rintro w' ⟨s0, s1, s2, s3⟩
     go_simp
     with_reducible rfl
    rotate_left
    ·simp only[pA,pS,pZ,pK,pV]
     rfl
    refine tk (i := 7) (N := some 24) (v := ?_) (a' := ?_) (bs 255 10) rfl rfl HT_ HW_ ?_ hHeld ?_ ?_
    rotate_left
    ·rintro w' ⟨s0, s1, s2, s3⟩
     go_simp
     with_reducible rfl
    rotate_left
    ·simp only[pA,pS,pZ,pK,pV]
     rfl
    refine one_ (i := 8) (N := some 25) (bs 511 10) rfl rfl (one_of HT_.out (by kernel_rfl)) (by decide) (fun K hK => ?_)
    refine goes_ Tryz.func58 (by kernel_rfl) rfl #[.agg #[.int .i64 ((rd_T50 l0 x5_1).f0), .int .i64 ((rd_T50 l0 x5_1).f1)], .agg #[.int .i64 ((rd_T50 l1 x5_1).f0), .int .i64 ((rd_T50 l1 x5_1).f1)]] (by rfl) rfl rfl (by (try simp only [List.map_toArray, List.map_cons, List.map_nil]); first | done | rfl | (simp only [List.length_drop, List.length_take]; rfl)) ?_
    with_reducible refine (laws_eqWrite.calls ((rd_T50 l0 x5_1).f0) ((rd_T50 l0 x5_1).f1) ((rd_T50 l1 x5_1).f0) ((rd_T50 l1 x5_1).f1) false _ A7.out).mono ?_
    rintro e w12 ⟨rfl, hb⟩
    refine ⟨_, rfl, ?_⟩
    replace HB := AM_ (below_step (BT HB.out) hb)
    (try clear hb)
    (try clear hb2)
    (try clear hk)
    (try clear hi)
    refine hK.out _ _ ⟨(BD HB.out hw421_0), (BD HB.out hw421_1), (BD HB.out hw422_0), (BD HB.out hw422_1)⟩ (fun hHeld => ?_)
    clear hK K
    refine norm_ (a' := ?_) ?_ ?_
    rotate_left
    ·show Act.put _ (some 25) _ = _
     simp only[pA,pS,pZ,pK,pV]
     rfl
    refine pu (i := 9) (N := some 26) (v := ?_) (a' := ?_) (bs 1023 10) rfl rfl HT_ ?_ ?_ ?_
    rotate_left
    ·intro w'
     go_simp
     with_reducible rfl
    rotate_left
    ·simp only[pA,pS,pZ,pK,pV]
     rfl
    refine done_ (done_of HT_.out (by kernel_rfl)) ?_
    try go_wp2
    go_ret
    exact QT (BT HB.out)
   subst c8
   have H1 : (laws_eqWriteS.l0 k1 l0 l1 (wrap64 (x5_1 + 1))) = some r := by rw [if_pos rfl] at H; exact H
   clear H
   have H := H1
   clear H1
   have H' := AM_ H
   clear H
   try go_wp2
   replace HB := AM_ (below_drew1 HB.out)
   have p421 : 0 ≤ (x5_1 : Int) := DT
   have q421 : x5_1 < (l0.length : Int) := DT
   obtain ⟨ad421, e421, hx421_0, hx421_1⟩ := at_T50 HR0.out x5_1 p421 q421
   have hw421_1 := hx421_1
   have hw421_0 := hx421_0
   cases e421
   replace hx421_0 := BC HB.out hx421_0
   replace hx421_1 := BC HB.out hx421_1
   replace p421 := eq_true p421
   replace q421 := eq_true q421
   have p422 : 0 ≤ (x5_1 : Int) := DT
   have q422 : x5_1 < (l1.length : Int) := DT
   obtain ⟨ad422, e422, hx422_0, hx422_1⟩ := at_T50 HR1.out x5_1 p422 q422
   have hw422_1 := hx422_1
   have hw422_0 := hx422_0
   cases e422
   replace hx422_0 := BC HB.out hx422_0
   replace hx422_1 := BC HB.out hx422_1
   replace p422 := eq_true p422
   replace q422 := eq_true q422
   refine start_ (n := 10) (S := fun w' => w'.cell? (ad421.add ((x5_1).toNat * 2)) = some (.int .i64 ((rd_T50 l0 x5_1).f0)) ∧ w'.cell? ⟨(ad421.add ((x5_1).toNat * 2)).block, (ad421.add ((x5_1).toNat * 2)).off + 1, none⟩ = some (.int .i64 ((rd_T50 l0 x5_1).f1)) ∧ w'.cell? (ad422.add ((x5_1).toNat * 2)) = some (.int .i64 ((rd_T50 l1 x5_1).f0)) ∧ w'.cell? ⟨(ad422.add ((x5_1).toNat * 2)).block, (ad422.add ((x5_1).toNat * 2)).off + 1, none⟩ = some (.int .i64 ((rd_T50 l1 x5_1).f1))) (ds := []) (bs 0 10) (by kernel_rfl) rfl rfl ⟨(BD HB.out hw421_0), (BD HB.out hw421_1), (BD HB.out hw422_0), (BD HB.out hw422_1)⟩ (fun hHeld => ?_); refine with_tabW laws_eqWriteS.tab6 laws_eqWriteS.bits6 (fun HT_ HW_ => ?_)
   generalize wr.drew = w9 at HB hx421_0 hx421_1 hx422_0 hx422_1 hHeld ⊢
   refine pu (i := 0) (N := some 17) (v := ?_) (a' := ?_) (bs 1 10) rfl rfl HT_ ?_ ?_ ?_
   rotate_left
   ·intro w'
    go_simp
    with_reducible rfl
   rotate_left
   ·simp only[pA,pS,pZ,pK,pV]
    rfl
   refine pu (i := 1) (N := some 18) (v := ?_) (a' := ?_) (bs 3 10) rfl rfl HT_ ?_ ?_ ?_
   rotate_left
   ·intro w'
    go_simp
    with_reducible rfl
   rotate_left
   ·simp only[pA,pS,pZ,pK,pV]
    rfl
   refine pu (i := 2) (N := some 19) (v := ?_) (a' := ?_) (bs 7 10) rfl rfl HT_ ?_ ?_ ?_
   rotate_left
   ·intro w'
    go_simp
    with_reducible rfl
   rotate_left
   ·simp only[pA,pS,pZ,pK,pV]
    rfl
   refine pu (i := 4) (N := some 21) (v := ?_) (a' := ?_) (bs 23 10) rfl rfl HT_ ?_ ?_ ?_
   rotate_left
   ·intro w'
    go_simp
    with_reducible rfl
   rotate_left
   ·simp only[pA,pS,pZ,pK,pV]
    rfl
   refine pu (i := 5) (N := some 22) (v := ?_) (a' := ?_) (bs 55 10) rfl rfl HT_ ?_ ?_ ?_
   rotate_left
   ·intro w'
    go_simp
    with_reducible rfl
   rotate_left
   ·simp only[pA,pS,pZ,pK,pV]
    rfl
   refine pu (i := 6) (N := some 23) (v := ?_) (a' := ?_) (bs 119 10) rfl rfl HT_ ?_ ?_ ?_
   rotate_left
   ·intro w'
    go_simp
    with_reducible rfl
   rotate_left
   ·simp only[pA,pS,pZ,pK,pV]
    rfl
   refine tk (i := 3) (N := some 20) (v := ?_) (a' := ?_) (bs 127 10) rfl rfl HT_ HW_ ?_ hHeld ?_ ?_
   rotate_left
   ·rintro w' ⟨s0, s1, s2, s3⟩
    go_simp
    with_reducible rfl
   rotate_left
   ·simp only[pA,pS,pZ,pK,pV]
    rfl
   refine tk (i := 7) (N := some 24) (v := ?_) (a' := ?_) (bs 255 10) rfl rfl HT_ HW_ ?_ hHeld ?_ ?_
   rotate_left
   ·rintro w' ⟨s0, s1, s2, s3⟩
    go_simp
    with_reducible rfl
   rotate_left
   ·simp only[pA,pS,pZ,pK,pV]
    rfl
   refine one_ (i := 8) (N := some 25) (bs 511 10) rfl rfl (one_of HT_.out (by kernel_rfl)) (by decide) (fun K hK => ?_)
   refine goes_ Tryz.func58 (by kernel_rfl) rfl #[.agg #[.int .i64 ((rd_T50 l0 x5_1).f0), .int .i64 ((rd_T50 l0 x5_1).f1)], .agg #[.int .i64 ((rd_T50 l1 x5_1).f0), .int .i64 ((rd_T50 l1 x5_1).f1)]] (by rfl) rfl rfl (by (try simp only [List.map_toArray, List.map_cons, List.map_nil]); first | done | rfl | (simp only [List.length_drop, List.length_take]; rfl)) ?_
   with_reducible refine (laws_eqWrite.calls ((rd_T50 l0 x5_1).f0) ((rd_T50 l0 x5_1).f1) ((rd_T50 l1 x5_1).f0) ((rd_T50 l1 x5_1).f1) true _ A7.out).mono ?_
   rintro e w10 ⟨rfl, hb⟩
   refine ⟨_, rfl, ?_⟩
   replace HB := AM_ (below_step (BT HB.out) hb)
   (try clear hb)
   (try clear hb2)
   (try clear hk)
   (try clear hi)
   refine hK.out _ _ ⟨(BD HB.out hw421_0), (BD HB.out hw421_1), (BD HB.out hw422_0), (BD HB.out hw422_1)⟩ (fun hHeld => ?_)
   clear hK K
   refine norm_ (a' := ?_) ?_ ?_
   rotate_left
   ·show Act.put _ (some 25) _ = _
    simp only[pA,pS,pZ,pK,pV]
    rfl
   refine pu (i := 9) (N := some 26) (v := ?_) (a' := ?_) (bs 1023 10) rfl rfl HT_ ?_ ?_ ?_
   rotate_left
   ·intro w'
    go_simp
    with_reducible rfl
   rotate_left
   ·simp only[pA,pS,pZ,pK,pV]
    rfl
   refine done_ (done_of HT_.out (by kernel_rfl)) ?_
   try go_wp2
   go_roundg k1
   case measure => have := HK1.out; omega
   case rel => exact ⟨(wrap64 (x5_1 + 1)), (by first | rfl | (simp; done) | (simp [*]; done)), H', ⟨by have := HK1.out; omega⟩, ⟨BT HB.out⟩⟩

end Go.Proofs.YtdfbmaiboadodaaGreatDoor.PFnExactParseHistory
