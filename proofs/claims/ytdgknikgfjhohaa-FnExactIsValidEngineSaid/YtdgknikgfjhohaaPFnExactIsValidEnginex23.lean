-- Printed by wip/myprint.py.
import Derived.Test.YtdgknikgfjhohaaPFnExactIsValidEnginex22
namespace Go.Proofs.Ytdgknikgfjhohaa.PFnExactIsValidEngine
open Go.RowKit Go.Proofs.YtdgknikgfjhohaaW.PrintWords Go.Proofs.YtdgknikgfjhohaaW.PrintLast Go.Proofs.YtdgknikgfjhohaaW.PrintMore
set_option maxHeartbeats 8000000
set_option maxRecDepth 100000
set_option linter.unusedVariables false
set_option linter.unusedSimpArgs false

/-! ### laws_eqStore: function 49 -/
def laws_eqStore.f (k : Nat) (l0_0 : List (List (S52))) (l1_0 : List (List (S52))) : Option (Bool) := (laws_eqVersionSS.f k l0_0 l1_0).bind fun t443 => (if t443 = true then (some true) else (some false))
theorem laws_eqStore.mono : ∀ a0 a1 k, LeO (laws_eqStore.f k a0 a1) (laws_eqStore.f (k + 1) a0 a1) := by
 intro a0 a1 k
 unfold laws_eqStore.f
 repeat' (with_reducible first | exact laws_eqVersionSS.mono .. | exact LeO.refl _ | exact LeO.none _ | refine LeO.ite ?_ ?_ | refine LeO.bind ?_ (fun _ => ?_))
theorem laws_eqStore.calls (k : Nat) (A0_0 : Option Addr) (c0_0 : Nat) (l0_0 : List (List (S52))) (A1_0 : Option Addr) (c1_0 : Nat) (l1_0 : List (List (S52))) (r : Bool) (w : World) (hr0_0 : Kd.C (Kd.slice 52 k52) w A0_0 l0_0.length l0_0) (hc0_0 : l0_0.length ≤ c0_0) (hr1_0 : Kd.C (Kd.slice 52 k52) w A1_0 l1_0.length l1_0) (hc1_0 : l1_0.length ≤ c1_0) (h : laws_eqStore.f k l0_0 l1_0 = some r) :
  Calls Try.prog 49 #[.agg #[.slice A0_0 l0_0.length c0_0], .agg #[.slice A1_0 l1_0.length c1_0]] w fun e w' => e = .returned (.bool r) ∧ Below w.heap.size w w' := by
 have hu34 := Try.underlying34
 have HR0_0 := AM_ hr0_0
 have HC0_0 := AM_ hc0_0
 clear hr0_0 hc0_0
 have HR1_0 := AM_ hr1_0
 have HC1_0 := AM_ hc1_0
 clear hr1_0 hc1_0
 have HB := AM_ (Below.refl w.heap.size w)
 unfold laws_eqStore.f at h
 have H := h
 clear h
 obtain ⟨t443, A3, H⟩ := OB H
 by_cases c4 : t443 = true
 ·subst c4
  replace H := HT H
  obtain rfl := Option.some.inj H
  go_enter Try.func49, Try.ntmps49
  go_wp2_with (first | ((with_reducible refine G2 2 rfl ?_); refine BY 2 #[.slice A0_0 l0_0.length c0_0] 34 HB ?_; clear HB; intro gb441 w5 BK441 GW441 HB) | ((with_reducible refine G2 3 rfl ?_); refine BZ 3 #[.slice A1_0 l1_0.length c1_0] 34 HB ?_; clear HB; intro gb442 w6 hg hb BK442 GW442 HB; have NB441_442 := NP BK441 hg; have NB442_441 := NQ BK441 hg; replace BK441 := BV BK441 hb; clear hb hg; have hnb7 := NB441_442.out; have hnc7 := NB442_441.out; obtain ⟨hcz8_0, hfz8_0⟩ := bk1 BK441.out; obtain ⟨hcz9_0, hfz9_0⟩ := bk1 BK442.out) | ((with_reducible refine G1 83 rfl ?_); refine GC (some 9) Try.func83 #[.slice A0_0 l0_0.length c0_0, .slice A1_0 l1_0.length c1_0] ?_; (with_reducible refine MB (laws_eqVersionSS.calls k _ _ l0_0 _ _ l1_0 true _ (CC HR0_0 HB) HC0_0.out (CC HR1_0 HB) HC1_0.out A3.out) ?_); intro w10 hb; replace BK441 := BV BK441 hb; replace BK442 := BV BK442 hb; replace HB := BW HB hb; (try clear hb)))
  go_ret
  exact QT (BT HB.out)
 replace c4 := Bool.eq_false_iff.mpr c4
 subst c4
 replace H := HF H
 obtain rfl := Option.some.inj H
 go_enter Try.func49, Try.ntmps49
 go_wp2_with (first | ((with_reducible refine G2 2 rfl ?_); refine BY 2 #[.slice A0_0 l0_0.length c0_0] 34 HB ?_; clear HB; intro gb441 w11 BK441 GW441 HB) | ((with_reducible refine G2 3 rfl ?_); refine BZ 3 #[.slice A1_0 l1_0.length c1_0] 34 HB ?_; clear HB; intro gb442 w12 hg hb BK442 GW442 HB; have NB441_442 := NP BK441 hg; have NB442_441 := NQ BK441 hg; replace BK441 := BV BK441 hb; clear hb hg; have hnb13 := NB441_442.out; have hnc13 := NB442_441.out; obtain ⟨hcz14_0, hfz14_0⟩ := bk1 BK441.out; obtain ⟨hcz15_0, hfz15_0⟩ := bk1 BK442.out) | ((with_reducible refine G1 83 rfl ?_); refine GC (some 9) Try.func83 #[.slice A0_0 l0_0.length c0_0, .slice A1_0 l1_0.length c1_0] ?_; (with_reducible refine MB (laws_eqVersionSS.calls k _ _ l0_0 _ _ l1_0 false _ (CC HR0_0 HB) HC0_0.out (CC HR1_0 HB) HC1_0.out A3.out) ?_); intro w16 hb; replace BK441 := BV BK441 hb; replace BK442 := BV BK442 hb; replace HB := BW HB hb; (try clear hb)))
 go_ret
 exact QT (BT HB.out)

/-! ### laws_eqReadMark: function 135 -/
def laws_eqReadMark.f (a0_0 : Int) (a0_1 : Int) (a1_0 : Int) (a1_1 : Int) : Option (Bool) := if a0_0 = a1_0 then (if a0_1 = a1_1 then (some true) else (some false)) else (some false)
theorem laws_eqReadMark.calls (a0_0 : Int) (a0_1 : Int) (a1_0 : Int) (a1_1 : Int) (r : Bool) (w : World) (h : laws_eqReadMark.f a0_0 a0_1 a1_0 a1_1 = some r) :
  Calls Try.prog 135 #[.agg #[.int .i64 a0_0, .int .i64 a0_1], .agg #[.int .i64 a1_0, .int .i64 a1_1]] w fun e w' => e = .returned (.bool r) ∧ Below w.heap.size w w' := by
 have hu116 := Try.underlying116
 have HB := AM_ (Below.refl w.heap.size w)
 unfold laws_eqReadMark.f at h
 have H := h
 clear h
 by_cases c3 : a0_0 = a1_0
 rotate_left
 ·rw [if_neg c3] at H
  have c3b0 : (a0_0 == a1_0) = false := beq_eq_false_iff_ne.mpr c3
  have c3b1 : (a0_0 != a1_0) = true := bne_iff_ne.mpr c3
  obtain rfl := Option.some.inj H
  go_enter Try.func135, Try.ntmps135
  go_wp2_with (first | ((with_reducible refine G2 2 rfl ?_); refine BY 2 #[.int .i64 a0_0, .int .i64 a0_1] 116 HB ?_; clear HB; intro gb444 w15 BK444 GW444 HB) | ((with_reducible refine G2 3 rfl ?_); refine BZ 3 #[.int .i64 a1_0, .int .i64 a1_1] 116 HB ?_; clear HB; intro gb445 w16 hg hb BK445 GW445 HB; have NB444_445 := NP BK444 hg; have NB445_444 := NQ BK444 hg; replace BK444 := BV BK444 hb; clear hb hg; have hnb17 := NB444_445.out; have hnc17 := NB445_444.out; obtain ⟨hcz18_0, hcz18_1, hfz18_0, hfz18_1⟩ := bk2 BK444.out; obtain ⟨hcz19_0, hcz19_1, hfz19_0, hfz19_1⟩ := bk2 BK445.out))
  go_ret
  exact QT (BT HB.out)
 rw [if_pos c3] at H
 have c3b0 : (a0_0 == a1_0) = true := beq_iff_eq.mpr c3
 have c3b1 : (a0_0 != a1_0) = false := bne_eq_false_iff_eq.mpr c3
 clear c3
 by_cases c4 : a0_1 = a1_1
 ·rw [if_pos c4] at H
  have c4b0 : (a0_1 == a1_1) = true := beq_iff_eq.mpr c4
  have c4b1 : (a0_1 != a1_1) = false := bne_eq_false_iff_eq.mpr c4
  clear c4
  obtain rfl := Option.some.inj H
  go_enter Try.func135, Try.ntmps135
  go_wp2_with (first | ((with_reducible refine G2 2 rfl ?_); refine BY 2 #[.int .i64 a0_0, .int .i64 a0_1] 116 HB ?_; clear HB; intro gb444 w5 BK444 GW444 HB) | ((with_reducible refine G2 3 rfl ?_); refine BZ 3 #[.int .i64 a1_0, .int .i64 a1_1] 116 HB ?_; clear HB; intro gb445 w6 hg hb BK445 GW445 HB; have NB444_445 := NP BK444 hg; have NB445_444 := NQ BK444 hg; replace BK444 := BV BK444 hb; clear hb hg; have hnb7 := NB444_445.out; have hnc7 := NB445_444.out; obtain ⟨hcz8_0, hcz8_1, hfz8_0, hfz8_1⟩ := bk2 BK444.out; obtain ⟨hcz9_0, hcz9_1, hfz9_0, hfz9_1⟩ := bk2 BK445.out))
  go_ret
  exact QT (BT HB.out)
 rw [if_neg c4] at H
 have c4b0 : (a0_1 == a1_1) = false := beq_eq_false_iff_ne.mpr c4
 have c4b1 : (a0_1 != a1_1) = true := bne_iff_ne.mpr c4
 obtain rfl := Option.some.inj H
 go_enter Try.func135, Try.ntmps135
 go_wp2_with (first | ((with_reducible refine G2 2 rfl ?_); refine BY 2 #[.int .i64 a0_0, .int .i64 a0_1] 116 HB ?_; clear HB; intro gb444 w10 BK444 GW444 HB) | ((with_reducible refine G2 3 rfl ?_); refine BZ 3 #[.int .i64 a1_0, .int .i64 a1_1] 116 HB ?_; clear HB; intro gb445 w11 hg hb BK445 GW445 HB; have NB444_445 := NP BK444 hg; have NB445_444 := NQ BK444 hg; replace BK444 := BV BK444 hb; clear hb hg; have hnb12 := NB444_445.out; have hnc12 := NB445_444.out; obtain ⟨hcz13_0, hcz13_1, hfz13_0, hfz13_1⟩ := bk2 BK444.out; obtain ⟨hcz14_0, hcz14_1, hfz14_0, hfz14_1⟩ := bk2 BK445.out))
 go_ret
 exact QT (BT HB.out)

/-! ### laws_eqReadMarkS: function 119 -/
def laws_eqReadMarkS.l0 : Nat → List (S116) → List (S116) → Int → Option (Bool)
 | 0, _, _, _ => none
 | k + 1, x0, x1, x5 => if x5 < (x0.length : Int) then (if 0 ≤ x5 then (if x5 < (x1.length : Int) then ((laws_eqReadMark.f ((rd_T116 x0 x5).f0) ((rd_T116 x0 x5).f1) ((rd_T116 x1 x5).f0) ((rd_T116 x1 x5).f1)).bind fun t448 => (if t448 = true then (laws_eqReadMarkS.l0 k x0 x1 (wrap64 (x5 + 1))) else (some false))) else (none)) else (none)) else (some true)
def laws_eqReadMarkS.f (k : Nat) (l0 : List (S116)) (l1 : List (S116)) : Option (Bool) := if (l0.length : Int) = (l1.length : Int) then (laws_eqReadMarkS.l0 k l0 l1 0) else (some false)
theorem laws_eqReadMarkS.mono_l : ∀ k, (∀ y0 y1 y2, LeO (laws_eqReadMarkS.l0 k y0 y1 y2) (laws_eqReadMarkS.l0 (k + 1) y0 y1 y2))
 | 0 => fun _ _ _ r h => by simp [laws_eqReadMarkS.l0] at h
 | k + 1 => by
  have ih0 := laws_eqReadMarkS.mono_l k
  all_goals intros; unfold laws_eqReadMarkS.l0
  all_goals repeat' (with_reducible first | exact ih0 .. | exact LeO.refl _ | exact LeO.none _ | refine LeO.ite ?_ ?_ | refine LeO.bind ?_ (fun _ => ?_))
theorem laws_eqReadMarkS.mono : ∀ a0 a1 k, LeO (laws_eqReadMarkS.f k a0 a1) (laws_eqReadMarkS.f (k + 1) a0 a1) := by
 intro a0 a1 k
 have ih0 := laws_eqReadMarkS.mono_l k
 unfold laws_eqReadMarkS.f
 repeat' (with_reducible first | exact ih0 .. | exact LeO.refl _ | exact LeO.none _ | refine LeO.ite ?_ ?_ | refine LeO.bind ?_ (fun _ => ?_))
def laws_eqReadMarkS.T6 : Bool × List (List Nat × List Nat) := (true, [([], []), ([], []), ([0, 1], [0, 1]), ([2], [2]), ([], []), ([], []), ([4, 5], [4, 5]), ([6], [6]), ([3, 7], [3, 7]), ([8], [8])])
def laws_eqReadMarkS.B6 : List Nat := [0, 0, 3, 7, 0, 0, 48, 112, 255, 511]
theorem laws_eqReadMarkS.tab6 : rtab .any (opsOf Try.f119 6) = laws_eqReadMarkS.T6 := by kernel_rfl
theorem laws_eqReadMarkS.bits6 : waitsOk laws_eqReadMarkS.T6.2 laws_eqReadMarkS.B6 = true := by kernel_rfl
theorem laws_eqReadMarkS.calls (k : Nat) (A0 : Option Addr) (c0 : Nat) (l0 : List (S116)) (A1 : Option Addr) (c1 : Nat) (l1 : List (S116)) (r : Bool) (w : World) (hr0 : Kd.C k116 w A0 l0.length l0) (hc0 : l0.length ≤ c0) (hr1 : Kd.C k116 w A1 l1.length l1) (hc1 : l1.length ≤ c1) (h : laws_eqReadMarkS.f k l0 l1 = some r) :
  Calls Try.prog 119 #[.slice A0 l0.length c0, .slice A1 l1.length c1] w fun e w' => e = .returned (.bool r) ∧ Below w.heap.size w w' := by
 have hu116 := Try.underlying116
 have HR0 := AM_ hr0
 have HC0 := AM_ hc0
 clear hr0 hc0
 have HR1 := AM_ hr1
 have HC1 := AM_ hc1
 clear hr1 hc1
 have HB := AM_ (Below.refl w.heap.size w)
 unfold laws_eqReadMarkS.f at h
 have H := h
 clear h
 by_cases c3 : (l0.length : Int) = (l1.length : Int)
 rotate_left
 ·rw [if_neg c3] at H
  have c3b0 : ((l0.length : Int) == (l1.length : Int)) = false := beq_eq_false_iff_ne.mpr c3
  have c3b1 : ((l0.length : Int) != (l1.length : Int)) = true := bne_iff_ne.mpr c3
  have c3b2 : (l0.length == l1.length) = false := by first | simpa using c3 | (simp at c3 ⊢; omega)
  obtain rfl := Option.some.inj H
  go_enter Try.func119, Try.ntmps119
  go_wp2
  go_ret
  exact QT (BT HB.out)
 rw [if_pos c3] at H
 have c3b0 : ((l0.length : Int) == (l1.length : Int)) = true := beq_iff_eq.mpr c3
 have c3b1 : ((l0.length : Int) != (l1.length : Int)) = false := bne_eq_false_iff_eq.mpr c3
 have c3b2 : (l0.length == l1.length) = true := by first | simpa using c3 | (simp at c3 ⊢; omega)
 clear c3
 have H' := AM_ H
 clear H
 go_enter Try.func119, Try.ntmps119
 go_wp2
 go_loopg [5] k (fun kq v5 w' => ∃ (x5_1 : Int), v5 = .int .i64 x5_1 ∧ Aside0 (laws_eqReadMarkS.l0 kq l0 l1 x5_1 = some r) ∧ Aside0 (kq ≤ k) ∧ Aside0 (Below w.heap.size w w'))
 case atStart => exact ⟨(0), (by first | rfl | (simp; done) | (simp [*]; done)), H', ⟨Nat.le_refl _⟩, ⟨BT HB.out⟩⟩
 case round =>
  clear H'
  try clear c1
  try clear c3
  try clear c3b0
  try clear c3b1
  try clear c3b2
  obtain ⟨x5_1, rfl, HA, HK1, HB⟩ := hrel
  cases gk with
  | zero => exact absurd HA.out (by simp [laws_eqReadMarkS.l0])
  | succ k1 =>
   have H := HA.out
   clear HA
   simp only [laws_eqReadMarkS.l0] at H
   by_cases c4 : x5_1 < (l0.length : Int)
   rotate_left
   ·rw [if_neg c4] at H
    have c4b0 := decide_eq_false c4
    clear c4
    obtain rfl := Option.some.inj H
    go_wp2
    go_ret
    exact QT (BT HB.out)
   rw [if_pos c4] at H
   have c4b0 := decide_eq_true c4
   clear c4
   replace H := HI H
   obtain ⟨c5, H⟩ := H
   have c5b0 := decide_eq_true c5
   clear c5
   replace H := HI H
   obtain ⟨c6, H⟩ := H
   have c6b0 := decide_eq_true c6
   clear c6
   obtain ⟨t448, A7, H⟩ := OB H
   try go_wp2
   replace HB := BD2 HB
   have p446 : 0 ≤ (x5_1 : Int) := DT
   have q446 : x5_1 < (l0.length : Int) := DT
   obtain ⟨ad446, e446, hx446_0, hx446_1⟩ := at_T116 HR0.out x5_1 p446 q446
   have hw446_1 := hx446_1
   have hw446_0 := hx446_0
   cases e446
   replace hx446_0 := BC HB.out hx446_0
   replace hx446_1 := BC HB.out hx446_1
   replace p446 := eq_true p446
   replace q446 := eq_true q446
   have p447 : 0 ≤ (x5_1 : Int) := DT
   have q447 : x5_1 < (l1.length : Int) := DT
   obtain ⟨ad447, e447, hx447_0, hx447_1⟩ := at_T116 HR1.out x5_1 p447 q447
   have hw447_1 := hx447_1
   have hw447_0 := hx447_0
   cases e447
   replace hx447_0 := BC HB.out hx447_0
   replace hx447_1 := BC HB.out hx447_1
   replace p447 := eq_true p447
   replace q447 := eq_true q447
   refine start_ (n := 10) (S := fun w' => w'.cell? (ad446.add ((x5_1).toNat * 2)) = some (.int .i64 ((rd_T116 l0 x5_1).f0)) ∧ w'.cell? ⟨(ad446.add ((x5_1).toNat * 2)).block, (ad446.add ((x5_1).toNat * 2)).off + 1, none⟩ = some (.int .i64 ((rd_T116 l0 x5_1).f1)) ∧ w'.cell? (ad447.add ((x5_1).toNat * 2)) = some (.int .i64 ((rd_T116 l1 x5_1).f0)) ∧ w'.cell? ⟨(ad447.add ((x5_1).toNat * 2)).block, (ad447.add ((x5_1).toNat * 2)).off + 1, none⟩ = some (.int .i64 ((rd_T116 l1 x5_1).f1))) (ds := []) (lo 0 10) (by kernel_rfl) rfl rfl ⟨(BD HB.out hw446_0), (BD HB.out hw446_1), (BD HB.out hw447_0), (BD HB.out hw447_1)⟩ (fun hHeld => ?_); refine with_tabW laws_eqReadMarkS.tab6 laws_eqReadMarkS.bits6 (fun HT_ HW_ => ?_)
   generalize wr.drew = w9 at HB hx446_0 hx446_1 hx447_0 hx447_1 hHeld ⊢
   iterate 3 refine PS HT_ ?_
   refine PV 4 (some 21) (bs 23 10) HT_ ?_
   refine PV 5 (some 22) (bs 55 10) HT_ ?_
   refine PV 6 (some 23) (bs 119 10) HT_ ?_
   refine TX 3 (some 20) (lo 7 10) HT_ HW_ hHeld ?_
   refine TS HT_ HW_ hHeld ?_
   refine OS HT_ (fun K hK => ?_)
   refine GO Try.func135 #[.agg #[.int .i64 ((rd_T116 l0 x5_1).f0), .int .i64 ((rd_T116 l0 x5_1).f1)], .agg #[.int .i64 ((rd_T116 l1 x5_1).f0), .int .i64 ((rd_T116 l1 x5_1).f1)]] ?_
   with_reducible refine MB (laws_eqReadMark.calls ((rd_T116 l0 x5_1).f0) ((rd_T116 l0 x5_1).f1) ((rd_T116 l1 x5_1).f0) ((rd_T116 l1 x5_1).f1) t448 _ A7.out) ?_
   intro w10 hb
   replace HB := BW HB hb
   (try clear hb)
   refine hK.out _ _ ⟨(BD HB.out hw446_0), (BD HB.out hw446_1), (BD HB.out hw447_0), (BD HB.out hw447_1)⟩ (fun hHeld => ?_)
   clear hK K
   refine NM 25 ?_
   by_cases c8 : t448 = true
   rotate_left
   ·replace c8 := Bool.eq_false_iff.mpr c8
    subst c8
    replace H := HF H
    obtain rfl := Option.some.inj H
    refine PS HT_ ?_
    refine done_ (done_of HT_.out (by kernel_rfl)) ?_
    try go_wp2
    go_ret
    exact QT (BT HB.out)
   subst c8
   replace H := HT H
   have H' := AM_ H
   clear H
   refine PS HT_ ?_
   refine done_ (done_of HT_.out (by kernel_rfl)) ?_
   try go_wp2
   go_roundg k1
   case measure => have := HK1.out; omega
   case rel => exact ⟨(wrap64 (x5_1 + 1)), (by first | rfl | (simp; done) | (simp [*]; done)), H', ⟨by have := HK1.out; omega⟩, ⟨BT HB.out⟩⟩

/-! ### laws_eqWrite: function 136 -/
def laws_eqWrite.f (a0_0 : Int) (a0_1 : Int) (a1_0 : Int) (a1_1 : Int) : Option (Bool) := if a0_0 = a1_0 then (if a0_1 = a1_1 then (some true) else (some false)) else (some false)
theorem laws_eqWrite.calls (a0_0 : Int) (a0_1 : Int) (a1_0 : Int) (a1_1 : Int) (r : Bool) (w : World) (h : laws_eqWrite.f a0_0 a0_1 a1_0 a1_1 = some r) :
  Calls Try.prog 136 #[.agg #[.int .i64 a0_0, .int .i64 a0_1], .agg #[.int .i64 a1_0, .int .i64 a1_1]] w fun e w' => e = .returned (.bool r) ∧ Below w.heap.size w w' := by
 have hu103 := Try.underlying103
 have HB := AM_ (Below.refl w.heap.size w)
 unfold laws_eqWrite.f at h
 have H := h
 clear h
 by_cases c3 : a0_0 = a1_0
 rotate_left
 ·rw [if_neg c3] at H
  have c3b0 : (a0_0 == a1_0) = false := beq_eq_false_iff_ne.mpr c3
  have c3b1 : (a0_0 != a1_0) = true := bne_iff_ne.mpr c3
  obtain rfl := Option.some.inj H
  go_enter Try.func136, Try.ntmps136
  go_wp2_with (first | ((with_reducible refine G2 2 rfl ?_); refine BY 2 #[.int .i64 a0_0, .int .i64 a0_1] 103 HB ?_; clear HB; intro gb449 w15 BK449 GW449 HB) | ((with_reducible refine G2 3 rfl ?_); refine BZ 3 #[.int .i64 a1_0, .int .i64 a1_1] 103 HB ?_; clear HB; intro gb450 w16 hg hb BK450 GW450 HB; have NB449_450 := NP BK449 hg; have NB450_449 := NQ BK449 hg; replace BK449 := BV BK449 hb; clear hb hg; have hnb17 := NB449_450.out; have hnc17 := NB450_449.out; obtain ⟨hcz18_0, hcz18_1, hfz18_0, hfz18_1⟩ := bk2 BK449.out; obtain ⟨hcz19_0, hcz19_1, hfz19_0, hfz19_1⟩ := bk2 BK450.out))
  go_ret
  exact QT (BT HB.out)
 rw [if_pos c3] at H
 have c3b0 : (a0_0 == a1_0) = true := beq_iff_eq.mpr c3
 have c3b1 : (a0_0 != a1_0) = false := bne_eq_false_iff_eq.mpr c3
 clear c3
 by_cases c4 : a0_1 = a1_1
 ·rw [if_pos c4] at H
  have c4b0 : (a0_1 == a1_1) = true := beq_iff_eq.mpr c4
  have c4b1 : (a0_1 != a1_1) = false := bne_eq_false_iff_eq.mpr c4
  clear c4
  obtain rfl := Option.some.inj H
  go_enter Try.func136, Try.ntmps136
  go_wp2_with (first | ((with_reducible refine G2 2 rfl ?_); refine BY 2 #[.int .i64 a0_0, .int .i64 a0_1] 103 HB ?_; clear HB; intro gb449 w5 BK449 GW449 HB) | ((with_reducible refine G2 3 rfl ?_); refine BZ 3 #[.int .i64 a1_0, .int .i64 a1_1] 103 HB ?_; clear HB; intro gb450 w6 hg hb BK450 GW450 HB; have NB449_450 := NP BK449 hg; have NB450_449 := NQ BK449 hg; replace BK449 := BV BK449 hb; clear hb hg; have hnb7 := NB449_450.out; have hnc7 := NB450_449.out; obtain ⟨hcz8_0, hcz8_1, hfz8_0, hfz8_1⟩ := bk2 BK449.out; obtain ⟨hcz9_0, hcz9_1, hfz9_0, hfz9_1⟩ := bk2 BK450.out))
  go_ret
  exact QT (BT HB.out)
 rw [if_neg c4] at H
 have c4b0 : (a0_1 == a1_1) = false := beq_eq_false_iff_ne.mpr c4
 have c4b1 : (a0_1 != a1_1) = true := bne_iff_ne.mpr c4
 obtain rfl := Option.some.inj H
 go_enter Try.func136, Try.ntmps136
 go_wp2_with (first | ((with_reducible refine G2 2 rfl ?_); refine BY 2 #[.int .i64 a0_0, .int .i64 a0_1] 103 HB ?_; clear HB; intro gb449 w10 BK449 GW449 HB) | ((with_reducible refine G2 3 rfl ?_); refine BZ 3 #[.int .i64 a1_0, .int .i64 a1_1] 103 HB ?_; clear HB; intro gb450 w11 hg hb BK450 GW450 HB; have NB449_450 := NP BK449 hg; have NB450_449 := NQ BK449 hg; replace BK449 := BV BK449 hb; clear hb hg; have hnb12 := NB449_450.out; have hnc12 := NB450_449.out; obtain ⟨hcz13_0, hcz13_1, hfz13_0, hfz13_1⟩ := bk2 BK449.out; obtain ⟨hcz14_0, hcz14_1, hfz14_0, hfz14_1⟩ := bk2 BK450.out))
 go_ret
 exact QT (BT HB.out)

/-! ### laws_eqWriteS: function 120 -/
def laws_eqWriteS.l0 : Nat → List (S103) → List (S103) → Int → Option (Bool)
 | 0, _, _, _ => none
 | k + 1, x0, x1, x5 => if x5 < (x0.length : Int) then (if 0 ≤ x5 then (if x5 < (x1.length : Int) then ((laws_eqWrite.f ((rd_T103 x0 x5).f0) ((rd_T103 x0 x5).f1) ((rd_T103 x1 x5).f0) ((rd_T103 x1 x5).f1)).bind fun t453 => (if t453 = true then (laws_eqWriteS.l0 k x0 x1 (wrap64 (x5 + 1))) else (some false))) else (none)) else (none)) else (some true)
def laws_eqWriteS.f (k : Nat) (l0 : List (S103)) (l1 : List (S103)) : Option (Bool) := if (l0.length : Int) = (l1.length : Int) then (laws_eqWriteS.l0 k l0 l1 0) else (some false)
theorem laws_eqWriteS.mono_l : ∀ k, (∀ y0 y1 y2, LeO (laws_eqWriteS.l0 k y0 y1 y2) (laws_eqWriteS.l0 (k + 1) y0 y1 y2))
 | 0 => fun _ _ _ r h => by simp [laws_eqWriteS.l0] at h
 | k + 1 => by
  have ih0 := laws_eqWriteS.mono_l k
  all_goals intros; unfold laws_eqWriteS.l0
  all_goals repeat' (with_reducible first | exact ih0 .. | exact LeO.refl _ | exact LeO.none _ | refine LeO.ite ?_ ?_ | refine LeO.bind ?_ (fun _ => ?_))
theorem laws_eqWriteS.mono : ∀ a0 a1 k, LeO (laws_eqWriteS.f k a0 a1) (laws_eqWriteS.f (k + 1) a0 a1) := by
 intro a0 a1 k
 have ih0 := laws_eqWriteS.mono_l k
 unfold laws_eqWriteS.f
 repeat' (with_reducible first | exact ih0 .. | exact LeO.refl _ | exact LeO.none _ | refine LeO.ite ?_ ?_ | refine LeO.bind ?_ (fun _ => ?_))
def laws_eqWriteS.T6 : Bool × List (List Nat × List Nat) := (true, [([], []), ([], []), ([0, 1], [0, 1]), ([2], [2]), ([], []), ([], []), ([4, 5], [4, 5]), ([6], [6]), ([3, 7], [3, 7]), ([8], [8])])
def laws_eqWriteS.B6 : List Nat := [0, 0, 3, 7, 0, 0, 48, 112, 255, 511]
theorem laws_eqWriteS.tab6 : rtab .any (opsOf Try.f120 6) = laws_eqWriteS.T6 := by kernel_rfl
theorem laws_eqWriteS.bits6 : waitsOk laws_eqWriteS.T6.2 laws_eqWriteS.B6 = true := by kernel_rfl
theorem laws_eqWriteS.calls (k : Nat) (A0 : Option Addr) (c0 : Nat) (l0 : List (S103)) (A1 : Option Addr) (c1 : Nat) (l1 : List (S103)) (r : Bool) (w : World) (hr0 : Kd.C k103 w A0 l0.length l0) (hc0 : l0.length ≤ c0) (hr1 : Kd.C k103 w A1 l1.length l1) (hc1 : l1.length ≤ c1) (h : laws_eqWriteS.f k l0 l1 = some r) :
  Calls Try.prog 120 #[.slice A0 l0.length c0, .slice A1 l1.length c1] w fun e w' => e = .returned (.bool r) ∧ Below w.heap.size w w' := by
 have hu103 := Try.underlying103
 have HR0 := AM_ hr0
 have HC0 := AM_ hc0
 clear hr0 hc0
 have HR1 := AM_ hr1
 have HC1 := AM_ hc1
 clear hr1 hc1
 have HB := AM_ (Below.refl w.heap.size w)
 unfold laws_eqWriteS.f at h
 have H := h
 clear h
 by_cases c3 : (l0.length : Int) = (l1.length : Int)
 rotate_left
 ·rw [if_neg c3] at H
  have c3b0 : ((l0.length : Int) == (l1.length : Int)) = false := beq_eq_false_iff_ne.mpr c3
  have c3b1 : ((l0.length : Int) != (l1.length : Int)) = true := bne_iff_ne.mpr c3
  have c3b2 : (l0.length == l1.length) = false := by first | simpa using c3 | (simp at c3 ⊢; omega)
  obtain rfl := Option.some.inj H
  go_enter Try.func120, Try.ntmps120
  go_wp2
  go_ret
  exact QT (BT HB.out)
 rw [if_pos c3] at H
 have c3b0 : ((l0.length : Int) == (l1.length : Int)) = true := beq_iff_eq.mpr c3
 have c3b1 : ((l0.length : Int) != (l1.length : Int)) = false := bne_eq_false_iff_eq.mpr c3
 have c3b2 : (l0.length == l1.length) = true := by first | simpa using c3 | (simp at c3 ⊢; omega)
 clear c3
 have H' := AM_ H
 clear H
 go_enter Try.func120, Try.ntmps120
 go_wp2
 go_loopg [5] k (fun kq v5 w' => ∃ (x5_1 : Int), v5 = .int .i64 x5_1 ∧ Aside0 (laws_eqWriteS.l0 kq l0 l1 x5_1 = some r) ∧ Aside0 (kq ≤ k) ∧ Aside0 (Below w.heap.size w w'))
 case atStart => exact ⟨(0), (by first | rfl | (simp; done) | (simp [*]; done)), H', ⟨Nat.le_refl _⟩, ⟨BT HB.out⟩⟩
 case round =>
  clear H'
  try clear c1
  try clear c3
  try clear c3b0
  try clear c3b1
  try clear c3b2
  obtain ⟨x5_1, rfl, HA, HK1, HB⟩ := hrel
  cases gk with
  | zero => exact absurd HA.out (by simp [laws_eqWriteS.l0])
  | succ k1 =>
   have H := HA.out
   clear HA
   simp only [laws_eqWriteS.l0] at H
   by_cases c4 : x5_1 < (l0.length : Int)
   rotate_left
   ·rw [if_neg c4] at H
    have c4b0 := decide_eq_false c4
    clear c4
    obtain rfl := Option.some.inj H
    go_wp2
    go_ret
    exact QT (BT HB.out)
   rw [if_pos c4] at H
   have c4b0 := decide_eq_true c4
   clear c4
   replace H := HI H
   obtain ⟨c5, H⟩ := H
   have c5b0 := decide_eq_true c5
   clear c5
   replace H := HI H
   obtain ⟨c6, H⟩ := H
   have c6b0 := decide_eq_true c6
   clear c6
   obtain ⟨t453, A7, H⟩ := OB H
   try go_wp2
   replace HB := BD2 HB
   have p451 : 0 ≤ (x5_1 : Int) := DT
   have q451 : x5_1 < (l0.length : Int) := DT
   obtain ⟨ad451, e451, hx451_0, hx451_1⟩ := at_T103 HR0.out x5_1 p451 q451
   have hw451_1 := hx451_1
   have hw451_0 := hx451_0
   cases e451
   replace hx451_0 := BC HB.out hx451_0
   replace hx451_1 := BC HB.out hx451_1
   replace p451 := eq_true p451
   replace q451 := eq_true q451
   have p452 : 0 ≤ (x5_1 : Int) := DT
   have q452 : x5_1 < (l1.length : Int) := DT
   obtain ⟨ad452, e452, hx452_0, hx452_1⟩ := at_T103 HR1.out x5_1 p452 q452
   have hw452_1 := hx452_1
   have hw452_0 := hx452_0
   cases e452
   replace hx452_0 := BC HB.out hx452_0
   replace hx452_1 := BC HB.out hx452_1
   replace p452 := eq_true p452
   replace q452 := eq_true q452
   refine start_ (n := 10) (S := fun w' => w'.cell? (ad451.add ((x5_1).toNat * 2)) = some (.int .i64 ((rd_T103 l0 x5_1).f0)) ∧ w'.cell? ⟨(ad451.add ((x5_1).toNat * 2)).block, (ad451.add ((x5_1).toNat * 2)).off + 1, none⟩ = some (.int .i64 ((rd_T103 l0 x5_1).f1)) ∧ w'.cell? (ad452.add ((x5_1).toNat * 2)) = some (.int .i64 ((rd_T103 l1 x5_1).f0)) ∧ w'.cell? ⟨(ad452.add ((x5_1).toNat * 2)).block, (ad452.add ((x5_1).toNat * 2)).off + 1, none⟩ = some (.int .i64 ((rd_T103 l1 x5_1).f1))) (ds := []) (lo 0 10) (by kernel_rfl) rfl rfl ⟨(BD HB.out hw451_0), (BD HB.out hw451_1), (BD HB.out hw452_0), (BD HB.out hw452_1)⟩ (fun hHeld => ?_); refine with_tabW laws_eqWriteS.tab6 laws_eqWriteS.bits6 (fun HT_ HW_ => ?_)
   generalize wr.drew = w9 at HB hx451_0 hx451_1 hx452_0 hx452_1 hHeld ⊢
   iterate 3 refine PS HT_ ?_
   refine PV 4 (some 21) (bs 23 10) HT_ ?_
   refine PV 5 (some 22) (bs 55 10) HT_ ?_
   refine PV 6 (some 23) (bs 119 10) HT_ ?_
   refine TX 3 (some 20) (lo 7 10) HT_ HW_ hHeld ?_
   refine TS HT_ HW_ hHeld ?_
   refine OS HT_ (fun K hK => ?_)
   refine GO Try.func136 #[.agg #[.int .i64 ((rd_T103 l0 x5_1).f0), .int .i64 ((rd_T103 l0 x5_1).f1)], .agg #[.int .i64 ((rd_T103 l1 x5_1).f0), .int .i64 ((rd_T103 l1 x5_1).f1)]] ?_
   with_reducible refine MB (laws_eqWrite.calls ((rd_T103 l0 x5_1).f0) ((rd_T103 l0 x5_1).f1) ((rd_T103 l1 x5_1).f0) ((rd_T103 l1 x5_1).f1) t453 _ A7.out) ?_
   intro w10 hb
   replace HB := BW HB hb
   (try clear hb)
   refine hK.out _ _ ⟨(BD HB.out hw451_0), (BD HB.out hw451_1), (BD HB.out hw452_0), (BD HB.out hw452_1)⟩ (fun hHeld => ?_)
   clear hK K
   refine NM 25 ?_
   by_cases c8 : t453 = true
   rotate_left
   ·replace c8 := Bool.eq_false_iff.mpr c8
    subst c8
    replace H := HF H
    obtain rfl := Option.some.inj H
    refine PS HT_ ?_
    refine done_ (done_of HT_.out (by kernel_rfl)) ?_
    try go_wp2
    go_ret
    exact QT (BT HB.out)
   subst c8
   replace H := HT H
   have H' := AM_ H
   clear H
   refine PS HT_ ?_
   refine done_ (done_of HT_.out (by kernel_rfl)) ?_
   try go_wp2
   go_roundg k1
   case measure => have := HK1.out; omega
   case rel => exact ⟨(wrap64 (x5_1 + 1)), (by first | rfl | (simp; done) | (simp [*]; done)), H', ⟨by have := HK1.out; omega⟩, ⟨BT HB.out⟩⟩

end Go.Proofs.Ytdgknikgfjhohaa.PFnExactIsValidEngine
