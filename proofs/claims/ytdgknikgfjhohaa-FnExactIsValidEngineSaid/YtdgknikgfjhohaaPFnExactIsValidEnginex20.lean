-- Printed by wip/myprint.py.
import Derived.Test.YtdgknikgfjhohaaPFnExactIsValidEnginex0
namespace Go.Proofs.Ytdgknikgfjhohaa.PFnExactIsValidEngine
open Go.RowKit Go.Proofs.YtdgknikgfjhohaaW.PrintWords Go.Proofs.YtdgknikgfjhohaaW.PrintLast Go.Proofs.YtdgknikgfjhohaaW.PrintMore
set_option maxHeartbeats 8000000
set_option maxRecDepth 100000
set_option linter.unusedVariables false
set_option linter.unusedSimpArgs false

/-! ### impl_FindTransaction_1: function 117 -/
def impl_FindTransaction_1.f (a0_0 : Int) (a0_1 : Int) (a0_2 : Int) (a0_3 : Int) (a0_4 : Int) (a0_5 : Int) (a0_6 : Int) (l0_7 : List (S116)) (l0_8 : List (S103)) (a1_0 : Int) : Option (Bool) := some (a0_0 == a1_0)
theorem impl_FindTransaction_1.calls (a0_0 : Int) (a0_1 : Int) (a0_2 : Int) (a0_3 : Int) (a0_4 : Int) (a0_5 : Int) (a0_6 : Int) (A0_7 : Option Addr) (c0_7 : Nat) (l0_7 : List (S116)) (A0_8 : Option Addr) (c0_8 : Nat) (l0_8 : List (S103)) (gb1 : Nat) (a1_0 : Int) (r : Bool) (w : World) (hr0_7 : Kd.C k116 w A0_7 l0_7.length l0_7) (hc0_7 : l0_7.length ≤ c0_7) (hr0_8 : Kd.C k103 w A0_8 l0_8.length l0_8) (hc0_8 : l0_8.length ≤ c0_8) (hb1 : w.heap[gb1]? = some (.cells #[.int .i64 a1_0] 3 (0, 0))) (h : impl_FindTransaction_1.f a0_0 a0_1 a0_2 a0_3 a0_4 a0_5 a0_6 l0_7 l0_8 a1_0 = some r) :
  Calls Try.prog 117 #[.agg #[.int .i64 a0_0, .int .i64 a0_1, .int .i64 a0_2, .int .i64 a0_3, .int .i64 a0_4, .int .i64 a0_5, .int .i64 a0_6, .slice A0_7 l0_7.length c0_7, .slice A0_8 l0_8.length c0_8], .pointer (some ⟨gb1, 0, none⟩)] w fun e w' => e = .returned (.bool r) ∧ Below w.heap.size w w' := by
 have hu48 := Try.underlying48
 have BK1 := AM_ hb1
 clear hb1
 have HR0_7 := AM_ hr0_7
 have HC0_7 := AM_ hc0_7
 clear hr0_7 hc0_7
 have HR0_8 := AM_ hr0_8
 have HC0_8 := AM_ hc0_8
 clear hr0_8 hc0_8
 have HB := AM_ (Below.refl w.heap.size w)
 unfold impl_FindTransaction_1.f at h
 have H := h
 clear h
 obtain rfl := Option.some.inj H
 go_enter Try.func117, Try.ntmps117
 go_wp2_with (first | ((with_reducible refine G2 2 rfl ?_); refine BZ 2 #[.int .i64 a0_0, .int .i64 a0_1, .int .i64 a0_2, .int .i64 a0_3, .int .i64 a0_4, .int .i64 a0_5, .int .i64 a0_6, .slice A0_7 l0_7.length c0_7, .slice A0_8 l0_8.length c0_8] 48 HB ?_; clear HB; intro gb404 w3 hg hb BK404 GW404 HB; have NB1_404 := NP BK1 hg; have NB404_1 := NQ BK1 hg; replace BK1 := BV BK1 hb; clear hb hg; have hnb4 := NB404_1.out; have hnc4 := NB1_404.out; obtain ⟨hcz5_0, hcz5_1, hcz5_2, hcz5_3, hcz5_4, hcz5_5, hcz5_6, hcz5_7, hcz5_8, hfz5_0, hfz5_1, hfz5_2, hfz5_3, hfz5_4, hfz5_5, hfz5_6, hfz5_7, hfz5_8⟩ := bk9 BK404.out; obtain ⟨hcz6_0, hfz6_0⟩ := bk1 BK1.out))
 go_ret
 exact QT (BT HB.out)

/-! ### impl_Transaction: function 116 -/
def impl_Transaction.l0 : Nat → List (S48) → Int → Int → Int → Option (Int)
 | 0, _, _, _, _ => none
 | k + 1, x0, x7, x8, x31000 => if x8 < x7 then (if 0 ≤ x8 then (if x8 < (x0.length : Int) then ((impl_FindTransaction_1.f ((rd_T48 x0 x8).f0) ((rd_T48 x0 x8).f1) ((rd_T48 x0 x8).f2) ((rd_T48 x0 x8).f3) ((rd_T48 x0 x8).f4) ((rd_T48 x0 x8).f5) ((rd_T48 x0 x8).f6) ((rd_T48 x0 x8).f7) ((rd_T48 x0 x8).f8) x31000).bind fun t406 => (if t406 = true then (some x8) else (impl_Transaction.l0 k x0 x7 (wrap64 (x8 + 1)) x31000))) else (none)) else (none)) else (some (-1))
def impl_Transaction.f (k : Nat) (l0 : List (S48)) (a1_0_0 : Int) : Option (Int) := impl_Transaction.l0 k l0 (l0.length : Int) 0 a1_0_0
theorem impl_Transaction.mono_l : ∀ k, (∀ y0 y1 y2 y3, LeO (impl_Transaction.l0 k y0 y1 y2 y3) (impl_Transaction.l0 (k + 1) y0 y1 y2 y3))
 | 0 => fun _ _ _ _ r h => by simp [impl_Transaction.l0] at h
 | k + 1 => by
  have ih0 := impl_Transaction.mono_l k
  all_goals intros; unfold impl_Transaction.l0
  all_goals repeat' (with_reducible first | exact ih0 .. | exact LeO.refl _ | exact LeO.none _ | refine LeO.ite ?_ ?_ | refine LeO.bind ?_ (fun _ => ?_))
theorem impl_Transaction.mono : ∀ a0 a1 k, LeO (impl_Transaction.f k a0 a1) (impl_Transaction.f (k + 1) a0 a1) := by
 intro a0 a1 k
 have ih0 := impl_Transaction.mono_l k
 unfold impl_Transaction.f
 repeat' (with_reducible first | exact ih0 .. | exact LeO.refl _ | exact LeO.none _ | refine LeO.ite ?_ ?_ | refine LeO.bind ?_ (fun _ => ?_))
theorem impl_Transaction.calls (k : Nat) (A0 : Option Addr) (c0 : Nat) (l0 : List (S48)) (gb30 : Nat) (a1_0_0 : Int) (r : Int) (w : World) (hr0 : Kd.C k48 w A0 l0.length l0) (hc0 : l0.length ≤ c0) (hb30 : w.heap[gb30]? = some (.cells #[.int .i64 a1_0_0] 3 (0, 0))) (h : impl_Transaction.f k l0 a1_0_0 = some r) :
  Calls Try.prog 116 #[.slice A0 l0.length c0, .func (.func 117) #[] #[.pointer (some ⟨gb30, 0, none⟩)]] w fun e w' => e = .returned (.int .i64 r) ∧ Below w.heap.size w w' := by
 have hu48 := Try.underlying48
 have BK30 := AM_ hb30
 clear hb30
 have HR0 := AM_ hr0
 have HC0 := AM_ hc0
 clear hr0 hc0
 have HB := AM_ (Below.refl w.heap.size w)
 unfold impl_Transaction.f at h
 have H := h
 clear h
 have H' := AM_ H
 clear H
 go_enter Try.func116, Try.ntmps116
 go_wp2
 go_loopg [8] k (fun kq v8 w' => ∃ (x8_1 : Int), v8 = .int .i64 x8_1 ∧ Aside0 (impl_Transaction.l0 kq l0 (l0.length : Int) x8_1 a1_0_0 = some r) ∧ Aside0 (kq ≤ k) ∧ Aside0 (w'.heap[gb30]? = some (.cells #[.int .i64 a1_0_0] 3 (0, 0))) ∧ Aside0 (Below w.heap.size w w'))
 case atStart => exact ⟨(0), (by first | rfl | (simp; done) | (simp [*]; done)), H', ⟨Nat.le_refl _⟩, ⟨BH BK30.out⟩, ⟨BT HB.out⟩⟩
 case round =>
  clear H'
  obtain ⟨x8_1, rfl, HA, HK1, BK30, HB⟩ := hrel
  cases gk with
  | zero => exact absurd HA.out (by simp [impl_Transaction.l0])
  | succ k1 =>
   have H := HA.out
   clear HA
   simp only [impl_Transaction.l0] at H
   by_cases c3 : x8_1 < (l0.length : Int)
   rotate_left
   ·rw [if_neg c3] at H
    have c3b0 := decide_eq_false c3
    clear c3
    obtain rfl := Option.some.inj H
    go_wp2
    go_ret
    exact QT (BT HB.out)
   rw [if_pos c3] at H
   have c3b0 := decide_eq_true c3
   clear c3
   replace H := HI H
   obtain ⟨c4, H⟩ := H
   have c4b0 := decide_eq_true c4
   clear c4
   replace H := HI H
   obtain ⟨c5, H⟩ := H
   have c5b0 := decide_eq_true c5
   clear c5
   obtain ⟨t406, A6, H⟩ := OB H
   by_cases c7 : t406 = true
   ·subst c7
    replace H := HT H
    obtain rfl := Option.some.inj H
    have p405 : 0 ≤ (x8_1 : Int) := DT
    have q405 : x8_1 < (l0.length : Int) := DT
    obtain ⟨ad405, A405_7, c405_7, A405_8, c405_8, e405, hx405_0, hx405_1, hx405_2, hx405_3, hx405_4, hx405_5, hx405_6, hx405_7, hx405_8, hl405_7, hi405_7, hl405_8, hi405_8⟩ := at_T48 HR0.out x8_1 p405 q405
    cases e405
    replace hx405_0 := BC HB.out hx405_0
    replace hx405_1 := BC HB.out hx405_1
    replace hx405_2 := BC HB.out hx405_2
    replace hx405_3 := BC HB.out hx405_3
    replace hx405_4 := BC HB.out hx405_4
    replace hx405_5 := BC HB.out hx405_5
    replace hx405_6 := BC HB.out hx405_6
    replace hx405_7 := BC HB.out hx405_7
    replace hx405_8 := BC HB.out hx405_8
    have HR405_7 := AM_ hi405_7
    have HC405_7 := AM_ hl405_7
    clear hi405_7 hl405_7
    have HR405_8 := AM_ hi405_8
    have HC405_8 := AM_ hl405_8
    clear hi405_8 hl405_8
    replace p405 := eq_true p405
    replace q405 := eq_true q405
    go_wp2_with (first | ((with_reducible refine G2 16 rfl ?_); refine goesF_ (some 16) rfl rfl Try.func117 (by kernel_rfl) rfl (lb := #[.pointer (some ⟨gb30, 0, none⟩)]) #[.agg #[.int .i64 ((rd_T48 l0 x8_1).f0), .int .i64 ((rd_T48 l0 x8_1).f1), .int .i64 ((rd_T48 l0 x8_1).f2), .int .i64 ((rd_T48 l0 x8_1).f3), .int .i64 ((rd_T48 l0 x8_1).f4), .int .i64 ((rd_T48 l0 x8_1).f5), .int .i64 ((rd_T48 l0 x8_1).f6), .slice A405_7 ((rd_T48 l0 x8_1).f7).length c405_7, .slice A405_8 ((rd_T48 l0 x8_1).f8).length c405_8], .pointer (some ⟨gb30, 0, none⟩)] rfl rfl (by (try simp only [List.map_toArray, List.map_cons, List.map_nil]); first | done | rfl) ?_; (with_reducible refine (impl_FindTransaction_1.calls ((rd_T48 l0 x8_1).f0) ((rd_T48 l0 x8_1).f1) ((rd_T48 l0 x8_1).f2) ((rd_T48 l0 x8_1).f3) ((rd_T48 l0 x8_1).f4) ((rd_T48 l0 x8_1).f5) ((rd_T48 l0 x8_1).f6) _ _ ((rd_T48 l0 x8_1).f7) _ _ ((rd_T48 l0 x8_1).f8) gb30 a1_0_0 true _ ?side1 ?side2 ?side3 ?side4 ?side5 A6.out).mono ?_); (case side1 => exact CB HR405_7.out HB.out); (case side2 => exact HC405_7.out); (case side3 => exact CB HR405_8.out HB.out); (case side4 => exact HC405_8.out); (case side5 => exact by (with_reducible repeat (first | refine blk_drewN ?_ _ | refine blk_drew ?_ | refine blk_alloc ?_ _)); exact BK30.out); rintro e w8 ⟨rfl, hb⟩; refine ⟨_, rfl, ?_⟩; replace BK30 := BV BK30 hb; replace HB := BW HB hb; (try clear hb)))
    go_ret
    exact QT (BT HB.out)
   replace c7 := Bool.eq_false_iff.mpr c7
   subst c7
   replace H := HF H
   have H' := AM_ H
   clear H
   have p405 : 0 ≤ (x8_1 : Int) := DT
   have q405 : x8_1 < (l0.length : Int) := DT
   obtain ⟨ad405, A405_7, c405_7, A405_8, c405_8, e405, hx405_0, hx405_1, hx405_2, hx405_3, hx405_4, hx405_5, hx405_6, hx405_7, hx405_8, hl405_7, hi405_7, hl405_8, hi405_8⟩ := at_T48 HR0.out x8_1 p405 q405
   cases e405
   replace hx405_0 := BC HB.out hx405_0
   replace hx405_1 := BC HB.out hx405_1
   replace hx405_2 := BC HB.out hx405_2
   replace hx405_3 := BC HB.out hx405_3
   replace hx405_4 := BC HB.out hx405_4
   replace hx405_5 := BC HB.out hx405_5
   replace hx405_6 := BC HB.out hx405_6
   replace hx405_7 := BC HB.out hx405_7
   replace hx405_8 := BC HB.out hx405_8
   have HR405_7 := AM_ hi405_7
   have HC405_7 := AM_ hl405_7
   clear hi405_7 hl405_7
   have HR405_8 := AM_ hi405_8
   have HC405_8 := AM_ hl405_8
   clear hi405_8 hl405_8
   replace p405 := eq_true p405
   replace q405 := eq_true q405
   go_wp2_with (first | ((with_reducible refine G2 16 rfl ?_); refine goesF_ (some 16) rfl rfl Try.func117 (by kernel_rfl) rfl (lb := #[.pointer (some ⟨gb30, 0, none⟩)]) #[.agg #[.int .i64 ((rd_T48 l0 x8_1).f0), .int .i64 ((rd_T48 l0 x8_1).f1), .int .i64 ((rd_T48 l0 x8_1).f2), .int .i64 ((rd_T48 l0 x8_1).f3), .int .i64 ((rd_T48 l0 x8_1).f4), .int .i64 ((rd_T48 l0 x8_1).f5), .int .i64 ((rd_T48 l0 x8_1).f6), .slice A405_7 ((rd_T48 l0 x8_1).f7).length c405_7, .slice A405_8 ((rd_T48 l0 x8_1).f8).length c405_8], .pointer (some ⟨gb30, 0, none⟩)] rfl rfl (by (try simp only [List.map_toArray, List.map_cons, List.map_nil]); first | done | rfl) ?_; (with_reducible refine (impl_FindTransaction_1.calls ((rd_T48 l0 x8_1).f0) ((rd_T48 l0 x8_1).f1) ((rd_T48 l0 x8_1).f2) ((rd_T48 l0 x8_1).f3) ((rd_T48 l0 x8_1).f4) ((rd_T48 l0 x8_1).f5) ((rd_T48 l0 x8_1).f6) _ _ ((rd_T48 l0 x8_1).f7) _ _ ((rd_T48 l0 x8_1).f8) gb30 a1_0_0 false _ ?side1 ?side2 ?side3 ?side4 ?side5 A6.out).mono ?_); (case side1 => exact CB HR405_7.out HB.out); (case side2 => exact HC405_7.out); (case side3 => exact CB HR405_8.out HB.out); (case side4 => exact HC405_8.out); (case side5 => exact by (with_reducible repeat (first | refine blk_drewN ?_ _ | refine blk_drew ?_ | refine blk_alloc ?_ _)); exact BK30.out); rintro e w9 ⟨rfl, hb⟩; refine ⟨_, rfl, ?_⟩; replace BK30 := BV BK30 hb; replace HB := BW HB hb; (try clear hb)))
   go_roundg k1
   case measure => have := HK1.out; omega
   case rel => exact ⟨(wrap64 (x8_1 + 1)), (by first | rfl | (simp; done) | (simp [*]; done)), H', ⟨by have := HK1.out; omega⟩, ⟨BH BK30.out⟩, ⟨BT HB.out⟩⟩

/-! ### impl_FindTransaction: function 81 -/
def impl_FindTransaction.f (k : Nat) (a0_0 : Bool) (l0_1 : List (List (S52))) (l0_2 : List (S48)) (l0_3 : List (S76)) (l0_4 : List (S78)) (a0_5 : Int) (a1 : Int) : Option (Int) := (impl_Transaction.f k l0_2 a1).bind fun t409 => (some t409)
theorem impl_FindTransaction.mono : ∀ a0 a1 a2 a3 a4 a5 a6 k, LeO (impl_FindTransaction.f k a0 a1 a2 a3 a4 a5 a6) (impl_FindTransaction.f (k + 1) a0 a1 a2 a3 a4 a5 a6) := by
 intro a0 a1 a2 a3 a4 a5 a6 k
 unfold impl_FindTransaction.f
 repeat' (with_reducible first | exact impl_Transaction.mono .. | exact LeO.refl _ | exact LeO.none _ | refine LeO.ite ?_ ?_ | refine LeO.bind ?_ (fun _ => ?_))
theorem impl_FindTransaction.calls (k : Nat) (a0_0 : Bool) (A0_1 : Option Addr) (c0_1 : Nat) (l0_1 : List (List (S52))) (A0_2 : Option Addr) (c0_2 : Nat) (l0_2 : List (S48)) (A0_3 : Option Addr) (c0_3 : Nat) (l0_3 : List (S76)) (A0_4 : Option Addr) (c0_4 : Nat) (l0_4 : List (S78)) (a0_5 : Int) (a1 : Int) (r : Int) (w : World) (hr0_1 : Kd.C (Kd.slice 52 k52) w A0_1 l0_1.length l0_1) (hc0_1 : l0_1.length ≤ c0_1) (hr0_2 : Kd.C k48 w A0_2 l0_2.length l0_2) (hc0_2 : l0_2.length ≤ c0_2) (hr0_3 : Kd.C k76 w A0_3 l0_3.length l0_3) (hc0_3 : l0_3.length ≤ c0_3) (hr0_4 : Kd.C k78 w A0_4 l0_4.length l0_4) (hc0_4 : l0_4.length ≤ c0_4) (h : impl_FindTransaction.f k a0_0 l0_1 l0_2 l0_3 l0_4 a0_5 a1 = some r) :
  Calls Try.prog 81 #[.agg #[.bool a0_0, .slice A0_1 l0_1.length c0_1, .slice A0_2 l0_2.length c0_2, .slice A0_3 l0_3.length c0_3, .slice A0_4 l0_4.length c0_4, .int .i64 a0_5], .int .i64 a1] w fun e w' => e = .returned (.int .i64 r) ∧ Below w.heap.size w w' := by
 have hu39 := Try.underlying39
 have HR0_1 := AM_ hr0_1
 have HC0_1 := AM_ hc0_1
 clear hr0_1 hc0_1
 have HR0_2 := AM_ hr0_2
 have HC0_2 := AM_ hc0_2
 clear hr0_2 hc0_2
 have HR0_3 := AM_ hr0_3
 have HC0_3 := AM_ hc0_3
 clear hr0_3 hc0_3
 have HR0_4 := AM_ hr0_4
 have HC0_4 := AM_ hc0_4
 clear hr0_4 hc0_4
 have HB := AM_ (Below.refl w.heap.size w)
 unfold impl_FindTransaction.f at h
 have H := h
 clear h
 obtain ⟨t409, A3, H⟩ := OB H
 obtain rfl := Option.some.inj H
 go_enter Try.func81, Try.ntmps81
 go_wp2_with (first | ((with_reducible refine G2 2 rfl ?_); refine BY 2 #[.bool a0_0, .slice A0_1 l0_1.length c0_1, .slice A0_2 l0_2.length c0_2, .slice A0_3 l0_3.length c0_3, .slice A0_4 l0_4.length c0_4, .int .i64 a0_5] 39 HB ?_; clear HB; intro gb407 w4 BK407 GW407 HB) | ((with_reducible refine G2 3 rfl ?_); refine BZ 3 #[.int .i64 a1] 3 HB ?_; clear HB; intro gb408 w5 hg hb BK408 GW408 HB; have NB407_408 := NP BK407 hg; have NB408_407 := NQ BK407 hg; replace BK407 := BV BK407 hb; clear hb hg; have hnb6 := NB407_408.out; have hnc6 := NB408_407.out; obtain ⟨hcz7_0, hcz7_1, hcz7_2, hcz7_3, hcz7_4, hcz7_5, hfz7_0, hfz7_1, hfz7_2, hfz7_3, hfz7_4, hfz7_5⟩ := bk6 BK407.out) | ((with_reducible refine G1 116 rfl ?_); refine GC (some 8) Try.func116 #[.slice A0_2 l0_2.length c0_2, .func (.func 117) #[] #[.pointer (some ⟨gb408, 0, none⟩)]] ?_; (with_reducible refine (impl_Transaction.calls k _ _ l0_2 gb408 a1 t409 _ ?side1 ?side2 ?side3 A3.out).mono ?_); (case side1 => exact CB HR0_2.out HB.out); (case side2 => exact HC0_2.out); (case side3 => exact by (with_reducible repeat (first | refine blk_drewN ?_ _ | refine blk_drew ?_ | refine blk_alloc ?_ _)); exact BK408.out); rintro e w8 ⟨rfl, hb⟩; refine ⟨_, rfl, ?_⟩; replace BK407 := BV BK407 hb; replace BK408 := BV BK408 hb; replace HB := BW HB hb; (try clear hb)))
 go_ret
 exact QT (BT HB.out)

/-! ### impl_Engine_isActive: function 46 -/
def impl_Engine_isActive.f (k : Nat) (a0_0 : Bool) (l0_1 : List (List (S52))) (l0_2 : List (S48)) (l0_3 : List (S76)) (l0_4 : List (S78)) (a0_5 : Int) (a1 : Int) : Option (Bool) := (impl_FindTransaction.f k a0_0 l0_1 l0_2 l0_3 l0_4 a0_5 a1).bind fun t411 => (if t411 ≥ 0 then (if 0 ≤ t411 then (if t411 < (l0_2.length : Int) then (some (((rd_T48 l0_2 t411).f2) == 1)) else (none)) else (none)) else (some false))
theorem impl_Engine_isActive.mono : ∀ a0 a1 a2 a3 a4 a5 a6 k, LeO (impl_Engine_isActive.f k a0 a1 a2 a3 a4 a5 a6) (impl_Engine_isActive.f (k + 1) a0 a1 a2 a3 a4 a5 a6) := by
 intro a0 a1 a2 a3 a4 a5 a6 k
 unfold impl_Engine_isActive.f
 repeat' (with_reducible first | exact impl_FindTransaction.mono .. | exact LeO.refl _ | exact LeO.none _ | refine LeO.ite ?_ ?_ | refine LeO.bind ?_ (fun _ => ?_))
theorem impl_Engine_isActive.calls (k : Nat) (a0_0 : Bool) (A0_1 : Option Addr) (c0_1 : Nat) (l0_1 : List (List (S52))) (A0_2 : Option Addr) (c0_2 : Nat) (l0_2 : List (S48)) (A0_3 : Option Addr) (c0_3 : Nat) (l0_3 : List (S76)) (A0_4 : Option Addr) (c0_4 : Nat) (l0_4 : List (S78)) (a0_5 : Int) (a1 : Int) (r : Bool) (w : World) (hr0_1 : Kd.C (Kd.slice 52 k52) w A0_1 l0_1.length l0_1) (hc0_1 : l0_1.length ≤ c0_1) (hr0_2 : Kd.C k48 w A0_2 l0_2.length l0_2) (hc0_2 : l0_2.length ≤ c0_2) (hr0_3 : Kd.C k76 w A0_3 l0_3.length l0_3) (hc0_3 : l0_3.length ≤ c0_3) (hr0_4 : Kd.C k78 w A0_4 l0_4.length l0_4) (hc0_4 : l0_4.length ≤ c0_4) (h : impl_Engine_isActive.f k a0_0 l0_1 l0_2 l0_3 l0_4 a0_5 a1 = some r) :
  Calls Try.prog 46 #[.agg #[.bool a0_0, .slice A0_1 l0_1.length c0_1, .slice A0_2 l0_2.length c0_2, .slice A0_3 l0_3.length c0_3, .slice A0_4 l0_4.length c0_4, .int .i64 a0_5], .int .i64 a1] w fun e w' => e = .returned (.bool r) ∧ Below w.heap.size w w' := by
 have hu39 := Try.underlying39
 have HR0_1 := AM_ hr0_1
 have HC0_1 := AM_ hc0_1
 clear hr0_1 hc0_1
 have HR0_2 := AM_ hr0_2
 have HC0_2 := AM_ hc0_2
 clear hr0_2 hc0_2
 have HR0_3 := AM_ hr0_3
 have HC0_3 := AM_ hc0_3
 clear hr0_3 hc0_3
 have HR0_4 := AM_ hr0_4
 have HC0_4 := AM_ hc0_4
 clear hr0_4 hc0_4
 have HB := AM_ (Below.refl w.heap.size w)
 unfold impl_Engine_isActive.f at h
 have H := h
 clear h
 obtain ⟨t411, A3, H⟩ := OB H
 by_cases c4 : t411 ≥ 0
 rotate_left
 ·rw [if_neg c4] at H
  have c4b0 : decide (0 ≤ t411) = false := decide_eq_false c4
  clear c4
  obtain rfl := Option.some.inj H
  go_enter Try.func46, Try.ntmps46
  go_wp2_with (first | ((with_reducible refine G2 2 rfl ?_); refine BY 2 #[.bool a0_0, .slice A0_1 l0_1.length c0_1, .slice A0_2 l0_2.length c0_2, .slice A0_3 l0_3.length c0_3, .slice A0_4 l0_4.length c0_4, .int .i64 a0_5] 39 HB ?_; clear HB; intro gb410 w11 BK410 GW410 HB; obtain ⟨hcz12_0, hcz12_1, hcz12_2, hcz12_3, hcz12_4, hcz12_5, hfz12_0, hfz12_1, hfz12_2, hfz12_3, hfz12_4, hfz12_5⟩ := bk6 BK410.out) | ((with_reducible refine G1 81 rfl ?_); refine GC (some 8) Try.func81 #[.agg #[.bool a0_0, .slice A0_1 l0_1.length c0_1, .slice A0_2 l0_2.length c0_2, .slice A0_3 l0_3.length c0_3, .slice A0_4 l0_4.length c0_4, .int .i64 a0_5], .int .i64 a1] ?_; (with_reducible refine MB (impl_FindTransaction.calls k a0_0 _ _ l0_1 _ _ l0_2 _ _ l0_3 _ _ l0_4 a0_5 a1 t411 _ (CC HR0_1 HB) HC0_1.out (CC HR0_2 HB) HC0_2.out (CC HR0_3 HB) HC0_3.out (CC HR0_4 HB) HC0_4.out A3.out) ?_); intro w13 hb; replace BK410 := BV BK410 hb; replace HB := BW HB hb; (try clear hb)))
  go_ret
  exact QT (BT HB.out)
 rw [if_pos c4] at H
 have c4b0 : decide (0 ≤ t411) = true := decide_eq_true c4
 clear c4
 replace H := HI H
 obtain ⟨c5, H⟩ := H
 have c5b0 := decide_eq_true c5
 clear c5
 replace H := HI H
 obtain ⟨c6, H⟩ := H
 have c6b0 := decide_eq_true c6
 clear c6
 obtain rfl := Option.some.inj H
 go_enter Try.func46, Try.ntmps46
 go_wp2_with (first | ((with_reducible refine G2 2 rfl ?_); refine BY 2 #[.bool a0_0, .slice A0_1 l0_1.length c0_1, .slice A0_2 l0_2.length c0_2, .slice A0_3 l0_3.length c0_3, .slice A0_4 l0_4.length c0_4, .int .i64 a0_5] 39 HB ?_; clear HB; intro gb410 w7 BK410 GW410 HB; obtain ⟨hcz8_0, hcz8_1, hcz8_2, hcz8_3, hcz8_4, hcz8_5, hfz8_0, hfz8_1, hfz8_2, hfz8_3, hfz8_4, hfz8_5⟩ := bk6 BK410.out) | ((with_reducible refine G1 81 rfl ?_); refine GC (some 8) Try.func81 #[.agg #[.bool a0_0, .slice A0_1 l0_1.length c0_1, .slice A0_2 l0_2.length c0_2, .slice A0_3 l0_3.length c0_3, .slice A0_4 l0_4.length c0_4, .int .i64 a0_5], .int .i64 a1] ?_; (with_reducible refine MB (impl_FindTransaction.calls k a0_0 _ _ l0_1 _ _ l0_2 _ _ l0_3 _ _ l0_4 a0_5 a1 t411 _ (CC HR0_1 HB) HC0_1.out (CC HR0_2 HB) HC0_2.out (CC HR0_3 HB) HC0_3.out (CC HR0_4 HB) HC0_4.out A3.out) ?_); intro w9 hb; replace BK410 := BV BK410 hb; replace HB := BW HB hb; (try clear hb); obtain ⟨hcz10_0, hcz10_1, hcz10_2, hcz10_3, hcz10_4, hcz10_5, hfz10_0, hfz10_1, hfz10_2, hfz10_3, hfz10_4, hfz10_5⟩ := bk6 BK410.out; have p412 : 0 ≤ (t411 : Int) := DT; have q412 : t411 < (l0_2.length : Int) := DT; obtain ⟨ad412, A412_7, c412_7, A412_8, c412_8, e412, hx412_0, hx412_1, hx412_2, hx412_3, hx412_4, hx412_5, hx412_6, hx412_7, hx412_8, hl412_7, hi412_7, hl412_8, hi412_8⟩ := at_T48 HR0_2.out t411 p412 q412; cases e412; replace hx412_0 := BD HB.out hx412_0; replace hx412_1 := BD HB.out hx412_1; replace hx412_2 := BD HB.out hx412_2; replace hx412_3 := BD HB.out hx412_3; replace hx412_4 := BD HB.out hx412_4; replace hx412_5 := BD HB.out hx412_5; replace hx412_6 := BD HB.out hx412_6; replace hx412_7 := BD HB.out hx412_7; replace hx412_8 := BD HB.out hx412_8; have HR412_7 := AM_ hi412_7; have HC412_7 := AM_ hl412_7; clear hi412_7 hl412_7; have HR412_8 := AM_ hi412_8; have HC412_8 := AM_ hl412_8; clear hi412_8 hl412_8; replace p412 := eq_true p412; replace q412 := eq_true q412))
 go_ret
 exact QT (BT HB.out)

/-! ### impl_IsValidEngine_1: function 45 -/
def impl_IsValidEngine_1.f (k : Nat) (a0_0 : Int) (a0_1 : Int) (a1_0 : Bool) (l1_1 : List (List (S52))) (l1_2 : List (S48)) (l1_3 : List (S76)) (l1_4 : List (S78)) (a1_5 : Int) : Option (Bool) := (impl_Engine_isActive.f k a1_0 l1_1 l1_2 l1_3 l1_4 a1_5 a0_1).bind fun t414 => (some (!t414))
theorem impl_IsValidEngine_1.mono : ∀ a0 a1 a2 a3 a4 a5 a6 a7 k, LeO (impl_IsValidEngine_1.f k a0 a1 a2 a3 a4 a5 a6 a7) (impl_IsValidEngine_1.f (k + 1) a0 a1 a2 a3 a4 a5 a6 a7) := by
 intro a0 a1 a2 a3 a4 a5 a6 a7 k
 unfold impl_IsValidEngine_1.f
 repeat' (with_reducible first | exact impl_Engine_isActive.mono .. | exact LeO.refl _ | exact LeO.none _ | refine LeO.ite ?_ ?_ | refine LeO.bind ?_ (fun _ => ?_))
theorem impl_IsValidEngine_1.calls (k : Nat) (a0_0 : Int) (a0_1 : Int) (gb1 : Nat) (a1_0 : Bool) (A1_1 : Option Addr) (c1_1 : Nat) (l1_1 : List (List (S52))) (A1_2 : Option Addr) (c1_2 : Nat) (l1_2 : List (S48)) (A1_3 : Option Addr) (c1_3 : Nat) (l1_3 : List (S76)) (A1_4 : Option Addr) (c1_4 : Nat) (l1_4 : List (S78)) (a1_5 : Int) (r : Bool) (w : World) (hb1 : w.heap[gb1]? = some (.cells #[.bool a1_0, .slice A1_1 l1_1.length c1_1, .slice A1_2 l1_2.length c1_2, .slice A1_3 l1_3.length c1_3, .slice A1_4 l1_4.length c1_4, .int .i64 a1_5] 39 (0, 0))) (hr1_1 : Kd.C (Kd.slice 52 k52) w A1_1 l1_1.length l1_1) (hc1_1 : l1_1.length ≤ c1_1) (hr1_2 : Kd.C k48 w A1_2 l1_2.length l1_2) (hc1_2 : l1_2.length ≤ c1_2) (hr1_3 : Kd.C k76 w A1_3 l1_3.length l1_3) (hc1_3 : l1_3.length ≤ c1_3) (hr1_4 : Kd.C k78 w A1_4 l1_4.length l1_4) (hc1_4 : l1_4.length ≤ c1_4) (h : impl_IsValidEngine_1.f k a0_0 a0_1 a1_0 l1_1 l1_2 l1_3 l1_4 a1_5 = some r) :
  Calls Try.prog 45 #[.agg #[.int .i64 a0_0, .int .i64 a0_1], .pointer (some ⟨gb1, 0, none⟩)] w fun e w' => e = .returned (.bool r) ∧ Below w.heap.size w w' := by
 have hu76 := Try.underlying76
 have hu39 := Try.underlying39
 have BK1 := AM_ hb1
 clear hb1
 have HR1_1 := AM_ hr1_1
 have HC1_1 := AM_ hc1_1
 clear hr1_1 hc1_1
 have HR1_2 := AM_ hr1_2
 have HC1_2 := AM_ hc1_2
 clear hr1_2 hc1_2
 have HR1_3 := AM_ hr1_3
 have HC1_3 := AM_ hc1_3
 clear hr1_3 hc1_3
 have HR1_4 := AM_ hr1_4
 have HC1_4 := AM_ hc1_4
 clear hr1_4 hc1_4
 have HB := AM_ (Below.refl w.heap.size w)
 unfold impl_IsValidEngine_1.f at h
 have H := h
 clear h
 obtain ⟨t414, A3, H⟩ := OB H
 obtain rfl := Option.some.inj H
 go_enter Try.func45, Try.ntmps45
 go_wp2_with (first | ((with_reducible refine G2 2 rfl ?_); refine BZ 2 #[.int .i64 a0_0, .int .i64 a0_1] 76 HB ?_; clear HB; intro gb413 w4 hg hb BK413 GW413 HB; have NB1_413 := NP BK1 hg; have NB413_1 := NQ BK1 hg; replace BK1 := BV BK1 hb; clear hb hg; have hnb5 := NB1_413.out; have hnc5 := NB413_1.out; obtain ⟨hcz6_0, hcz6_1, hcz6_2, hcz6_3, hcz6_4, hcz6_5, hfz6_0, hfz6_1, hfz6_2, hfz6_3, hfz6_4, hfz6_5⟩ := bk6 BK1.out; obtain ⟨hcz7_0, hcz7_1, hfz7_0, hfz7_1⟩ := bk2 BK413.out) | ((with_reducible refine G1 46 rfl ?_); refine GC (some 7) Try.func46 #[.agg #[.bool a1_0, .slice A1_1 l1_1.length c1_1, .slice A1_2 l1_2.length c1_2, .slice A1_3 l1_3.length c1_3, .slice A1_4 l1_4.length c1_4, .int .i64 a1_5], .int .i64 a0_1] ?_; (with_reducible refine MB (impl_Engine_isActive.calls k a1_0 _ _ l1_1 _ _ l1_2 _ _ l1_3 _ _ l1_4 a1_5 a0_1 t414 _ (CC HR1_1 HB) HC1_1.out (CC HR1_2 HB) HC1_2.out (CC HR1_3 HB) HC1_3.out (CC HR1_4 HB) HC1_4.out A3.out) ?_); intro w8 hb; replace BK1 := BV BK1 hb; replace BK413 := BV BK413 hb; replace HB := BW HB hb; (try clear hb)))
 go_ret
 exact QT (BT HB.out)

/-! ### impl_Lock_80: function 80 -/
def impl_Lock_80.l0 : Nat → List (S76) → Int → Int → Bool → List (List (S52)) → List (S48) → List (S76) → List (S78) → Int → Option (Int)
 | 0, _, _, _, _, _, _, _, _, _ => none
 | k + 1, x0, x7, x8, x31000, x31001, x31002, x31003, x31004, x31005 => if x8 < x7 then (if 0 ≤ x8 then (if x8 < (x0.length : Int) then ((impl_IsValidEngine_1.f k ((rd_T76 x0 x8).f0) ((rd_T76 x0 x8).f1) x31000 x31001 x31002 x31003 x31004 x31005).bind fun t416 => (if t416 = true then (some x8) else (impl_Lock_80.l0 k x0 x7 (wrap64 (x8 + 1)) x31000 x31001 x31002 x31003 x31004 x31005))) else (none)) else (none)) else (some (-1))
def impl_Lock_80.f (k : Nat) (l0 : List (S76)) (a1_0_0 : Bool) (l1_0_1 : List (List (S52))) (l1_0_2 : List (S48)) (l1_0_3 : List (S76)) (l1_0_4 : List (S78)) (a1_0_5 : Int) : Option (Int) := impl_Lock_80.l0 k l0 (l0.length : Int) 0 a1_0_0 l1_0_1 l1_0_2 l1_0_3 l1_0_4 a1_0_5
theorem impl_Lock_80.mono_l : ∀ k, (∀ y0 y1 y2 y3 y4 y5 y6 y7 y8, LeO (impl_Lock_80.l0 k y0 y1 y2 y3 y4 y5 y6 y7 y8) (impl_Lock_80.l0 (k + 1) y0 y1 y2 y3 y4 y5 y6 y7 y8))
 | 0 => fun _ _ _ _ _ _ _ _ _ r h => by simp [impl_Lock_80.l0] at h
 | k + 1 => by
  have ih0 := impl_Lock_80.mono_l k
  all_goals intros; unfold impl_Lock_80.l0
  all_goals repeat' (with_reducible first | exact ih0 .. | exact impl_IsValidEngine_1.mono .. | exact LeO.refl _ | exact LeO.none _ | refine LeO.ite ?_ ?_ | refine LeO.bind ?_ (fun _ => ?_))
theorem impl_Lock_80.mono : ∀ a0 a1 a2 a3 a4 a5 a6 k, LeO (impl_Lock_80.f k a0 a1 a2 a3 a4 a5 a6) (impl_Lock_80.f (k + 1) a0 a1 a2 a3 a4 a5 a6) := by
 intro a0 a1 a2 a3 a4 a5 a6 k
 have ih0 := impl_Lock_80.mono_l k
 unfold impl_Lock_80.f
 repeat' (with_reducible first | exact ih0 .. | exact impl_IsValidEngine_1.mono .. | exact LeO.refl _ | exact LeO.none _ | refine LeO.ite ?_ ?_ | refine LeO.bind ?_ (fun _ => ?_))
theorem impl_Lock_80.calls (k : Nat) (A0 : Option Addr) (c0 : Nat) (l0 : List (S76)) (gb30 : Nat) (a1_0_0 : Bool) (A1_0_1 : Option Addr) (c1_0_1 : Nat) (l1_0_1 : List (List (S52))) (A1_0_2 : Option Addr) (c1_0_2 : Nat) (l1_0_2 : List (S48)) (A1_0_3 : Option Addr) (c1_0_3 : Nat) (l1_0_3 : List (S76)) (A1_0_4 : Option Addr) (c1_0_4 : Nat) (l1_0_4 : List (S78)) (a1_0_5 : Int) (r : Int) (w : World) (hr0 : Kd.C k76 w A0 l0.length l0) (hc0 : l0.length ≤ c0) (hb30 : w.heap[gb30]? = some (.cells #[.bool a1_0_0, .slice A1_0_1 l1_0_1.length c1_0_1, .slice A1_0_2 l1_0_2.length c1_0_2, .slice A1_0_3 l1_0_3.length c1_0_3, .slice A1_0_4 l1_0_4.length c1_0_4, .int .i64 a1_0_5] 39 (0, 0))) (hr1_0_1 : Kd.C (Kd.slice 52 k52) w A1_0_1 l1_0_1.length l1_0_1) (hc1_0_1 : l1_0_1.length ≤ c1_0_1) (hr1_0_2 : Kd.C k48 w A1_0_2 l1_0_2.length l1_0_2) (hc1_0_2 : l1_0_2.length ≤ c1_0_2) (hr1_0_3 : Kd.C k76 w A1_0_3 l1_0_3.length l1_0_3) (hc1_0_3 : l1_0_3.length ≤ c1_0_3) (hr1_0_4 : Kd.C k78 w A1_0_4 l1_0_4.length l1_0_4) (hc1_0_4 : l1_0_4.length ≤ c1_0_4) (h : impl_Lock_80.f k l0 a1_0_0 l1_0_1 l1_0_2 l1_0_3 l1_0_4 a1_0_5 = some r) :
  Calls Try.prog 80 #[.slice A0 l0.length c0, .func (.func 45) #[] #[.pointer (some ⟨gb30, 0, none⟩)]] w fun e w' => e = .returned (.int .i64 r) ∧ Below w.heap.size w w' := by
 have hu76 := Try.underlying76
 have BK30 := AM_ hb30
 clear hb30
 have HR0 := AM_ hr0
 have HC0 := AM_ hc0
 clear hr0 hc0
 have HR1_0_1 := AM_ hr1_0_1
 have HC1_0_1 := AM_ hc1_0_1
 clear hr1_0_1 hc1_0_1
 have HR1_0_2 := AM_ hr1_0_2
 have HC1_0_2 := AM_ hc1_0_2
 clear hr1_0_2 hc1_0_2
 have HR1_0_3 := AM_ hr1_0_3
 have HC1_0_3 := AM_ hc1_0_3
 clear hr1_0_3 hc1_0_3
 have HR1_0_4 := AM_ hr1_0_4
 have HC1_0_4 := AM_ hc1_0_4
 clear hr1_0_4 hc1_0_4
 have HB := AM_ (Below.refl w.heap.size w)
 unfold impl_Lock_80.f at h
 have H := h
 clear h
 have H' := AM_ H
 clear H
 go_enter Try.func80, Try.ntmps80
 go_wp2
 go_loopg [8] k (fun kq v8 w' => ∃ (x8_1 : Int), v8 = .int .i64 x8_1 ∧ Aside0 (impl_Lock_80.l0 kq l0 (l0.length : Int) x8_1 a1_0_0 l1_0_1 l1_0_2 l1_0_3 l1_0_4 a1_0_5 = some r) ∧ Aside0 (kq ≤ k) ∧ Aside0 (w'.heap[gb30]? = some (.cells #[.bool a1_0_0, (.slice A1_0_1 l1_0_1.length c1_0_1), (.slice A1_0_2 l1_0_2.length c1_0_2), (.slice A1_0_3 l1_0_3.length c1_0_3), (.slice A1_0_4 l1_0_4.length c1_0_4), .int .i64 a1_0_5] 39 (0, 0))) ∧ Aside0 (Below w.heap.size w w'))
 case atStart => exact ⟨(0), (by first | rfl | (simp; done) | (simp [*]; done)), H', ⟨Nat.le_refl _⟩, ⟨BH BK30.out⟩, ⟨BT HB.out⟩⟩
 case round =>
  clear H'
  obtain ⟨x8_1, rfl, HA, HK1, BK30, HB⟩ := hrel
  cases gk with
  | zero => exact absurd HA.out (by simp [impl_Lock_80.l0])
  | succ k1 =>
   have H := HA.out
   clear HA
   simp only [impl_Lock_80.l0] at H
   by_cases c3 : x8_1 < (l0.length : Int)
   rotate_left
   ·rw [if_neg c3] at H
    have c3b0 := decide_eq_false c3
    clear c3
    obtain rfl := Option.some.inj H
    go_wp2
    go_ret
    exact QT (BT HB.out)
   rw [if_pos c3] at H
   have c3b0 := decide_eq_true c3
   clear c3
   replace H := HI H
   obtain ⟨c4, H⟩ := H
   have c4b0 := decide_eq_true c4
   clear c4
   replace H := HI H
   obtain ⟨c5, H⟩ := H
   have c5b0 := decide_eq_true c5
   clear c5
   obtain ⟨t416, A6, H⟩ := OB H
   by_cases c7 : t416 = true
   ·subst c7
    replace H := HT H
    obtain rfl := Option.some.inj H
    have p415 : 0 ≤ (x8_1 : Int) := DT
    have q415 : x8_1 < (l0.length : Int) := DT
    obtain ⟨ad415, e415, hx415_0, hx415_1⟩ := at_T76 HR0.out x8_1 p415 q415
    cases e415
    replace hx415_0 := BC HB.out hx415_0
    replace hx415_1 := BC HB.out hx415_1
    replace p415 := eq_true p415
    replace q415 := eq_true q415
    go_wp2_with (first | ((with_reducible refine G2 16 rfl ?_); refine goesF_ (some 16) rfl rfl Try.func45 (by kernel_rfl) rfl (lb := #[.pointer (some ⟨gb30, 0, none⟩)]) #[.agg #[.int .i64 ((rd_T76 l0 x8_1).f0), .int .i64 ((rd_T76 l0 x8_1).f1)], .pointer (some ⟨gb30, 0, none⟩)] rfl rfl (by (try simp only [List.map_toArray, List.map_cons, List.map_nil]); first | done | rfl) ?_; (with_reducible refine (impl_IsValidEngine_1.calls k1 ((rd_T76 l0 x8_1).f0) ((rd_T76 l0 x8_1).f1) gb30 a1_0_0 A1_0_1 c1_0_1 l1_0_1 A1_0_2 c1_0_2 l1_0_2 A1_0_3 c1_0_3 l1_0_3 A1_0_4 c1_0_4 l1_0_4 a1_0_5 true _ ?side1 ?side2 ?side3 ?side4 ?side5 ?side6 ?side7 ?side8 ?side9 A6.out).mono ?_); (case side1 => exact by (with_reducible repeat (first | refine blk_drewN ?_ _ | refine blk_drew ?_ | refine blk_alloc ?_ _)); exact BK30.out); (case side2 => exact CB HR1_0_1.out HB.out); (case side3 => exact HC1_0_1.out); (case side4 => exact CB HR1_0_2.out HB.out); (case side5 => exact HC1_0_2.out); (case side6 => exact CB HR1_0_3.out HB.out); (case side7 => exact HC1_0_3.out); (case side8 => exact CB HR1_0_4.out HB.out); (case side9 => exact HC1_0_4.out); rintro e w8 ⟨rfl, hb⟩; refine ⟨_, rfl, ?_⟩; replace BK30 := BV BK30 hb; replace HB := BW HB hb; (try clear hb)))
    go_ret
    exact QT (BT HB.out)
   replace c7 := Bool.eq_false_iff.mpr c7
   subst c7
   replace H := HF H
   have H' := AM_ H
   clear H
   have p415 : 0 ≤ (x8_1 : Int) := DT
   have q415 : x8_1 < (l0.length : Int) := DT
   obtain ⟨ad415, e415, hx415_0, hx415_1⟩ := at_T76 HR0.out x8_1 p415 q415
   cases e415
   replace hx415_0 := BC HB.out hx415_0
   replace hx415_1 := BC HB.out hx415_1
   replace p415 := eq_true p415
   replace q415 := eq_true q415
   go_wp2_with (first | ((with_reducible refine G2 16 rfl ?_); refine goesF_ (some 16) rfl rfl Try.func45 (by kernel_rfl) rfl (lb := #[.pointer (some ⟨gb30, 0, none⟩)]) #[.agg #[.int .i64 ((rd_T76 l0 x8_1).f0), .int .i64 ((rd_T76 l0 x8_1).f1)], .pointer (some ⟨gb30, 0, none⟩)] rfl rfl (by (try simp only [List.map_toArray, List.map_cons, List.map_nil]); first | done | rfl) ?_; (with_reducible refine (impl_IsValidEngine_1.calls k1 ((rd_T76 l0 x8_1).f0) ((rd_T76 l0 x8_1).f1) gb30 a1_0_0 A1_0_1 c1_0_1 l1_0_1 A1_0_2 c1_0_2 l1_0_2 A1_0_3 c1_0_3 l1_0_3 A1_0_4 c1_0_4 l1_0_4 a1_0_5 false _ ?side1 ?side2 ?side3 ?side4 ?side5 ?side6 ?side7 ?side8 ?side9 A6.out).mono ?_); (case side1 => exact by (with_reducible repeat (first | refine blk_drewN ?_ _ | refine blk_drew ?_ | refine blk_alloc ?_ _)); exact BK30.out); (case side2 => exact CB HR1_0_1.out HB.out); (case side3 => exact HC1_0_1.out); (case side4 => exact CB HR1_0_2.out HB.out); (case side5 => exact HC1_0_2.out); (case side6 => exact CB HR1_0_3.out HB.out); (case side7 => exact HC1_0_3.out); (case side8 => exact CB HR1_0_4.out HB.out); (case side9 => exact HC1_0_4.out); rintro e w9 ⟨rfl, hb⟩; refine ⟨_, rfl, ?_⟩; replace BK30 := BV BK30 hb; replace HB := BW HB hb; (try clear hb)))
   go_roundg k1
   case measure => have := HK1.out; omega
   case rel => exact ⟨(wrap64 (x8_1 + 1)), (by first | rfl | (simp; done) | (simp [*]; done)), H', ⟨by have := HK1.out; omega⟩, ⟨BH BK30.out⟩, ⟨BT HB.out⟩⟩

/-! ### impl_Lock_44: function 44 -/
def impl_Lock_44.f (k : Nat) (l0 : List (S76)) (a1_0_0 : Bool) (l1_0_1 : List (List (S52))) (l1_0_2 : List (S48)) (l1_0_3 : List (S76)) (l1_0_4 : List (S78)) (a1_0_5 : Int) : Option (Bool) := (impl_Lock_80.f k l0 a1_0_0 l1_0_1 l1_0_2 l1_0_3 l1_0_4 a1_0_5).bind fun t417 => (some (decide (t417 ≥ 0)))
theorem impl_Lock_44.mono : ∀ a0 a1 a2 a3 a4 a5 a6 k, LeO (impl_Lock_44.f k a0 a1 a2 a3 a4 a5 a6) (impl_Lock_44.f (k + 1) a0 a1 a2 a3 a4 a5 a6) := by
 intro a0 a1 a2 a3 a4 a5 a6 k
 unfold impl_Lock_44.f
 repeat' (with_reducible first | exact impl_Lock_80.mono .. | exact LeO.refl _ | exact LeO.none _ | refine LeO.ite ?_ ?_ | refine LeO.bind ?_ (fun _ => ?_))
theorem impl_Lock_44.calls (k : Nat) (A0 : Option Addr) (c0 : Nat) (l0 : List (S76)) (gb30 : Nat) (a1_0_0 : Bool) (A1_0_1 : Option Addr) (c1_0_1 : Nat) (l1_0_1 : List (List (S52))) (A1_0_2 : Option Addr) (c1_0_2 : Nat) (l1_0_2 : List (S48)) (A1_0_3 : Option Addr) (c1_0_3 : Nat) (l1_0_3 : List (S76)) (A1_0_4 : Option Addr) (c1_0_4 : Nat) (l1_0_4 : List (S78)) (a1_0_5 : Int) (r : Bool) (w : World) (hr0 : Kd.C k76 w A0 l0.length l0) (hc0 : l0.length ≤ c0) (hb30 : w.heap[gb30]? = some (.cells #[.bool a1_0_0, .slice A1_0_1 l1_0_1.length c1_0_1, .slice A1_0_2 l1_0_2.length c1_0_2, .slice A1_0_3 l1_0_3.length c1_0_3, .slice A1_0_4 l1_0_4.length c1_0_4, .int .i64 a1_0_5] 39 (0, 0))) (hr1_0_1 : Kd.C (Kd.slice 52 k52) w A1_0_1 l1_0_1.length l1_0_1) (hc1_0_1 : l1_0_1.length ≤ c1_0_1) (hr1_0_2 : Kd.C k48 w A1_0_2 l1_0_2.length l1_0_2) (hc1_0_2 : l1_0_2.length ≤ c1_0_2) (hr1_0_3 : Kd.C k76 w A1_0_3 l1_0_3.length l1_0_3) (hc1_0_3 : l1_0_3.length ≤ c1_0_3) (hr1_0_4 : Kd.C k78 w A1_0_4 l1_0_4.length l1_0_4) (hc1_0_4 : l1_0_4.length ≤ c1_0_4) (h : impl_Lock_44.f k l0 a1_0_0 l1_0_1 l1_0_2 l1_0_3 l1_0_4 a1_0_5 = some r) :
  Calls Try.prog 44 #[.slice A0 l0.length c0, .func (.func 45) #[] #[.pointer (some ⟨gb30, 0, none⟩)]] w fun e w' => e = .returned (.bool r) ∧ Below w.heap.size w w' := by
 have BK30 := AM_ hb30
 clear hb30
 have HR0 := AM_ hr0
 have HC0 := AM_ hc0
 clear hr0 hc0
 have HR1_0_1 := AM_ hr1_0_1
 have HC1_0_1 := AM_ hc1_0_1
 clear hr1_0_1 hc1_0_1
 have HR1_0_2 := AM_ hr1_0_2
 have HC1_0_2 := AM_ hc1_0_2
 clear hr1_0_2 hc1_0_2
 have HR1_0_3 := AM_ hr1_0_3
 have HC1_0_3 := AM_ hc1_0_3
 clear hr1_0_3 hc1_0_3
 have HR1_0_4 := AM_ hr1_0_4
 have HC1_0_4 := AM_ hc1_0_4
 clear hr1_0_4 hc1_0_4
 have HB := AM_ (Below.refl w.heap.size w)
 unfold impl_Lock_44.f at h
 have H := h
 clear h
 obtain ⟨t417, A3, H⟩ := OB H
 obtain rfl := Option.some.inj H
 go_enter Try.func44, Try.ntmps44
 go_wp2_with (first | ((with_reducible refine G1 80 rfl ?_); refine GC (some 7) Try.func80 #[.slice A0 l0.length c0, .func (.func 45) #[] #[.pointer (some ⟨gb30, 0, none⟩)]] ?_; (with_reducible refine (impl_Lock_80.calls k _ _ l0 gb30 a1_0_0 A1_0_1 c1_0_1 l1_0_1 A1_0_2 c1_0_2 l1_0_2 A1_0_3 c1_0_3 l1_0_3 A1_0_4 c1_0_4 l1_0_4 a1_0_5 t417 _ ?side1 ?side2 ?side3 ?side4 ?side5 ?side6 ?side7 ?side8 ?side9 ?side10 ?side11 A3.out).mono ?_); (case side1 => repeat (first | exact HR0.out | (with_reducible refine Kd.C_alloc ?_ _) | (with_reducible refine Kd.C_drewN ?_ _) | (with_reducible refine Kd.C_drew ?_))); (case side2 => exact HC0.out); (case side3 => exact by (with_reducible repeat (first | refine blk_drewN ?_ _ | refine blk_drew ?_ | refine blk_alloc ?_ _)); exact BK30.out); (case side4 => repeat (first | exact HR1_0_1.out | (with_reducible refine Kd.C_alloc ?_ _) | (with_reducible refine Kd.C_drewN ?_ _) | (with_reducible refine Kd.C_drew ?_))); (case side5 => exact HC1_0_1.out); (case side6 => repeat (first | exact HR1_0_2.out | (with_reducible refine Kd.C_alloc ?_ _) | (with_reducible refine Kd.C_drewN ?_ _) | (with_reducible refine Kd.C_drew ?_))); (case side7 => exact HC1_0_2.out); (case side8 => repeat (first | exact HR1_0_3.out | (with_reducible refine Kd.C_alloc ?_ _) | (with_reducible refine Kd.C_drewN ?_ _) | (with_reducible refine Kd.C_drew ?_))); (case side9 => exact HC1_0_3.out); (case side10 => repeat (first | exact HR1_0_4.out | (with_reducible refine Kd.C_alloc ?_ _) | (with_reducible refine Kd.C_drewN ?_ _) | (with_reducible refine Kd.C_drew ?_))); (case side11 => exact HC1_0_4.out); rintro e w4 ⟨rfl, hb⟩; refine ⟨_, rfl, ?_⟩; replace BK30 := BV BK30 hb; replace HB := BW HB hb; (try clear hb)))
 go_ret
 exact QT (BT HB.out)

/-! ### impl_IsValidEngine_2: function 48 -/
def impl_IsValidEngine_2.f (k : Nat) (a0_0 : Int) (a0_1 : Int) (a1_0 : Bool) (l1_1 : List (List (S52))) (l1_2 : List (S48)) (l1_3 : List (S76)) (l1_4 : List (S78)) (a1_5 : Int) : Option (Bool) := (impl_Engine_isActive.f k a1_0 l1_1 l1_2 l1_3 l1_4 a1_5 a0_0).bind fun t419 => (if t419 = true then ((impl_Engine_isActive.f k a1_0 l1_1 l1_2 l1_3 l1_4 a1_5 a0_1).bind fun t420 => (some (!t420))) else (some true))
theorem impl_IsValidEngine_2.mono : ∀ a0 a1 a2 a3 a4 a5 a6 a7 k, LeO (impl_IsValidEngine_2.f k a0 a1 a2 a3 a4 a5 a6 a7) (impl_IsValidEngine_2.f (k + 1) a0 a1 a2 a3 a4 a5 a6 a7) := by
 intro a0 a1 a2 a3 a4 a5 a6 a7 k
 unfold impl_IsValidEngine_2.f
 repeat' (with_reducible first | exact impl_Engine_isActive.mono .. | exact LeO.refl _ | exact LeO.none _ | refine LeO.ite ?_ ?_ | refine LeO.bind ?_ (fun _ => ?_))
theorem impl_IsValidEngine_2.calls (k : Nat) (a0_0 : Int) (a0_1 : Int) (gb1 : Nat) (a1_0 : Bool) (A1_1 : Option Addr) (c1_1 : Nat) (l1_1 : List (List (S52))) (A1_2 : Option Addr) (c1_2 : Nat) (l1_2 : List (S48)) (A1_3 : Option Addr) (c1_3 : Nat) (l1_3 : List (S76)) (A1_4 : Option Addr) (c1_4 : Nat) (l1_4 : List (S78)) (a1_5 : Int) (r : Bool) (w : World) (hb1 : w.heap[gb1]? = some (.cells #[.bool a1_0, .slice A1_1 l1_1.length c1_1, .slice A1_2 l1_2.length c1_2, .slice A1_3 l1_3.length c1_3, .slice A1_4 l1_4.length c1_4, .int .i64 a1_5] 39 (0, 0))) (hr1_1 : Kd.C (Kd.slice 52 k52) w A1_1 l1_1.length l1_1) (hc1_1 : l1_1.length ≤ c1_1) (hr1_2 : Kd.C k48 w A1_2 l1_2.length l1_2) (hc1_2 : l1_2.length ≤ c1_2) (hr1_3 : Kd.C k76 w A1_3 l1_3.length l1_3) (hc1_3 : l1_3.length ≤ c1_3) (hr1_4 : Kd.C k78 w A1_4 l1_4.length l1_4) (hc1_4 : l1_4.length ≤ c1_4) (h : impl_IsValidEngine_2.f k a0_0 a0_1 a1_0 l1_1 l1_2 l1_3 l1_4 a1_5 = some r) :
  Calls Try.prog 48 #[.agg #[.int .i64 a0_0, .int .i64 a0_1], .pointer (some ⟨gb1, 0, none⟩)] w fun e w' => e = .returned (.bool r) ∧ Below w.heap.size w w' := by
 have hu78 := Try.underlying78
 have hu39 := Try.underlying39
 have BK1 := AM_ hb1
 clear hb1
 have HR1_1 := AM_ hr1_1
 have HC1_1 := AM_ hc1_1
 clear hr1_1 hc1_1
 have HR1_2 := AM_ hr1_2
 have HC1_2 := AM_ hc1_2
 clear hr1_2 hc1_2
 have HR1_3 := AM_ hr1_3
 have HC1_3 := AM_ hc1_3
 clear hr1_3 hc1_3
 have HR1_4 := AM_ hr1_4
 have HC1_4 := AM_ hc1_4
 clear hr1_4 hc1_4
 have HB := AM_ (Below.refl w.heap.size w)
 unfold impl_IsValidEngine_2.f at h
 have H := h
 clear h
 obtain ⟨t419, A3, H⟩ := OB H
 by_cases c4 : t419 = true
 rotate_left
 ·replace c4 := Bool.eq_false_iff.mpr c4
  subst c4
  replace H := HF H
  obtain rfl := Option.some.inj H
  go_enter Try.func48, Try.ntmps48
  go_wp2_with (first | ((with_reducible refine G2 2 rfl ?_); refine BZ 2 #[.int .i64 a0_0, .int .i64 a0_1] 78 HB ?_; clear HB; intro gb418 w14 hg hb BK418 GW418 HB; have NB1_418 := NP BK1 hg; have NB418_1 := NQ BK1 hg; replace BK1 := BV BK1 hb; clear hb hg; have hnb15 := NB1_418.out; have hnc15 := NB418_1.out; obtain ⟨hcz16_0, hcz16_1, hcz16_2, hcz16_3, hcz16_4, hcz16_5, hfz16_0, hfz16_1, hfz16_2, hfz16_3, hfz16_4, hfz16_5⟩ := bk6 BK1.out; obtain ⟨hcz17_0, hcz17_1, hfz17_0, hfz17_1⟩ := bk2 BK418.out) | ((with_reducible refine G1 46 rfl ?_); refine GC (some 7) Try.func46 #[.agg #[.bool a1_0, .slice A1_1 l1_1.length c1_1, .slice A1_2 l1_2.length c1_2, .slice A1_3 l1_3.length c1_3, .slice A1_4 l1_4.length c1_4, .int .i64 a1_5], .int .i64 a0_0] ?_; (with_reducible refine MB (impl_Engine_isActive.calls k a1_0 _ _ l1_1 _ _ l1_2 _ _ l1_3 _ _ l1_4 a1_5 a0_0 false _ (CC HR1_1 HB) HC1_1.out (CC HR1_2 HB) HC1_2.out (CC HR1_3 HB) HC1_3.out (CC HR1_4 HB) HC1_4.out A3.out) ?_); intro w18 hb; replace BK1 := BV BK1 hb; replace BK418 := BV BK418 hb; replace HB := BW HB hb; (try clear hb)))
  go_ret
  exact QT (BT HB.out)
 subst c4
 replace H := HT H
 obtain ⟨t420, A5, H⟩ := OB H
 obtain rfl := Option.some.inj H
 go_enter Try.func48, Try.ntmps48
 go_wp2_with (first | ((with_reducible refine G2 2 rfl ?_); refine BZ 2 #[.int .i64 a0_0, .int .i64 a0_1] 78 HB ?_; clear HB; intro gb418 w6 hg hb BK418 GW418 HB; have NB1_418 := NP BK1 hg; have NB418_1 := NQ BK1 hg; replace BK1 := BV BK1 hb; clear hb hg; have hnb7 := NB1_418.out; have hnc7 := NB418_1.out; obtain ⟨hcz8_0, hcz8_1, hcz8_2, hcz8_3, hcz8_4, hcz8_5, hfz8_0, hfz8_1, hfz8_2, hfz8_3, hfz8_4, hfz8_5⟩ := bk6 BK1.out; obtain ⟨hcz9_0, hcz9_1, hfz9_0, hfz9_1⟩ := bk2 BK418.out) | ((with_reducible refine G1 46 rfl ?_); refine GC (some 7) Try.func46 #[.agg #[.bool a1_0, .slice A1_1 l1_1.length c1_1, .slice A1_2 l1_2.length c1_2, .slice A1_3 l1_3.length c1_3, .slice A1_4 l1_4.length c1_4, .int .i64 a1_5], .int .i64 a0_0] ?_; (with_reducible refine MB (impl_Engine_isActive.calls k a1_0 _ _ l1_1 _ _ l1_2 _ _ l1_3 _ _ l1_4 a1_5 a0_0 true _ (CC HR1_1 HB) HC1_1.out (CC HR1_2 HB) HC1_2.out (CC HR1_3 HB) HC1_3.out (CC HR1_4 HB) HC1_4.out A3.out) ?_); intro w10 hb; replace BK1 := BV BK1 hb; replace BK418 := BV BK418 hb; replace HB := BW HB hb; (try clear hb); obtain ⟨hcz11_0, hcz11_1, hcz11_2, hcz11_3, hcz11_4, hcz11_5, hfz11_0, hfz11_1, hfz11_2, hfz11_3, hfz11_4, hfz11_5⟩ := bk6 BK1.out; obtain ⟨hcz12_0, hcz12_1, hfz12_0, hfz12_1⟩ := bk2 BK418.out) | (go_at_call 46; (with_reducible refine (impl_Engine_isActive.calls k a1_0 _ _ l1_1 _ _ l1_2 _ _ l1_3 _ _ l1_4 a1_5 a0_1 t420 _ ?side1 ?side2 ?side3 ?side4 ?side5 ?side6 ?side7 ?side8 A5.out).mono ?_); (case side1 => exact CB HR1_1.out HB.out); (case side2 => exact HC1_1.out); (case side3 => exact CB HR1_2.out HB.out); (case side4 => exact HC1_2.out); (case side5 => exact CB HR1_3.out HB.out); (case side6 => exact HC1_3.out); (case side7 => exact CB HR1_4.out HB.out); (case side8 => exact HC1_4.out); rintro e w13 ⟨rfl, hb⟩; replace BK1 := BV BK1 hb; replace BK418 := BV BK418 hb; replace HB := BW HB hb; (try clear hb)))
 go_ret
 exact QT (BT HB.out)

/-! ### impl_Wait_82: function 82 -/
def impl_Wait_82.l0 : Nat → List (S78) → Int → Int → Bool → List (List (S52)) → List (S48) → List (S76) → List (S78) → Int → Option (Int)
 | 0, _, _, _, _, _, _, _, _, _ => none
 | k + 1, x0, x7, x8, x31000, x31001, x31002, x31003, x31004, x31005 => if x8 < x7 then (if 0 ≤ x8 then (if x8 < (x0.length : Int) then ((impl_IsValidEngine_2.f k ((rd_T78 x0 x8).f0) ((rd_T78 x0 x8).f1) x31000 x31001 x31002 x31003 x31004 x31005).bind fun t422 => (if t422 = true then (some x8) else (impl_Wait_82.l0 k x0 x7 (wrap64 (x8 + 1)) x31000 x31001 x31002 x31003 x31004 x31005))) else (none)) else (none)) else (some (-1))
def impl_Wait_82.f (k : Nat) (l0 : List (S78)) (a1_0_0 : Bool) (l1_0_1 : List (List (S52))) (l1_0_2 : List (S48)) (l1_0_3 : List (S76)) (l1_0_4 : List (S78)) (a1_0_5 : Int) : Option (Int) := impl_Wait_82.l0 k l0 (l0.length : Int) 0 a1_0_0 l1_0_1 l1_0_2 l1_0_3 l1_0_4 a1_0_5
theorem impl_Wait_82.mono_l : ∀ k, (∀ y0 y1 y2 y3 y4 y5 y6 y7 y8, LeO (impl_Wait_82.l0 k y0 y1 y2 y3 y4 y5 y6 y7 y8) (impl_Wait_82.l0 (k + 1) y0 y1 y2 y3 y4 y5 y6 y7 y8))
 | 0 => fun _ _ _ _ _ _ _ _ _ r h => by simp [impl_Wait_82.l0] at h
 | k + 1 => by
  have ih0 := impl_Wait_82.mono_l k
  all_goals intros; unfold impl_Wait_82.l0
  all_goals repeat' (with_reducible first | exact ih0 .. | exact impl_IsValidEngine_2.mono .. | exact LeO.refl _ | exact LeO.none _ | refine LeO.ite ?_ ?_ | refine LeO.bind ?_ (fun _ => ?_))
theorem impl_Wait_82.mono : ∀ a0 a1 a2 a3 a4 a5 a6 k, LeO (impl_Wait_82.f k a0 a1 a2 a3 a4 a5 a6) (impl_Wait_82.f (k + 1) a0 a1 a2 a3 a4 a5 a6) := by
 intro a0 a1 a2 a3 a4 a5 a6 k
 have ih0 := impl_Wait_82.mono_l k
 unfold impl_Wait_82.f
 repeat' (with_reducible first | exact ih0 .. | exact impl_IsValidEngine_2.mono .. | exact LeO.refl _ | exact LeO.none _ | refine LeO.ite ?_ ?_ | refine LeO.bind ?_ (fun _ => ?_))
theorem impl_Wait_82.calls (k : Nat) (A0 : Option Addr) (c0 : Nat) (l0 : List (S78)) (gb30 : Nat) (a1_0_0 : Bool) (A1_0_1 : Option Addr) (c1_0_1 : Nat) (l1_0_1 : List (List (S52))) (A1_0_2 : Option Addr) (c1_0_2 : Nat) (l1_0_2 : List (S48)) (A1_0_3 : Option Addr) (c1_0_3 : Nat) (l1_0_3 : List (S76)) (A1_0_4 : Option Addr) (c1_0_4 : Nat) (l1_0_4 : List (S78)) (a1_0_5 : Int) (r : Int) (w : World) (hr0 : Kd.C k78 w A0 l0.length l0) (hc0 : l0.length ≤ c0) (hb30 : w.heap[gb30]? = some (.cells #[.bool a1_0_0, .slice A1_0_1 l1_0_1.length c1_0_1, .slice A1_0_2 l1_0_2.length c1_0_2, .slice A1_0_3 l1_0_3.length c1_0_3, .slice A1_0_4 l1_0_4.length c1_0_4, .int .i64 a1_0_5] 39 (0, 0))) (hr1_0_1 : Kd.C (Kd.slice 52 k52) w A1_0_1 l1_0_1.length l1_0_1) (hc1_0_1 : l1_0_1.length ≤ c1_0_1) (hr1_0_2 : Kd.C k48 w A1_0_2 l1_0_2.length l1_0_2) (hc1_0_2 : l1_0_2.length ≤ c1_0_2) (hr1_0_3 : Kd.C k76 w A1_0_3 l1_0_3.length l1_0_3) (hc1_0_3 : l1_0_3.length ≤ c1_0_3) (hr1_0_4 : Kd.C k78 w A1_0_4 l1_0_4.length l1_0_4) (hc1_0_4 : l1_0_4.length ≤ c1_0_4) (h : impl_Wait_82.f k l0 a1_0_0 l1_0_1 l1_0_2 l1_0_3 l1_0_4 a1_0_5 = some r) :
  Calls Try.prog 82 #[.slice A0 l0.length c0, .func (.func 48) #[] #[.pointer (some ⟨gb30, 0, none⟩)]] w fun e w' => e = .returned (.int .i64 r) ∧ Below w.heap.size w w' := by
 have hu78 := Try.underlying78
 have BK30 := AM_ hb30
 clear hb30
 have HR0 := AM_ hr0
 have HC0 := AM_ hc0
 clear hr0 hc0
 have HR1_0_1 := AM_ hr1_0_1
 have HC1_0_1 := AM_ hc1_0_1
 clear hr1_0_1 hc1_0_1
 have HR1_0_2 := AM_ hr1_0_2
 have HC1_0_2 := AM_ hc1_0_2
 clear hr1_0_2 hc1_0_2
 have HR1_0_3 := AM_ hr1_0_3
 have HC1_0_3 := AM_ hc1_0_3
 clear hr1_0_3 hc1_0_3
 have HR1_0_4 := AM_ hr1_0_4
 have HC1_0_4 := AM_ hc1_0_4
 clear hr1_0_4 hc1_0_4
 have HB := AM_ (Below.refl w.heap.size w)
 unfold impl_Wait_82.f at h
 have H := h
 clear h
 have H' := AM_ H
 clear H
 go_enter Try.func82, Try.ntmps82
 go_wp2
 go_loopg [8] k (fun kq v8 w' => ∃ (x8_1 : Int), v8 = .int .i64 x8_1 ∧ Aside0 (impl_Wait_82.l0 kq l0 (l0.length : Int) x8_1 a1_0_0 l1_0_1 l1_0_2 l1_0_3 l1_0_4 a1_0_5 = some r) ∧ Aside0 (kq ≤ k) ∧ Aside0 (w'.heap[gb30]? = some (.cells #[.bool a1_0_0, (.slice A1_0_1 l1_0_1.length c1_0_1), (.slice A1_0_2 l1_0_2.length c1_0_2), (.slice A1_0_3 l1_0_3.length c1_0_3), (.slice A1_0_4 l1_0_4.length c1_0_4), .int .i64 a1_0_5] 39 (0, 0))) ∧ Aside0 (Below w.heap.size w w'))
 case atStart => exact ⟨(0), (by first | rfl | (simp; done) | (simp [*]; done)), H', ⟨Nat.le_refl _⟩, ⟨BH BK30.out⟩, ⟨BT HB.out⟩⟩
 case round =>
  clear H'
  obtain ⟨x8_1, rfl, HA, HK1, BK30, HB⟩ := hrel
  cases gk with
  | zero => exact absurd HA.out (by simp [impl_Wait_82.l0])
  | succ k1 =>
   have H := HA.out
   clear HA
   simp only [impl_Wait_82.l0] at H
   by_cases c3 : x8_1 < (l0.length : Int)
   rotate_left
   ·rw [if_neg c3] at H
    have c3b0 := decide_eq_false c3
    clear c3
    obtain rfl := Option.some.inj H
    go_wp2
    go_ret
    exact QT (BT HB.out)
   rw [if_pos c3] at H
   have c3b0 := decide_eq_true c3
   clear c3
   replace H := HI H
   obtain ⟨c4, H⟩ := H
   have c4b0 := decide_eq_true c4
   clear c4
   replace H := HI H
   obtain ⟨c5, H⟩ := H
   have c5b0 := decide_eq_true c5
   clear c5
   obtain ⟨t422, A6, H⟩ := OB H
   by_cases c7 : t422 = true
   ·subst c7
    replace H := HT H
    obtain rfl := Option.some.inj H
    have p421 : 0 ≤ (x8_1 : Int) := DT
    have q421 : x8_1 < (l0.length : Int) := DT
    obtain ⟨ad421, e421, hx421_0, hx421_1⟩ := at_T78 HR0.out x8_1 p421 q421
    cases e421
    replace hx421_0 := BC HB.out hx421_0
    replace hx421_1 := BC HB.out hx421_1
    replace p421 := eq_true p421
    replace q421 := eq_true q421
    go_wp2_with (first | ((with_reducible refine G2 16 rfl ?_); refine goesF_ (some 16) rfl rfl Try.func48 (by kernel_rfl) rfl (lb := #[.pointer (some ⟨gb30, 0, none⟩)]) #[.agg #[.int .i64 ((rd_T78 l0 x8_1).f0), .int .i64 ((rd_T78 l0 x8_1).f1)], .pointer (some ⟨gb30, 0, none⟩)] rfl rfl (by (try simp only [List.map_toArray, List.map_cons, List.map_nil]); first | done | rfl) ?_; (with_reducible refine (impl_IsValidEngine_2.calls k1 ((rd_T78 l0 x8_1).f0) ((rd_T78 l0 x8_1).f1) gb30 a1_0_0 A1_0_1 c1_0_1 l1_0_1 A1_0_2 c1_0_2 l1_0_2 A1_0_3 c1_0_3 l1_0_3 A1_0_4 c1_0_4 l1_0_4 a1_0_5 true _ ?side1 ?side2 ?side3 ?side4 ?side5 ?side6 ?side7 ?side8 ?side9 A6.out).mono ?_); (case side1 => exact by (with_reducible repeat (first | refine blk_drewN ?_ _ | refine blk_drew ?_ | refine blk_alloc ?_ _)); exact BK30.out); (case side2 => exact CB HR1_0_1.out HB.out); (case side3 => exact HC1_0_1.out); (case side4 => exact CB HR1_0_2.out HB.out); (case side5 => exact HC1_0_2.out); (case side6 => exact CB HR1_0_3.out HB.out); (case side7 => exact HC1_0_3.out); (case side8 => exact CB HR1_0_4.out HB.out); (case side9 => exact HC1_0_4.out); rintro e w8 ⟨rfl, hb⟩; refine ⟨_, rfl, ?_⟩; replace BK30 := BV BK30 hb; replace HB := BW HB hb; (try clear hb)))
    go_ret
    exact QT (BT HB.out)
   replace c7 := Bool.eq_false_iff.mpr c7
   subst c7
   replace H := HF H
   have H' := AM_ H
   clear H
   have p421 : 0 ≤ (x8_1 : Int) := DT
   have q421 : x8_1 < (l0.length : Int) := DT
   obtain ⟨ad421, e421, hx421_0, hx421_1⟩ := at_T78 HR0.out x8_1 p421 q421
   cases e421
   replace hx421_0 := BC HB.out hx421_0
   replace hx421_1 := BC HB.out hx421_1
   replace p421 := eq_true p421
   replace q421 := eq_true q421
   go_wp2_with (first | ((with_reducible refine G2 16 rfl ?_); refine goesF_ (some 16) rfl rfl Try.func48 (by kernel_rfl) rfl (lb := #[.pointer (some ⟨gb30, 0, none⟩)]) #[.agg #[.int .i64 ((rd_T78 l0 x8_1).f0), .int .i64 ((rd_T78 l0 x8_1).f1)], .pointer (some ⟨gb30, 0, none⟩)] rfl rfl (by (try simp only [List.map_toArray, List.map_cons, List.map_nil]); first | done | rfl) ?_; (with_reducible refine (impl_IsValidEngine_2.calls k1 ((rd_T78 l0 x8_1).f0) ((rd_T78 l0 x8_1).f1) gb30 a1_0_0 A1_0_1 c1_0_1 l1_0_1 A1_0_2 c1_0_2 l1_0_2 A1_0_3 c1_0_3 l1_0_3 A1_0_4 c1_0_4 l1_0_4 a1_0_5 false _ ?side1 ?side2 ?side3 ?side4 ?side5 ?side6 ?side7 ?side8 ?side9 A6.out).mono ?_); (case side1 => exact by (with_reducible repeat (first | refine blk_drewN ?_ _ | refine blk_drew ?_ | refine blk_alloc ?_ _)); exact BK30.out); (case side2 => exact CB HR1_0_1.out HB.out); (case side3 => exact HC1_0_1.out); (case side4 => exact CB HR1_0_2.out HB.out); (case side5 => exact HC1_0_2.out); (case side6 => exact CB HR1_0_3.out HB.out); (case side7 => exact HC1_0_3.out); (case side8 => exact CB HR1_0_4.out HB.out); (case side9 => exact HC1_0_4.out); rintro e w9 ⟨rfl, hb⟩; refine ⟨_, rfl, ?_⟩; replace BK30 := BV BK30 hb; replace HB := BW HB hb; (try clear hb)))
   go_roundg k1
   case measure => have := HK1.out; omega
   case rel => exact ⟨(wrap64 (x8_1 + 1)), (by first | rfl | (simp; done) | (simp [*]; done)), H', ⟨by have := HK1.out; omega⟩, ⟨BH BK30.out⟩, ⟨BT HB.out⟩⟩

/-! ### impl_Wait_47: function 47 -/
def impl_Wait_47.f (k : Nat) (l0 : List (S78)) (a1_0_0 : Bool) (l1_0_1 : List (List (S52))) (l1_0_2 : List (S48)) (l1_0_3 : List (S76)) (l1_0_4 : List (S78)) (a1_0_5 : Int) : Option (Bool) := (impl_Wait_82.f k l0 a1_0_0 l1_0_1 l1_0_2 l1_0_3 l1_0_4 a1_0_5).bind fun t423 => (some (decide (t423 ≥ 0)))
theorem impl_Wait_47.mono : ∀ a0 a1 a2 a3 a4 a5 a6 k, LeO (impl_Wait_47.f k a0 a1 a2 a3 a4 a5 a6) (impl_Wait_47.f (k + 1) a0 a1 a2 a3 a4 a5 a6) := by
 intro a0 a1 a2 a3 a4 a5 a6 k
 unfold impl_Wait_47.f
 repeat' (with_reducible first | exact impl_Wait_82.mono .. | exact LeO.refl _ | exact LeO.none _ | refine LeO.ite ?_ ?_ | refine LeO.bind ?_ (fun _ => ?_))
theorem impl_Wait_47.calls (k : Nat) (A0 : Option Addr) (c0 : Nat) (l0 : List (S78)) (gb30 : Nat) (a1_0_0 : Bool) (A1_0_1 : Option Addr) (c1_0_1 : Nat) (l1_0_1 : List (List (S52))) (A1_0_2 : Option Addr) (c1_0_2 : Nat) (l1_0_2 : List (S48)) (A1_0_3 : Option Addr) (c1_0_3 : Nat) (l1_0_3 : List (S76)) (A1_0_4 : Option Addr) (c1_0_4 : Nat) (l1_0_4 : List (S78)) (a1_0_5 : Int) (r : Bool) (w : World) (hr0 : Kd.C k78 w A0 l0.length l0) (hc0 : l0.length ≤ c0) (hb30 : w.heap[gb30]? = some (.cells #[.bool a1_0_0, .slice A1_0_1 l1_0_1.length c1_0_1, .slice A1_0_2 l1_0_2.length c1_0_2, .slice A1_0_3 l1_0_3.length c1_0_3, .slice A1_0_4 l1_0_4.length c1_0_4, .int .i64 a1_0_5] 39 (0, 0))) (hr1_0_1 : Kd.C (Kd.slice 52 k52) w A1_0_1 l1_0_1.length l1_0_1) (hc1_0_1 : l1_0_1.length ≤ c1_0_1) (hr1_0_2 : Kd.C k48 w A1_0_2 l1_0_2.length l1_0_2) (hc1_0_2 : l1_0_2.length ≤ c1_0_2) (hr1_0_3 : Kd.C k76 w A1_0_3 l1_0_3.length l1_0_3) (hc1_0_3 : l1_0_3.length ≤ c1_0_3) (hr1_0_4 : Kd.C k78 w A1_0_4 l1_0_4.length l1_0_4) (hc1_0_4 : l1_0_4.length ≤ c1_0_4) (h : impl_Wait_47.f k l0 a1_0_0 l1_0_1 l1_0_2 l1_0_3 l1_0_4 a1_0_5 = some r) :
  Calls Try.prog 47 #[.slice A0 l0.length c0, .func (.func 48) #[] #[.pointer (some ⟨gb30, 0, none⟩)]] w fun e w' => e = .returned (.bool r) ∧ Below w.heap.size w w' := by
 have BK30 := AM_ hb30
 clear hb30
 have HR0 := AM_ hr0
 have HC0 := AM_ hc0
 clear hr0 hc0
 have HR1_0_1 := AM_ hr1_0_1
 have HC1_0_1 := AM_ hc1_0_1
 clear hr1_0_1 hc1_0_1
 have HR1_0_2 := AM_ hr1_0_2
 have HC1_0_2 := AM_ hc1_0_2
 clear hr1_0_2 hc1_0_2
 have HR1_0_3 := AM_ hr1_0_3
 have HC1_0_3 := AM_ hc1_0_3
 clear hr1_0_3 hc1_0_3
 have HR1_0_4 := AM_ hr1_0_4
 have HC1_0_4 := AM_ hc1_0_4
 clear hr1_0_4 hc1_0_4
 have HB := AM_ (Below.refl w.heap.size w)
 unfold impl_Wait_47.f at h
 have H := h
 clear h
 obtain ⟨t423, A3, H⟩ := OB H
 obtain rfl := Option.some.inj H
 go_enter Try.func47, Try.ntmps47
 go_wp2_with (first | ((with_reducible refine G1 82 rfl ?_); refine GC (some 7) Try.func82 #[.slice A0 l0.length c0, .func (.func 48) #[] #[.pointer (some ⟨gb30, 0, none⟩)]] ?_; (with_reducible refine (impl_Wait_82.calls k _ _ l0 gb30 a1_0_0 A1_0_1 c1_0_1 l1_0_1 A1_0_2 c1_0_2 l1_0_2 A1_0_3 c1_0_3 l1_0_3 A1_0_4 c1_0_4 l1_0_4 a1_0_5 t423 _ ?side1 ?side2 ?side3 ?side4 ?side5 ?side6 ?side7 ?side8 ?side9 ?side10 ?side11 A3.out).mono ?_); (case side1 => repeat (first | exact HR0.out | (with_reducible refine Kd.C_alloc ?_ _) | (with_reducible refine Kd.C_drewN ?_ _) | (with_reducible refine Kd.C_drew ?_))); (case side2 => exact HC0.out); (case side3 => exact by (with_reducible repeat (first | refine blk_drewN ?_ _ | refine blk_drew ?_ | refine blk_alloc ?_ _)); exact BK30.out); (case side4 => repeat (first | exact HR1_0_1.out | (with_reducible refine Kd.C_alloc ?_ _) | (with_reducible refine Kd.C_drewN ?_ _) | (with_reducible refine Kd.C_drew ?_))); (case side5 => exact HC1_0_1.out); (case side6 => repeat (first | exact HR1_0_2.out | (with_reducible refine Kd.C_alloc ?_ _) | (with_reducible refine Kd.C_drewN ?_ _) | (with_reducible refine Kd.C_drew ?_))); (case side7 => exact HC1_0_2.out); (case side8 => repeat (first | exact HR1_0_3.out | (with_reducible refine Kd.C_alloc ?_ _) | (with_reducible refine Kd.C_drewN ?_ _) | (with_reducible refine Kd.C_drew ?_))); (case side9 => exact HC1_0_3.out); (case side10 => repeat (first | exact HR1_0_4.out | (with_reducible refine Kd.C_alloc ?_ _) | (with_reducible refine Kd.C_drewN ?_ _) | (with_reducible refine Kd.C_drew ?_))); (case side11 => exact HC1_0_4.out); rintro e w4 ⟨rfl, hb⟩; refine ⟨_, rfl, ?_⟩; replace BK30 := BV BK30 hb; replace HB := BW HB hb; (try clear hb)))
 go_ret
 exact QT (BT HB.out)

end Go.Proofs.Ytdgknikgfjhohaa.PFnExactIsValidEngine
