-- Printed by wip/myprint.py.
import Derived.Test.YtdgknikgfjhohaaPFnExactIsValidEnginex17
namespace Go.Proofs.Ytdgknikgfjhohaa.PFnExactIsValidEngine
open Go.RowKit Go.Proofs.YtdgknikgfjhohaaW.PrintWords Go.Proofs.YtdgknikgfjhohaaW.PrintLast Go.Proofs.YtdgknikgfjhohaaW.PrintMore
set_option maxHeartbeats 8000000
set_option maxRecDepth 100000
set_option linter.unusedVariables false
set_option linter.unusedSimpArgs false

/-! ### impl_Version_140: function 140 -/
def impl_Version_140.l0 : Nat → List (S52) → Int → Int → Int → Option (Int)
 | 0, _, _, _, _ => none
 | k + 1, x0, x7, x8, x31000 => if x8 < x7 then (if 0 ≤ x8 then (if x8 < (x0.length : Int) then ((impl_FindVersion_1.f ((rd_T52 x0 x8).f0) ((rd_T52 x0 x8).f1) ((rd_T52 x0 x8).f2) ((rd_T52 x0 x8).f3) ((rd_T52 x0 x8).f4) x31000).bind fun t390 => (if t390 = true then (some x8) else (impl_Version_140.l0 k x0 x7 (wrap64 (x8 + 1)) x31000))) else (none)) else (none)) else (some (-1))
def impl_Version_140.f (k : Nat) (l0 : List (S52)) (a1_0_0 : Int) : Option (Int) := impl_Version_140.l0 k l0 (l0.length : Int) 0 a1_0_0
theorem impl_Version_140.mono_l : ∀ k, (∀ y0 y1 y2 y3, LeO (impl_Version_140.l0 k y0 y1 y2 y3) (impl_Version_140.l0 (k + 1) y0 y1 y2 y3))
 | 0 => fun _ _ _ _ r h => by simp [impl_Version_140.l0] at h
 | k + 1 => by
  have ih0 := impl_Version_140.mono_l k
  all_goals intros; unfold impl_Version_140.l0
  all_goals repeat' (with_reducible first | exact ih0 .. | exact LeO.refl _ | exact LeO.none _ | refine LeO.ite ?_ ?_ | refine LeO.bind ?_ (fun _ => ?_))
theorem impl_Version_140.mono : ∀ a0 a1 k, LeO (impl_Version_140.f k a0 a1) (impl_Version_140.f (k + 1) a0 a1) := by
 intro a0 a1 k
 have ih0 := impl_Version_140.mono_l k
 unfold impl_Version_140.f
 repeat' (with_reducible first | exact ih0 .. | exact LeO.refl _ | exact LeO.none _ | refine LeO.ite ?_ ?_ | refine LeO.bind ?_ (fun _ => ?_))
theorem impl_Version_140.calls (k : Nat) (A0 : Option Addr) (c0 : Nat) (l0 : List (S52)) (gb30 : Nat) (a1_0_0 : Int) (r : Int) (w : World) (hr0 : Kd.C k52 w A0 l0.length l0) (hc0 : l0.length ≤ c0) (hb30 : w.heap[gb30]? = some (.cells #[.int .i64 a1_0_0] 3 (0, 0))) (h : impl_Version_140.f k l0 a1_0_0 = some r) :
  Calls Try.prog 140 #[.slice A0 l0.length c0, .func (.func 141) #[] #[.pointer (some ⟨gb30, 0, none⟩)]] w fun e w' => e = .returned (.int .i64 r) ∧ Below w.heap.size w w' := by
 have hu52 := Try.underlying52
 have BK30 := AM_ hb30
 clear hb30
 have HR0 := AM_ hr0
 have HC0 := AM_ hc0
 clear hr0 hc0
 have HB := AM_ (Below.refl w.heap.size w)
 unfold impl_Version_140.f at h
 have H := h
 clear h
 have H' := AM_ H
 clear H
 go_enter Try.func140, Try.ntmps140
 go_wp2
 go_loopg [8] k (fun kq v8 w' => ∃ (x8_1 : Int), v8 = .int .i64 x8_1 ∧ Aside0 (impl_Version_140.l0 kq l0 (l0.length : Int) x8_1 a1_0_0 = some r) ∧ Aside0 (kq ≤ k) ∧ Aside0 (w'.heap[gb30]? = some (.cells #[.int .i64 a1_0_0] 3 (0, 0))) ∧ Aside0 (Below w.heap.size w w'))
 case atStart => exact ⟨(0), (by first | rfl | (simp; done) | (simp [*]; done)), H', ⟨Nat.le_refl _⟩, ⟨BH BK30.out⟩, ⟨BT HB.out⟩⟩
 case round =>
  clear H'
  obtain ⟨x8_1, rfl, HA, HK1, BK30, HB⟩ := hrel
  cases gk with
  | zero => exact absurd HA.out (by simp [impl_Version_140.l0])
  | succ k1 =>
   have H := HA.out
   clear HA
   simp only [impl_Version_140.l0] at H
   by_cases c3 : x8_1 < (l0.length : Int)
   rotate_left
   ·rw [if_neg c3] at H
    have c3b0 := decide_eq_false c3
    clear c3
    obtain rfl := Option.some.inj H
    go_wp2
    go_ret
    exact QT (BT HB.out)
   rw [if_pos c3] at H
   have c3b0 := decide_eq_true c3
   clear c3
   replace H := HI H
   obtain ⟨c4, H⟩ := H
   have c4b0 := decide_eq_true c4
   clear c4
   replace H := HI H
   obtain ⟨c5, H⟩ := H
   have c5b0 := decide_eq_true c5
   clear c5
   obtain ⟨t390, A6, H⟩ := OB H
   by_cases c7 : t390 = true
   ·subst c7
    replace H := HT H
    obtain rfl := Option.some.inj H
    have p389 : 0 ≤ (x8_1 : Int) := DT
    have q389 : x8_1 < (l0.length : Int) := DT
    obtain ⟨ad389, e389, hx389_0, hx389_1, hx389_2, hx389_3, hx389_4⟩ := at_T52 HR0.out x8_1 p389 q389
    cases e389
    replace hx389_0 := BC HB.out hx389_0
    replace hx389_1 := BC HB.out hx389_1
    replace hx389_2 := BC HB.out hx389_2
    replace hx389_3 := BC HB.out hx389_3
    replace hx389_4 := BC HB.out hx389_4
    replace p389 := eq_true p389
    replace q389 := eq_true q389
    go_wp2_with (first | ((with_reducible refine G2 16 rfl ?_); refine goesF_ (some 16) rfl rfl Try.func141 (by kernel_rfl) rfl (lb := #[.pointer (some ⟨gb30, 0, none⟩)]) #[.agg #[.int .i64 ((rd_T52 l0 x8_1).f0), .int .i64 ((rd_T52 l0 x8_1).f1), .int .i64 ((rd_T52 l0 x8_1).f2), .int .i64 ((rd_T52 l0 x8_1).f3), .int .i64 ((rd_T52 l0 x8_1).f4)], .pointer (some ⟨gb30, 0, none⟩)] rfl rfl (by (try simp only [List.map_toArray, List.map_cons, List.map_nil]); first | done | rfl) ?_; (with_reducible refine (impl_FindVersion_1.calls ((rd_T52 l0 x8_1).f0) ((rd_T52 l0 x8_1).f1) ((rd_T52 l0 x8_1).f2) ((rd_T52 l0 x8_1).f3) ((rd_T52 l0 x8_1).f4) gb30 a1_0_0 true _ ?side1 A6.out).mono ?_); (case side1 => exact by (with_reducible repeat (first | refine blk_drewN ?_ _ | refine blk_drew ?_ | refine blk_alloc ?_ _)); exact BK30.out); rintro e w8 ⟨rfl, hb⟩; refine ⟨_, rfl, ?_⟩; replace BK30 := BV BK30 hb; replace HB := BW HB hb; (try clear hb)))
    go_ret
    exact QT (BT HB.out)
   replace c7 := Bool.eq_false_iff.mpr c7
   subst c7
   replace H := HF H
   have H' := AM_ H
   clear H
   have p389 : 0 ≤ (x8_1 : Int) := DT
   have q389 : x8_1 < (l0.length : Int) := DT
   obtain ⟨ad389, e389, hx389_0, hx389_1, hx389_2, hx389_3, hx389_4⟩ := at_T52 HR0.out x8_1 p389 q389
   cases e389
   replace hx389_0 := BC HB.out hx389_0
   replace hx389_1 := BC HB.out hx389_1
   replace hx389_2 := BC HB.out hx389_2
   replace hx389_3 := BC HB.out hx389_3
   replace hx389_4 := BC HB.out hx389_4
   replace p389 := eq_true p389
   replace q389 := eq_true q389
   go_wp2_with (first | ((with_reducible refine G2 16 rfl ?_); refine goesF_ (some 16) rfl rfl Try.func141 (by kernel_rfl) rfl (lb := #[.pointer (some ⟨gb30, 0, none⟩)]) #[.agg #[.int .i64 ((rd_T52 l0 x8_1).f0), .int .i64 ((rd_T52 l0 x8_1).f1), .int .i64 ((rd_T52 l0 x8_1).f2), .int .i64 ((rd_T52 l0 x8_1).f3), .int .i64 ((rd_T52 l0 x8_1).f4)], .pointer (some ⟨gb30, 0, none⟩)] rfl rfl (by (try simp only [List.map_toArray, List.map_cons, List.map_nil]); first | done | rfl) ?_; (with_reducible refine (impl_FindVersion_1.calls ((rd_T52 l0 x8_1).f0) ((rd_T52 l0 x8_1).f1) ((rd_T52 l0 x8_1).f2) ((rd_T52 l0 x8_1).f3) ((rd_T52 l0 x8_1).f4) gb30 a1_0_0 false _ ?side1 A6.out).mono ?_); (case side1 => exact by (with_reducible repeat (first | refine blk_drewN ?_ _ | refine blk_drew ?_ | refine blk_alloc ?_ _)); exact BK30.out); rintro e w9 ⟨rfl, hb⟩; refine ⟨_, rfl, ?_⟩; replace BK30 := BV BK30 hb; replace HB := BW HB hb; (try clear hb)))
   go_roundg k1
   case measure => have := HK1.out; omega
   case rel => exact ⟨(wrap64 (x8_1 + 1)), (by first | rfl | (simp; done) | (simp [*]; done)), H', ⟨by have := HK1.out; omega⟩, ⟨BH BK30.out⟩, ⟨BT HB.out⟩⟩

/-! ### impl_FindVersion: function 133 -/
def impl_FindVersion.f (k : Nat) (l0 : List (S52)) (a1 : Int) : Option (Int) := (impl_Version_140.f k l0 a1).bind fun t392 => (some t392)
theorem impl_FindVersion.mono : ∀ a0 a1 k, LeO (impl_FindVersion.f k a0 a1) (impl_FindVersion.f (k + 1) a0 a1) := by
 intro a0 a1 k
 unfold impl_FindVersion.f
 repeat' (with_reducible first | exact impl_Version_140.mono .. | exact LeO.refl _ | exact LeO.none _ | refine LeO.ite ?_ ?_ | refine LeO.bind ?_ (fun _ => ?_))
theorem impl_FindVersion.calls (k : Nat) (A0 : Option Addr) (c0 : Nat) (l0 : List (S52)) (a1 : Int) (r : Int) (w : World) (hr0 : Kd.C k52 w A0 l0.length l0) (hc0 : l0.length ≤ c0) (h : impl_FindVersion.f k l0 a1 = some r) :
  Calls Try.prog 133 #[.slice A0 l0.length c0, .int .i64 a1] w fun e w' => e = .returned (.int .i64 r) ∧ Below w.heap.size w w' := by
 have HR0 := AM_ hr0
 have HC0 := AM_ hc0
 clear hr0 hc0
 have HB := AM_ (Below.refl w.heap.size w)
 unfold impl_FindVersion.f at h
 have H := h
 clear h
 obtain ⟨t392, A3, H⟩ := OB H
 obtain rfl := Option.some.inj H
 go_enter Try.func133, Try.ntmps133
 go_wp2_with (first | ((with_reducible refine G2 3 rfl ?_); refine BY 3 #[.int .i64 a1] 3 HB ?_; clear HB; intro gb391 w4 BK391 GW391 HB) | ((with_reducible refine G1 140 rfl ?_); refine GC (some 7) Try.func140 #[.slice A0 l0.length c0, .func (.func 141) #[] #[.pointer (some ⟨gb391, 0, none⟩)]] ?_; (with_reducible refine (impl_Version_140.calls k _ _ l0 gb391 a1 t392 _ ?side1 ?side2 ?side3 A3.out).mono ?_); (case side1 => exact CB HR0.out HB.out); (case side2 => exact HC0.out); (case side3 => exact by (with_reducible repeat (first | refine blk_drewN ?_ _ | refine blk_drew ?_ | refine blk_alloc ?_ _)); exact BK391.out); rintro e w5 ⟨rfl, hb⟩; refine ⟨_, rfl, ?_⟩; replace BK391 := BV BK391 hb; replace HB := BW HB hb; (try clear hb)))
 go_ret
 exact QT (BT HB.out)

/-! ### impl_Store_find: function 115 -/
def impl_Store_find.f (k : Nat) (l0_0 : List (List (S52))) (a1_0 : Int) (a1_1 : Int) : Option (Int) := if 0 ≤ a1_0 then (if a1_0 < (l0_0.length : Int) then ((impl_FindVersion.f k (rd_L11 l0_0 a1_0) a1_1).bind fun t315 => (if t315 < 0 then (some (-1)) else (if 0 ≤ t315 then (if t315 < ((rd_L11 l0_0 a1_0).length : Int) then (some t315) else (none)) else (none)))) else (none)) else (none)
theorem impl_Store_find.mono : ∀ a0 a1 a2 k, LeO (impl_Store_find.f k a0 a1 a2) (impl_Store_find.f (k + 1) a0 a1 a2) := by
 intro a0 a1 a2 k
 unfold impl_Store_find.f
 repeat' (with_reducible first | exact impl_FindVersion.mono .. | exact LeO.refl _ | exact LeO.none _ | refine LeO.ite ?_ ?_ | refine LeO.bind ?_ (fun _ => ?_))
/-- Where a version lies: known from the rows, at any world. -/
def impl_Store_find.PT (A : Option Addr) (r : Int) : Option Addr := if r < 0 then none else A.map (fun a => a.add (r.toNat * 5))
theorem impl_Store_find_at {w : World} {A0_0 : Option Addr} {l0_0 : List (List (S52))} {k : Nat} {a1_0 a1_1 r : Int} (hr0_0 : Kd.C (Kd.slice 52 k52) w A0_0 l0_0.length l0_0) (h : impl_Store_find.f k l0_0 a1_0 a1_1 = some r) :
  0 ≤ a1_0 ∧ a1_0 < (l0_0.length : Int) ∧ ∃ ad A1 c, A0_0 = some ad ∧ w.cell? (ad.add (a1_0 : Int).toNat) = some (.slice A1 (rd_L11 l0_0 a1_0).length c) ∧ (rd_L11 l0_0 a1_0).length ≤ c ∧ Kd.C k52 w A1 (rd_L11 l0_0 a1_0).length (rd_L11 l0_0 a1_0) ∧ (r ≠ -1 → 0 ≤ r ∧ ∃ adI, A1 = some adI ∧ w.cell? (adI.add (r.toNat * 5)) = some (.int .i64 (rd_T52 (rd_L11 l0_0 a1_0) r).f0) ∧ w.cell? ⟨(adI.add (r.toNat * 5)).block, (adI.add (r.toNat * 5)).off + 1, none⟩ = some (.int .i64 (rd_T52 (rd_L11 l0_0 a1_0) r).f1) ∧ w.cell? ⟨(adI.add (r.toNat * 5)).block, (adI.add (r.toNat * 5)).off + 2, none⟩ = some (.int .i64 (rd_T52 (rd_L11 l0_0 a1_0) r).f2) ∧ w.cell? ⟨(adI.add (r.toNat * 5)).block, (adI.add (r.toNat * 5)).off + 3, none⟩ = some (.int .i64 (rd_T52 (rd_L11 l0_0 a1_0) r).f3) ∧ w.cell? ⟨(adI.add (r.toNat * 5)).block, (adI.add (r.toNat * 5)).off + 4, none⟩ = some (.int .i64 (rd_T52 (rd_L11 l0_0 a1_0) r).f4)) := by
 unfold impl_Store_find.f at h
 by_cases c3 : 0 ≤ a1_0
 rotate_left
 ·rw [if_neg c3] at h; exact absurd h (by simp)
 rw [if_pos c3] at h
 by_cases c4 : a1_0 < (l0_0.length : Int)
 rotate_left
 ·rw [if_neg c4] at h; exact absurd h (by simp)
 rw [if_pos c4] at h
 obtain ⟨ad, A1, c1, e1, hx, hl, hi⟩ := at_L11 hr0_0 a1_0 c3 c4
 refine ⟨c3, c4, ad, A1, c1, e1, hx, hl, hi, fun hn => ?_⟩
 obtain ⟨t, _, h⟩ := Option.bind_eq_some_iff.mp h
 (try dsimp only at h)
 by_cases c6 : t < 0
 ·rw [if_pos c6] at h; exact absurd (Option.some.inj h).symm hn
 rw [if_neg c6] at h
 by_cases c13 : 0 ≤ t
 rotate_left
 ·rw [if_neg c13] at h; exact absurd h (by simp)
 rw [if_pos c13] at h
 by_cases c14 : t < ((rd_L11 l0_0 a1_0).length : Int)
 rotate_left
 ·rw [if_neg c14] at h; exact absurd h (by simp)
 rw [if_pos c14] at h
 obtain rfl := Option.some.inj h
 obtain ⟨adI, e2, h0, h1, h2, h3, h4⟩ := at_T52 hi t c13 c14
 exact ⟨c13, adI, e2, h0, h1, h2, h3, h4⟩
theorem impl_Store_find.calls (k : Nat) (ad314 : Addr) (c0_0 : Nat) (l0_0 : List (List (S52))) (A314_0 : Option Addr) (c314_0 : Nat) (a1_0 : Int) (a1_1 : Int) (r : Int) (w : World) (hx0 : w.cell? (ad314.add (a1_0 : Int).toNat) = some (.slice A314_0 (rd_L11 l0_0 a1_0).length c314_0)) (hi0 : Kd.C k52 w A314_0 (rd_L11 l0_0 a1_0).length (rd_L11 l0_0 a1_0)) (hl0 : (rd_L11 l0_0 a1_0).length ≤ c314_0) (h : impl_Store_find.f k l0_0 a1_0 a1_1 = some r) :
  Calls Try.prog 115 #[.agg #[.slice (some ad314) l0_0.length c0_0], .agg #[.int .i64 a1_0, .int .i64 a1_1]] w fun e w' => e = .returned (.pointer (impl_Store_find.PT A314_0 r)) ∧ Below w.heap.size w w' := by
 have hu34 := Try.underlying34
 have hu116 := Try.underlying116
 have HX0 := AM_ hx0
 have HI0 := AM_ hi0
 have HL0 := AM_ hl0
 clear hx0 hi0 hl0
 have HB := AM_ (Below.refl w.heap.size w)
 unfold impl_Store_find.f at h
 have H := h
 clear h
 replace H := HI H
 obtain ⟨c3, H⟩ := H
 have c3b0 := decide_eq_true c3
 clear c3
 replace H := HI H
 obtain ⟨c4, H⟩ := H
 have c4b0 := decide_eq_true c4
 clear c4
 obtain ⟨t315, A5, H⟩ := OB H
 by_cases c6 : t315 < 0
 ·rw [if_pos c6] at H
  have c6b0 := decide_eq_true c6
  clear c6
  obtain rfl := Option.some.inj H
  go_enter Try.func115, Try.ntmps115
  go_wp2_with (first | ((with_reducible refine G2 2 rfl ?_); refine BY 2 #[.slice (some ad314) l0_0.length c0_0] 34 HB ?_; clear HB; intro gb312 w7 BK312 GW312 HB) | ((with_reducible refine G2 3 rfl ?_); refine BZ 3 #[.int .i64 a1_0, .int .i64 a1_1] 116 HB ?_; clear HB; intro gb313 w8 hg hb BK313 GW313 HB; have NB312_313 := NP BK312 hg; have NB313_312 := NQ BK312 hg; replace BK312 := BV BK312 hb; clear hb hg; have hnb9 := NB312_313.out; have hnc9 := NB313_312.out; obtain ⟨hcz10_0, hfz10_0⟩ := bk1 BK312.out; obtain ⟨hcz11_0, hcz11_1, hfz11_0, hfz11_1⟩ := bk2 BK313.out; have p314 : 0 ≤ (a1_0 : Int) := DT; have q314 : a1_0 < (l0_0.length : Int) := DT; have hx314_0 := HX0.out; have hl314_0 := HL0.out; have hi314_0 := HI0.out; replace hx314_0 := BD HB.out hx314_0; have HR314_0 := AM_ hi314_0; have HC314_0 := AM_ hl314_0; clear hi314_0 hl314_0; replace p314 := eq_true p314; replace q314 := eq_true q314) | ((with_reducible refine G1 133 rfl ?_); refine GC (some 16) Try.func133 #[.slice A314_0 (rd_L11 l0_0 a1_0).length c314_0, .int .i64 a1_1] ?_; (with_reducible refine MB (impl_FindVersion.calls k _ _ (rd_L11 l0_0 a1_0) a1_1 t315 _ (CC HR314_0 HB) HC314_0.out A5.out) ?_); intro w12 hb; replace BK312 := BV BK312 hb; replace BK313 := BV BK313 hb; replace HB := BW HB hb; (try clear hb)))
  go_ret
  exact QT (BT HB.out)
 rw [if_neg c6] at H
 have c6b0 := decide_eq_false c6
 clear c6
 replace H := HI H
 obtain ⟨c13, H⟩ := H
 have c13b0 := decide_eq_true c13
 clear c13
 replace H := HI H
 obtain ⟨c14, H⟩ := H
 have c14b0 := decide_eq_true c14
 clear c14
 obtain rfl := Option.some.inj H
 go_enter Try.func115, Try.ntmps115
 go_wp2_with (first | ((with_reducible refine G2 2 rfl ?_); refine BY 2 #[.slice (some ad314) l0_0.length c0_0] 34 HB ?_; clear HB; intro gb312 w15 BK312 GW312 HB) | ((with_reducible refine G2 3 rfl ?_); refine BZ 3 #[.int .i64 a1_0, .int .i64 a1_1] 116 HB ?_; clear HB; intro gb313 w16 hg hb BK313 GW313 HB; have NB312_313 := NP BK312 hg; have NB313_312 := NQ BK312 hg; replace BK312 := BV BK312 hb; clear hb hg; have hnb17 := NB312_313.out; have hnc17 := NB313_312.out; obtain ⟨hcz18_0, hfz18_0⟩ := bk1 BK312.out; obtain ⟨hcz19_0, hcz19_1, hfz19_0, hfz19_1⟩ := bk2 BK313.out; have p314 : 0 ≤ (a1_0 : Int) := DT; have q314 : a1_0 < (l0_0.length : Int) := DT; have hx314_0 := HX0.out; have hl314_0 := HL0.out; have hi314_0 := HI0.out; replace hx314_0 := BD HB.out hx314_0; have HR314_0 := AM_ hi314_0; have HC314_0 := AM_ hl314_0; clear hi314_0 hl314_0; replace p314 := eq_true p314; replace q314 := eq_true q314) | ((with_reducible refine G1 133 rfl ?_); refine GC (some 16) Try.func133 #[.slice A314_0 (rd_L11 l0_0 a1_0).length c314_0, .int .i64 a1_1] ?_; (with_reducible refine MB (impl_FindVersion.calls k _ _ (rd_L11 l0_0 a1_0) a1_1 t315 _ (CC HR314_0 HB) HC314_0.out A5.out) ?_); intro w20 hb; replace BK312 := BV BK312 hb; replace BK313 := BV BK313 hb; replace HB := BW HB hb; (try clear hb); have p316 : 0 ≤ (t315 : Int) := DT; have q316 : t315 < ((rd_L11 l0_0 a1_0).length : Int) := DT; obtain ⟨ad316, e316, hx316_0, hx316_1, hx316_2, hx316_3, hx316_4⟩ := at_T52 HR314_0.out t315 p316 q316; cases e316; replace hx316_0 := BD HB.out hx316_0; replace hx316_1 := BD HB.out hx316_1; replace hx316_2 := BD HB.out hx316_2; replace hx316_3 := BD HB.out hx316_3; replace hx316_4 := BD HB.out hx316_4; replace p316 := eq_true p316; replace q316 := eq_true q316))
 go_ret
 exact ⟨by first | (unfold impl_Store_find.PT; rw [if_neg (of_decide_eq_false c6b0)]; rfl) | rfl | (simp [errW_none, errW_some] <;> rfl) | (simp [*, errW_none, errW_some] <;> rfl), BT HB.out⟩


/-! ### impl_Store_readsExist_1: function 114 -/
def impl_Store_readsExist_1.f (k : Nat) (a0_0 : Int) (a0_1 : Int) (l1_0 : List (List (S52))) : Option (Bool) := (impl_Store_find.f k l1_0 a0_0 a0_1).bind fun t394 => (some (decide (t394 < 0)))
theorem impl_Store_readsExist_1.mono : ∀ a0 a1 a2 k, LeO (impl_Store_readsExist_1.f k a0 a1 a2) (impl_Store_readsExist_1.f (k + 1) a0 a1 a2) := by
 intro a0 a1 a2 k
 unfold impl_Store_readsExist_1.f
 repeat' (with_reducible first | exact impl_Store_find.mono .. | exact LeO.refl _ | exact LeO.none _ | refine LeO.ite ?_ ?_ | refine LeO.bind ?_ (fun _ => ?_))
theorem impl_Store_readsExist_1.calls (k : Nat) (a0_0 : Int) (a0_1 : Int) (gb1 : Nat) (A1_0 : Option Addr) (c1_0 : Nat) (l1_0 : List (List (S52))) (r : Bool) (w : World) (hb1 : w.heap[gb1]? = some (.cells #[.slice A1_0 l1_0.length c1_0] 34 (0, 0))) (hr1_0 : Kd.C (Kd.slice 52 k52) w A1_0 l1_0.length l1_0) (hc1_0 : l1_0.length ≤ c1_0) (h : impl_Store_readsExist_1.f k a0_0 a0_1 l1_0 = some r) :
  Calls Try.prog 114 #[.agg #[.int .i64 a0_0, .int .i64 a0_1], .pointer (some ⟨gb1, 0, none⟩)] w fun e w' => e = .returned (.bool r) ∧ Below w.heap.size w w' := by
 have hu116 := Try.underlying116
 have hu34 := Try.underlying34
 have BK1 := AM_ hb1
 clear hb1
 have HR1_0 := AM_ hr1_0
 have HC1_0 := AM_ hc1_0
 clear hr1_0 hc1_0
 have HB := AM_ (Below.refl w.heap.size w)
 unfold impl_Store_readsExist_1.f at h
 have H := h
 clear h
 replace H := Option.bind_eq_some_iff.mp H
 obtain ⟨t394, A30, H⟩ := H
 replace H : (some (decide (t394 < 0))) = some r := H
 have A3 := AM_ A30
 obtain rfl := Option.some.inj H
 obtain ⟨_, _, ad9, A9, c9, e9, hx9, hl9, hi9, hr9⟩ := impl_Store_find_at HR1_0.out A30
 subst e9
 have HX9 := AM_ hx9
 have HI9 := AM_ hi9
 have HL9 := AM_ hl9
 have hcase : (impl_Store_find.PT A9 t394 = none ∧ decide (t394 < 0) = true) ∨ ∃ q9, impl_Store_find.PT A9 t394 = some q9 ∧ decide (t394 < 0) = false := by
  by_cases ht : t394 < 0
  ·exact .inl ⟨by unfold impl_Store_find.PT; rw [if_pos ht], decide_eq_true ht⟩
  obtain ⟨_, adI, eI, _⟩ := hr9 (by omega)
  exact .inr ⟨_, by unfold impl_Store_find.PT; rw [if_neg ht, eI]; rfl, decide_eq_false ht⟩
 clear A30 hx9 hl9 hi9 hr9
 have key : ∀ (p9 : Option Addr) (b9 : Bool), impl_Store_find.PT A9 t394 = p9 → ((p9 = none ∧ b9 = true) ∨ ∃ q9, p9 = some q9 ∧ b9 = false) → Calls Try.prog 114 #[.agg #[.int .i64 a0_0, .int .i64 a0_1], .pointer (some ⟨gb1, 0, none⟩)] w fun e w' => e = .returned (.bool b9) ∧ Below w.heap.size w w' := by
  intro p9 b9 hp9 hc9
  have HP9 := AM_ hp9
  clear hp9 hcase
  rcases hc9 with ⟨rfl, rfl⟩ | ⟨q9, rfl, rfl⟩
  all_goals
   go_enter Try.func114, Try.ntmps114
   go_wp2_with (first | ((with_reducible refine G2 2 rfl ?_); refine BZ 2 #[.int .i64 a0_0, .int .i64 a0_1] 116 HB ?_; clear HB; intro gb393 w4 hg hb BK393 GW393 HB; have NB1_393 := NP BK1 hg; have NB393_1 := NQ BK1 hg; replace BK1 := BV BK1 hb; clear hb hg; have hnb5 := NB1_393.out; have hnc5 := NB393_1.out; obtain ⟨hcz6_0, hfz6_0⟩ := bk1 BK1.out; obtain ⟨hcz7_0, hcz7_1, hfz7_0, hfz7_1⟩ := bk2 BK393.out) | ((with_reducible refine G1 115 rfl ?_); refine GC (some 6) Try.func115 #[.agg #[.slice (some ad9) l1_0.length c1_0], .agg #[.int .i64 a0_0, .int .i64 a0_1]] ?_; (with_reducible refine (impl_Store_find.calls k ad9 _ l1_0 A9 c9 a0_0 a0_1 t394 _ ?side1 ?side2 HL9.out A3.out).mono ?_); (case side1 => exact (HB.out.cell (World.block_lt_of_cell? w _ HX9.out)).trans HX9.out); (case side2 => exact Kd.C_below HI9.out HB.out); rintro e w8 ⟨rfl, hb⟩; rw [HP9.out]; refine ⟨_, rfl, ?_⟩; replace BK1 := BV BK1 hb; replace BK393 := BV BK393 hb; replace HB := BW HB hb; (try clear hb)))
   go_ret
   exact QT (BT HB.out)
 rcases hcase with ⟨h1, h2⟩ | ⟨q9, h1, h2⟩
 ·rw [h2]; exact key none true h1 (.inl ⟨rfl, rfl⟩)
 ·rw [h2]; exact key (some q9) false h1 (.inr ⟨q9, rfl, rfl⟩)

/-! ### impl_ReadMark_132: function 132 -/
def impl_ReadMark_132.l0 : Nat → List (S116) → Int → Int → List (List (S52)) → Option (Int)
 | 0, _, _, _, _ => none
 | k + 1, x0, x7, x8, x31000 => if x8 < x7 then (if 0 ≤ x8 then (if x8 < (x0.length : Int) then ((impl_Store_readsExist_1.f k ((rd_T116 x0 x8).f0) ((rd_T116 x0 x8).f1) x31000).bind fun t394 => (if t394 = true then (some x8) else (impl_ReadMark_132.l0 k x0 x7 (wrap64 (x8 + 1)) x31000))) else (none)) else (none)) else (some (-1))
def impl_ReadMark_132.f (k : Nat) (l0 : List (S116)) (l1_0_0 : List (List (S52))) : Option (Int) := impl_ReadMark_132.l0 k l0 (l0.length : Int) 0 l1_0_0
theorem impl_ReadMark_132.mono_l : ∀ k, (∀ y0 y1 y2 y3, LeO (impl_ReadMark_132.l0 k y0 y1 y2 y3) (impl_ReadMark_132.l0 (k + 1) y0 y1 y2 y3))
 | 0 => fun _ _ _ _ r h => by simp [impl_ReadMark_132.l0] at h
 | k + 1 => by
  have ih0 := impl_ReadMark_132.mono_l k
  all_goals intros; unfold impl_ReadMark_132.l0
  all_goals repeat' (with_reducible first | exact ih0 .. | exact impl_Store_readsExist_1.mono .. | exact LeO.refl _ | exact LeO.none _ | refine LeO.ite ?_ ?_ | refine LeO.bind ?_ (fun _ => ?_))
theorem impl_ReadMark_132.mono : ∀ a0 a1 k, LeO (impl_ReadMark_132.f k a0 a1) (impl_ReadMark_132.f (k + 1) a0 a1) := by
 intro a0 a1 k
 have ih0 := impl_ReadMark_132.mono_l k
 unfold impl_ReadMark_132.f
 repeat' (with_reducible first | exact ih0 .. | exact impl_Store_readsExist_1.mono .. | exact LeO.refl _ | exact LeO.none _ | refine LeO.ite ?_ ?_ | refine LeO.bind ?_ (fun _ => ?_))
theorem impl_ReadMark_132.calls (k : Nat) (A0 : Option Addr) (c0 : Nat) (l0 : List (S116)) (gb30 : Nat) (A1_0_0 : Option Addr) (c1_0_0 : Nat) (l1_0_0 : List (List (S52))) (r : Int) (w : World) (hr0 : Kd.C k116 w A0 l0.length l0) (hc0 : l0.length ≤ c0) (hb30 : w.heap[gb30]? = some (.cells #[.slice A1_0_0 l1_0_0.length c1_0_0] 34 (0, 0))) (hr1_0_0 : Kd.C (Kd.slice 52 k52) w A1_0_0 l1_0_0.length l1_0_0) (hc1_0_0 : l1_0_0.length ≤ c1_0_0) (h : impl_ReadMark_132.f k l0 l1_0_0 = some r) :
  Calls Try.prog 132 #[.slice A0 l0.length c0, .func (.func 114) #[] #[.pointer (some ⟨gb30, 0, none⟩)]] w fun e w' => e = .returned (.int .i64 r) ∧ Below w.heap.size w w' := by
 have hu116 := Try.underlying116
 have BK30 := AM_ hb30
 clear hb30
 have HR0 := AM_ hr0
 have HC0 := AM_ hc0
 clear hr0 hc0
 have HR1_0_0 := AM_ hr1_0_0
 have HC1_0_0 := AM_ hc1_0_0
 clear hr1_0_0 hc1_0_0
 have HB := AM_ (Below.refl w.heap.size w)
 unfold impl_ReadMark_132.f at h
 have H := h
 clear h
 have H' := AM_ H
 clear H
 go_enter Try.func132, Try.ntmps132
 go_wp2
 go_loopg [8] k (fun kq v8 w' => ∃ (x8_1 : Int), v8 = .int .i64 x8_1 ∧ Aside0 (impl_ReadMark_132.l0 kq l0 (l0.length : Int) x8_1 l1_0_0 = some r) ∧ Aside0 (kq ≤ k) ∧ Aside0 (w'.heap[gb30]? = some (.cells #[(.slice A1_0_0 l1_0_0.length c1_0_0)] 34 (0, 0))) ∧ Aside0 (Below w.heap.size w w'))
 case atStart => exact ⟨(0), (by first | rfl | (simp; done) | (simp [*]; done)), H', ⟨Nat.le_refl _⟩, ⟨BH BK30.out⟩, ⟨BT HB.out⟩⟩
 case round =>
  clear H'
  obtain ⟨x8_1, rfl, HA, HK1, BK30, HB⟩ := hrel
  cases gk with
  | zero => exact absurd HA.out (by simp [impl_ReadMark_132.l0])
  | succ k1 =>
   have H := HA.out
   clear HA
   simp only [impl_ReadMark_132.l0] at H
   by_cases c3 : x8_1 < (l0.length : Int)
   rotate_left
   ·rw [if_neg c3] at H
    have c3b0 := decide_eq_false c3
    clear c3
    obtain rfl := Option.some.inj H
    go_wp2
    go_ret
    exact QT (BT HB.out)
   rw [if_pos c3] at H
   have c3b0 := decide_eq_true c3
   clear c3
   replace H := HI H
   obtain ⟨c4, H⟩ := H
   have c4b0 := decide_eq_true c4
   clear c4
   replace H := HI H
   obtain ⟨c5, H⟩ := H
   have c5b0 := decide_eq_true c5
   clear c5
   obtain ⟨t394, A6, H⟩ := OB H
   by_cases c7 : t394 = true
   ·subst c7
    replace H := HT H
    obtain rfl := Option.some.inj H
    have p393 : 0 ≤ (x8_1 : Int) := DT
    have q393 : x8_1 < (l0.length : Int) := DT
    obtain ⟨ad393, e393, hx393_0, hx393_1⟩ := at_T116 HR0.out x8_1 p393 q393
    cases e393
    replace hx393_0 := BC HB.out hx393_0
    replace hx393_1 := BC HB.out hx393_1
    replace p393 := eq_true p393
    replace q393 := eq_true q393
    go_wp2_with (first | ((with_reducible refine G2 16 rfl ?_); refine goesF_ (some 16) rfl rfl Try.func114 (by kernel_rfl) rfl (lb := #[.pointer (some ⟨gb30, 0, none⟩)]) #[.agg #[.int .i64 ((rd_T116 l0 x8_1).f0), .int .i64 ((rd_T116 l0 x8_1).f1)], .pointer (some ⟨gb30, 0, none⟩)] rfl rfl (by (try simp only [List.map_toArray, List.map_cons, List.map_nil]); first | done | rfl) ?_; (with_reducible refine (impl_Store_readsExist_1.calls k1 ((rd_T116 l0 x8_1).f0) ((rd_T116 l0 x8_1).f1) gb30 A1_0_0 c1_0_0 l1_0_0 true _ ?side1 ?side2 ?side3 A6.out).mono ?_); (case side1 => exact by (with_reducible repeat (first | refine blk_drewN ?_ _ | refine blk_drew ?_ | refine blk_alloc ?_ _)); exact BK30.out); (case side2 => exact CB HR1_0_0.out HB.out); (case side3 => exact HC1_0_0.out); rintro e w8 ⟨rfl, hb⟩; refine ⟨_, rfl, ?_⟩; replace BK30 := BV BK30 hb; replace HB := BW HB hb; (try clear hb)))
    go_ret
    exact QT (BT HB.out)
   replace c7 := Bool.eq_false_iff.mpr c7
   subst c7
   replace H := HF H
   have H' := AM_ H
   clear H
   have p393 : 0 ≤ (x8_1 : Int) := DT
   have q393 : x8_1 < (l0.length : Int) := DT
   obtain ⟨ad393, e393, hx393_0, hx393_1⟩ := at_T116 HR0.out x8_1 p393 q393
   cases e393
   replace hx393_0 := BC HB.out hx393_0
   replace hx393_1 := BC HB.out hx393_1
   replace p393 := eq_true p393
   replace q393 := eq_true q393
   go_wp2_with (first | ((with_reducible refine G2 16 rfl ?_); refine goesF_ (some 16) rfl rfl Try.func114 (by kernel_rfl) rfl (lb := #[.pointer (some ⟨gb30, 0, none⟩)]) #[.agg #[.int .i64 ((rd_T116 l0 x8_1).f0), .int .i64 ((rd_T116 l0 x8_1).f1)], .pointer (some ⟨gb30, 0, none⟩)] rfl rfl (by (try simp only [List.map_toArray, List.map_cons, List.map_nil]); first | done | rfl) ?_; (with_reducible refine (impl_Store_readsExist_1.calls k1 ((rd_T116 l0 x8_1).f0) ((rd_T116 l0 x8_1).f1) gb30 A1_0_0 c1_0_0 l1_0_0 false _ ?side1 ?side2 ?side3 A6.out).mono ?_); (case side1 => exact by (with_reducible repeat (first | refine blk_drewN ?_ _ | refine blk_drew ?_ | refine blk_alloc ?_ _)); exact BK30.out); (case side2 => exact CB HR1_0_0.out HB.out); (case side3 => exact HC1_0_0.out); rintro e w9 ⟨rfl, hb⟩; refine ⟨_, rfl, ?_⟩; replace BK30 := BV BK30 hb; replace HB := BW HB hb; (try clear hb)))
   go_roundg k1
   case measure => have := HK1.out; omega
   case rel => exact ⟨(wrap64 (x8_1 + 1)), (by first | rfl | (simp; done) | (simp [*]; done)), H', ⟨by have := HK1.out; omega⟩, ⟨BH BK30.out⟩, ⟨BT HB.out⟩⟩

/-! ### impl_ReadMark_113: function 113 -/
def impl_ReadMark_113.f (k : Nat) (l0 : List (S116)) (l1_0_0 : List (List (S52))) : Option (Bool) := (impl_ReadMark_132.f k l0 l1_0_0).bind fun t395 => (some (decide (t395 ≥ 0)))
theorem impl_ReadMark_113.mono : ∀ a0 a1 k, LeO (impl_ReadMark_113.f k a0 a1) (impl_ReadMark_113.f (k + 1) a0 a1) := by
 intro a0 a1 k
 unfold impl_ReadMark_113.f
 repeat' (with_reducible first | exact impl_ReadMark_132.mono .. | exact LeO.refl _ | exact LeO.none _ | refine LeO.ite ?_ ?_ | refine LeO.bind ?_ (fun _ => ?_))
theorem impl_ReadMark_113.calls (k : Nat) (A0 : Option Addr) (c0 : Nat) (l0 : List (S116)) (gb30 : Nat) (A1_0_0 : Option Addr) (c1_0_0 : Nat) (l1_0_0 : List (List (S52))) (r : Bool) (w : World) (hr0 : Kd.C k116 w A0 l0.length l0) (hc0 : l0.length ≤ c0) (hb30 : w.heap[gb30]? = some (.cells #[.slice A1_0_0 l1_0_0.length c1_0_0] 34 (0, 0))) (hr1_0_0 : Kd.C (Kd.slice 52 k52) w A1_0_0 l1_0_0.length l1_0_0) (hc1_0_0 : l1_0_0.length ≤ c1_0_0) (h : impl_ReadMark_113.f k l0 l1_0_0 = some r) :
  Calls Try.prog 113 #[.slice A0 l0.length c0, .func (.func 114) #[] #[.pointer (some ⟨gb30, 0, none⟩)]] w fun e w' => e = .returned (.bool r) ∧ Below w.heap.size w w' := by
 have BK30 := AM_ hb30
 clear hb30
 have HR0 := AM_ hr0
 have HC0 := AM_ hc0
 clear hr0 hc0
 have HR1_0_0 := AM_ hr1_0_0
 have HC1_0_0 := AM_ hc1_0_0
 clear hr1_0_0 hc1_0_0
 have HB := AM_ (Below.refl w.heap.size w)
 unfold impl_ReadMark_113.f at h
 have H := h
 clear h
 obtain ⟨t395, A3, H⟩ := OB H
 obtain rfl := Option.some.inj H
 go_enter Try.func113, Try.ntmps113
 go_wp2_with (first | ((with_reducible refine G1 132 rfl ?_); refine GC (some 7) Try.func132 #[.slice A0 l0.length c0, .func (.func 114) #[] #[.pointer (some ⟨gb30, 0, none⟩)]] ?_; (with_reducible refine (impl_ReadMark_132.calls k _ _ l0 gb30 A1_0_0 c1_0_0 l1_0_0 t395 _ ?side1 ?side2 ?side3 ?side4 ?side5 A3.out).mono ?_); (case side1 => repeat (first | exact HR0.out | (with_reducible refine Kd.C_alloc ?_ _) | (with_reducible refine Kd.C_drewN ?_ _) | (with_reducible refine Kd.C_drew ?_))); (case side2 => exact HC0.out); (case side3 => exact by (with_reducible repeat (first | refine blk_drewN ?_ _ | refine blk_drew ?_ | refine blk_alloc ?_ _)); exact BK30.out); (case side4 => repeat (first | exact HR1_0_0.out | (with_reducible refine Kd.C_alloc ?_ _) | (with_reducible refine Kd.C_drewN ?_ _) | (with_reducible refine Kd.C_drew ?_))); (case side5 => exact HC1_0_0.out); rintro e w4 ⟨rfl, hb⟩; refine ⟨_, rfl, ?_⟩; replace BK30 := BV BK30 hb; replace HB := BW HB hb; (try clear hb)))
 go_ret
 exact QT (BT HB.out)

/-! ### impl_Store_readsExist: function 79 -/
def impl_Store_readsExist.f (k : Nat) (l0_0 : List (List (S52))) (l1 : List (S116)) : Option (Bool) := (impl_ReadMark_113.f k l1 l0_0).bind fun t397 => (some (!t397))
theorem impl_Store_readsExist.mono : ∀ a0 a1 k, LeO (impl_Store_readsExist.f k a0 a1) (impl_Store_readsExist.f (k + 1) a0 a1) := by
 intro a0 a1 k
 unfold impl_Store_readsExist.f
 repeat' (with_reducible first | exact impl_ReadMark_113.mono .. | exact LeO.refl _ | exact LeO.none _ | refine LeO.ite ?_ ?_ | refine LeO.bind ?_ (fun _ => ?_))
theorem impl_Store_readsExist.calls (k : Nat) (A0_0 : Option Addr) (c0_0 : Nat) (l0_0 : List (List (S52))) (A1 : Option Addr) (c1 : Nat) (l1 : List (S116)) (r : Bool) (w : World) (hr0_0 : Kd.C (Kd.slice 52 k52) w A0_0 l0_0.length l0_0) (hc0_0 : l0_0.length ≤ c0_0) (hr1 : Kd.C k116 w A1 l1.length l1) (hc1 : l1.length ≤ c1) (h : impl_Store_readsExist.f k l0_0 l1 = some r) :
  Calls Try.prog 79 #[.agg #[.slice A0_0 l0_0.length c0_0], .slice A1 l1.length c1] w fun e w' => e = .returned (.bool r) ∧ Below w.heap.size w w' := by
 have hu34 := Try.underlying34
 have HR0_0 := AM_ hr0_0
 have HC0_0 := AM_ hc0_0
 clear hr0_0 hc0_0
 have HR1 := AM_ hr1
 have HC1 := AM_ hc1
 clear hr1 hc1
 have HB := AM_ (Below.refl w.heap.size w)
 unfold impl_Store_readsExist.f at h
 have H := h
 clear h
 obtain ⟨t397, A3, H⟩ := OB H
 obtain rfl := Option.some.inj H
 go_enter Try.func79, Try.ntmps79
 go_wp2_with (first | ((with_reducible refine G2 2 rfl ?_); refine BY 2 #[.slice A0_0 l0_0.length c0_0] 34 HB ?_; clear HB; intro gb396 w4 BK396 GW396 HB) | ((with_reducible refine G1 113 rfl ?_); refine GC (some 7) Try.func113 #[.slice A1 l1.length c1, .func (.func 114) #[] #[.pointer (some ⟨gb396, 0, none⟩)]] ?_; (with_reducible refine (impl_ReadMark_113.calls k _ _ l1 gb396 A0_0 c0_0 l0_0 t397 _ ?side1 ?side2 ?side3 ?side4 ?side5 A3.out).mono ?_); (case side1 => exact CB HR1.out HB.out); (case side2 => exact HC1.out); (case side3 => exact by (with_reducible repeat (first | refine blk_drewN ?_ _ | refine blk_drew ?_ | refine blk_alloc ?_ _)); exact BK396.out); (case side4 => exact CB HR0_0.out HB.out); (case side5 => exact HC0_0.out); rintro e w5 ⟨rfl, hb⟩; refine ⟨_, rfl, ?_⟩; replace BK396 := BV BK396 hb; replace HB := BW HB hb; (try clear hb)))
 go_ret
 exact QT (BT HB.out)

end Go.Proofs.Ytdgknikgfjhohaa.PFnExactIsValidEngine
