-- Printed by a program of mine (wip/myprint.py), which runs the printer of the kit with contracts of mine beside it.
import Derived.Test.YtgpmfkmdchcagaaDoorPFnExactFormatHistoryx0
namespace Go.Proofs.YtgpmfkmdchcagaaDoor.PFnExactFormatHistory
open Go.RowKit Go.Proofs.YtgpmfkmdchcagaaDoorW.PrintWords Go.Proofs.YtgpmfkmdchcagaaDoorW.PrintLast Go.Proofs.YtgpmfkmdchcagaaDoorW.PrintMore
attribute [local go_sem] max2_int min2_int max_two min_two max_three min_three max_four min_four   -- for this text's walks alone
set_option linter.unusedVariables false
set_option linter.unusedSimpArgs false

/-! ### spec_l18Tx: function 43 -/
def spec_l18Tx.f (a0_0 : Int) (a0_1 : Int) (l0_2 : List (S55)) (l0_3 : List (S57)) : Option (Int × Int × Int × Int × Int × Int × Int) := some (a0_0, 1, 2, 0, 0, 1000, a0_1)
set_option maxHeartbeats 8000000 in
set_option maxRecDepth 100000 in
theorem spec_l18Tx.calls (a0_0 : Int) (a0_1 : Int) (A0_2 : Option Addr) (c0_2 : Nat) (l0_2 : List (S55)) (A0_3 : Option Addr) (c0_3 : Nat) (l0_3 : List (S57)) (r1 : Int) (r2 : Int) (r3 : Int) (r4 : Int) (r5 : Int) (r6 : Int) (r7 : Int) (w : World) (hr0_2 : Kd.C k55 w A0_2 l0_2.length l0_2) (hc0_2 : l0_2.length ≤ c0_2) (hr0_3 : Kd.C k57 w A0_3 l0_3.length l0_3) (hc0_3 : l0_3.length ≤ c0_3) (h : spec_l18Tx.f a0_0 a0_1 l0_2 l0_3 = some (r1, r2, r3, r4, r5, r6, r7)) :
  Calls Tryd.prog 43 #[.agg #[.int .i64 a0_0, .int .i64 a0_1, .slice A0_2 l0_2.length c0_2, .slice A0_3 l0_3.length c0_3]] w fun e w' => e = .returned (.agg #[.int .i64 r1, .int .i64 r2, .int .i64 r3, .int .i64 r4, .int .i64 r5, .int .i64 r6, .int .i64 r7, .slice A0_2 l0_2.length c0_2, .slice A0_3 l0_3.length c0_3]) ∧ Below w.heap.size w w' := by
 obtain ⟨P0_, _⟩ : ∃ P : Nat → Prop, P = P := ⟨fun _ => False, rfl⟩
 have hu53 := Tryd.underlying53
 have hu73 := Tryd.underlying73
 have HO0_2 := AM_ (show Kd.R k55 55 w w.heap.size (fun k_ => ((P0_ k_ ∨ P0_ k_) ∨ w.heap.size ≤ k_)) (.slice none 0 0) [] from Kd.R_nil _ _ _ _ _)
 have HO0_3 := AM_ (show Kd.R k57 57 w w.heap.size (fun k_ => ((P0_ k_ ∨ P0_ k_) ∨ w.heap.size ≤ k_)) (.slice none 0 0) [] from Kd.R_nil _ _ _ _ _)
 have HK := AM_ (Kept.refl w (fun k_ => P0_ k_ ∨ P0_ k_))
 have HB := AM_ (Below.refl w.heap.size w)
 have H := h
 clear h
 simp only [spec_l18Tx.f, Option.some.injEq, Prod.mk.injEq] at H
 obtain ⟨rfl, rfl, rfl, rfl, rfl, rfl, rfl⟩ := H
 go_enter Tryd.func43, Tryd.ntmps43
 go_wp2_with (first | ((with_reducible refine gate_dst (N := 1) rfl ?_); refine box_event ?hg (N := 1) ?hd (cs := #[.int .i64 a0_0, .int .i64 a0_1, .slice A0_2 l0_2.length c0_2, .slice A0_3 l0_3.length c0_3]) (t := 53) ?hr ?_; (case hd => rfl); (case hg => rfl); (case hr => first | (go_simp; done) | (go_simp; rfl)); intro gb127 hg w4 hbox hb; replace HO0_2 := AM_ (Kd.R_below (RT HO0_2.out) hb); replace HO0_3 := AM_ (Kd.R_below (RT HO0_3.out) hb); have BK127 := AM_ (hbox); have GW127 := AM_ ((by rw [hg]; exact (by first | exact HK.out.1 | exact (show Kept w _ (fun k_ => P0_ k_ ∨ P0_ k_) from by repeat (first | (with_reducible first | exact HK.out | apply Kept.alloc | apply Kept.drewN | apply Kept.drew) | exact HK.out)).1) : w.heap.size ≤ gb127)); replace HK := AM_ (Kept.below (S := (fun k_ => P0_ k_ ∨ P0_ k_)) (by repeat (first | (with_reducible first | exact HK.out | apply Kept.alloc | apply Kept.drewN | apply Kept.drew) | exact HK.out)) hb); have GE127 := AM_ ((GS HB.out hg)); replace HB := AM_ (below_step (BT HB.out) hb); clear hb hbox hg) | ((with_reducible refine gate_dst (N := 2) rfl ?_); refine box_event ?hg (N := 2) ?hd (cs := #[.int .i64 0, .int .i64 0, .int .i64 0, .int .i64 0, .int .i64 0, .int .i64 0, .int .i64 0, .slice none 0 0, .slice none 0 0]) (t := 73) ?hr ?_; (case hd => rfl); (case hg => rfl); (case hr => first | (go_simp; done) | (go_simp; rfl)); intro gb128 hg w5 hbox hb; replace HO0_2 := AM_ (Kd.R_below (RT HO0_2.out) hb); replace HO0_3 := AM_ (Kd.R_below (RT HO0_3.out) hb); have BK128 := AM_ (hbox); have GW128 := AM_ ((by rw [hg]; exact (by first | exact HK.out.1 | exact (show Kept w _ (fun k_ => P0_ k_ ∨ P0_ k_) from by repeat (first | (with_reducible first | exact HK.out | apply Kept.alloc | apply Kept.drewN | apply Kept.drew | refine Kept.setCell ?_ (.inr GW127.out) _) | exact HK.out)).1) : w.heap.size ≤ gb128)); replace HK := AM_ (Kept.below (S := (fun k_ => P0_ k_ ∨ P0_ k_)) (by repeat (first | (with_reducible first | exact HK.out | apply Kept.alloc | apply Kept.drewN | apply Kept.drew | refine Kept.setCell ?_ (.inr GW127.out) _) | exact HK.out)) hb); have GE128 := AM_ ((GS HB.out hg)); replace HB := AM_ (below_step (BT HB.out) hb); have NB127_128 := AM_ ((NL BK127.out hg)); have NB128_127 := AM_ ((NG BK127.out hg)); replace BK127 := AM_ (BB BK127.out hb); clear hb hbox hg; have hnb6 := NB127_128.out; have hnc6 := NB128_127.out; obtain ⟨hcz7_0, hcz7_1, hcz7_2, hcz7_3, hfz7_0, hfz7_1, hfz7_2, hfz7_3⟩ := bk4 BK127.out; obtain ⟨hcz8_0, hcz8_1, hcz8_2, hcz8_3, hcz8_4, hcz8_5, hcz8_6, hcz8_7, hcz8_8, hfz8_0, hfz8_1, hfz8_2, hfz8_3, hfz8_4, hfz8_5, hfz8_6, hfz8_7, hfz8_8⟩ := bk9 BK128.out))
 refine bodyPost_ret (results_cell_row rfl _ _ gb128 73 #[.int .i64 a0_0, .int .i64 1, .int .i64 2, .int .i64 0, .int .i64 0, .int .i64 1000, .int .i64 a0_1, .slice A0_2 l0_2.length c0_2, .slice A0_3 l0_3.length c0_3] (0, 0) _ rfl (by (with_reducible repeat (first | refine blk_drewN ?_ _ | refine blk_drew ?_ | refine blk_alloc ?_ _)); refine blk_put (cs := #[.int .i64 a0_0, .int .i64 1, .int .i64 2, .int .i64 0, .int .i64 0, .int .i64 1000, .int .i64 a0_1, .slice A0_2 l0_2.length c0_2, .slice none 0 0]) ?_ 8 _ rfl; (with_reducible repeat (first | refine blk_drewN ?_ _ | refine blk_drew ?_ | refine blk_alloc ?_ _)); refine blk_put (cs := #[.int .i64 a0_0, .int .i64 1, .int .i64 2, .int .i64 0, .int .i64 0, .int .i64 1000, .int .i64 a0_1, .slice none 0 0, .slice none 0 0]) ?_ 7 _ rfl; (with_reducible repeat (first | refine blk_drewN ?_ _ | refine blk_drew ?_ | refine blk_alloc ?_ _)); refine blk_put (cs := #[.int .i64 a0_0, .int .i64 1, .int .i64 2, .int .i64 0, .int .i64 0, .int .i64 1000, .int .i64 0, .slice none 0 0, .slice none 0 0]) ?_ 6 _ rfl; (with_reducible repeat (first | refine blk_drewN ?_ _ | refine blk_drew ?_ | refine blk_alloc ?_ _)); refine blk_put (cs := #[.int .i64 a0_0, .int .i64 1, .int .i64 2, .int .i64 0, .int .i64 0, .int .i64 0, .int .i64 0, .slice none 0 0, .slice none 0 0]) ?_ 5 _ rfl; (with_reducible repeat (first | refine blk_drewN ?_ _ | refine blk_drew ?_ | refine blk_alloc ?_ _)); refine blk_put (cs := #[.int .i64 a0_0, .int .i64 1, .int .i64 2, .int .i64 0, .int .i64 0, .int .i64 0, .int .i64 0, .slice none 0 0, .slice none 0 0]) ?_ 4 _ rfl; (with_reducible repeat (first | refine blk_drewN ?_ _ | refine blk_drew ?_ | refine blk_alloc ?_ _)); refine blk_put (cs := #[.int .i64 a0_0, .int .i64 1, .int .i64 2, .int .i64 0, .int .i64 0, .int .i64 0, .int .i64 0, .slice none 0 0, .slice none 0 0]) ?_ 3 _ rfl; (with_reducible repeat (first | refine blk_drewN ?_ _ | refine blk_drew ?_ | refine blk_alloc ?_ _)); refine blk_put (cs := #[.int .i64 a0_0, .int .i64 1, .int .i64 0, .int .i64 0, .int .i64 0, .int .i64 0, .int .i64 0, .slice none 0 0, .slice none 0 0]) ?_ 2 _ rfl; (with_reducible repeat (first | refine blk_drewN ?_ _ | refine blk_drew ?_ | refine blk_alloc ?_ _)); refine blk_put (cs := #[.int .i64 a0_0, .int .i64 0, .int .i64 0, .int .i64 0, .int .i64 0, .int .i64 0, .int .i64 0, .slice none 0 0, .slice none 0 0]) ?_ 1 _ rfl; (with_reducible repeat (first | refine blk_drewN ?_ _ | refine blk_drew ?_ | refine blk_alloc ?_ _)); refine blk_put (cs := #[.int .i64 0, .int .i64 0, .int .i64 0, .int .i64 0, .int .i64 0, .int .i64 0, .int .i64 0, .slice none 0 0, .slice none 0 0]) ?_ 0 _ rfl; (with_reducible repeat (first | refine blk_drewN ?_ _ | refine blk_drew ?_ | refine blk_alloc ?_ _)); exact BK128.out) Tryd.underlying73 rfl (by kernel_rfl)) rfl ?_
 exact ⟨by first | rfl | (simp; done), BT HB.out⟩

/-! ### spec_FindEntry: function 44 -/
def spec_FindEntry.l0 : Nat → List (S53) → Int → Int → Option (Int)
 | 0, _, _, _ => none
 | k + 1, x0, x1, x5 => if x5 < (x0.length : Int) then (if 0 ≤ x5 then (if ((rd_T53 x0 x5).f0) = x1 then (some x5) else (spec_FindEntry.l0 k x0 x1 (wrap64 (x5 + 1)))) else (none)) else (some (-1))
def spec_FindEntry.f (k : Nat) (l0 : List (S53)) (a1 : Int) : Option (Int) := spec_FindEntry.l0 k l0 a1 0
theorem spec_FindEntry.mono_l : ∀ k, (∀ y0 y1 y2, LeO (spec_FindEntry.l0 k y0 y1 y2) (spec_FindEntry.l0 (k + 1) y0 y1 y2))
 | 0 => fun _ _ _ r h => by simp [spec_FindEntry.l0] at h
 | k + 1 => by
  have ih0 := spec_FindEntry.mono_l k
  ·intro y0 y1 y2
   unfold spec_FindEntry.l0
   repeat' first
   | (with_reducible exact ih0 _ _ _)
   | (with_reducible exact LeO.refl _)
   | (with_reducible exact LeO.none _)
   | (with_reducible refine LeO.ite ?_ ?_)
   | (with_reducible refine LeO.bind ?_ (fun _ => ?_))
   | exact ih0 _ _ _
   | exact LeO.none _
   | refine LeO.ite ?_ ?_
   | refine LeO.bind ?_ (fun _ => ?_)
theorem spec_FindEntry.mono : ∀ a0 a1 k, LeO (spec_FindEntry.f k a0 a1) (spec_FindEntry.f (k + 1) a0 a1) := by
 intro a0 a1 k
 have ih0 := spec_FindEntry.mono_l k
 unfold spec_FindEntry.f
 repeat' first
   | (with_reducible exact ih0 _ _ _)
   | (with_reducible exact LeO.refl _)
   | (with_reducible exact LeO.none _)
   | (with_reducible refine LeO.ite ?_ ?_)
   | (with_reducible refine LeO.bind ?_ (fun _ => ?_))
   | exact ih0 _ _ _
   | exact LeO.none _
   | refine LeO.ite ?_ ?_
   | refine LeO.bind ?_ (fun _ => ?_)
set_option maxHeartbeats 8000000 in
set_option maxRecDepth 100000 in
theorem spec_FindEntry.calls (k : Nat) (A0 : Option Addr) (c0 : Nat) (l0 : List (S53)) (a1 : Int) (r : Int) (w : World) (hr0 : Kd.C k53 w A0 l0.length l0) (hc0 : l0.length ≤ c0) (h : spec_FindEntry.f k l0 a1 = some r) :
  Calls Tryd.prog 44 #[.slice A0 l0.length c0, .int .i64 a1] w fun e w' => e = .returned (.int .i64 r) ∧ Drawn0 w w' := by
 have HR0 := AM_ hr0
 have HC0 := AM_ hc0
 clear hr0 hc0
 have H : (spec_FindEntry.l0 k l0 a1 0) = some r := h
 clear h
 have H' := AM_ H
 clear H
 go_enter Tryd.func44, Tryd.ntmps44
 go_wp2
 go_loopg [5] k (fun kq v5 w' => ∃ (x5_1 : Int), v5 = .int .i64 x5_1 ∧ Aside0 (spec_FindEntry.l0 kq l0 a1 x5_1 = some r) ∧ Aside0 (kq ≤ k) ∧ Drawn0 w w')
 case atStart => exact ⟨(0), (by first | rfl | (simp; done) | (simp [*]; done)), H', ⟨Nat.le_refl _⟩, by repeat (first | exact Drawn0.refl _ | apply Drawn0.step)⟩
 case round =>
  clear H'
  try clear p2
  obtain ⟨x5_1, rfl, HA, HK1, ⟨m1, rfl⟩⟩ := hrel
  cases gk with
  | zero => exact absurd HA.out (by simp [spec_FindEntry.l0])
  | succ k1 =>
   have H := HA.out
   clear HA
   simp only [spec_FindEntry.l0] at H
   by_cases c3 : x5_1 < (l0.length : Int)
   rotate_left
   ·rw [if_neg c3] at H
    have c3b0 : decide (x5_1 < (l0.length : Int)) = false := decide_eq_false c3
    clear c3
    obtain rfl := Option.some.inj H
    go_wp2
    go_ret
    exact ⟨by first | rfl | (simp; done) | (simp [*]; done), by repeat (first | exact Drawn0.refl _ | apply Drawn0.step)⟩
   rw [if_pos c3] at H
   have c3b0 : decide (x5_1 < (l0.length : Int)) = true := decide_eq_true c3
   clear c3
   by_cases c4 : 0 ≤ x5_1
   rotate_left
   ·rw [if_neg c4] at H
    exact absurd H (by simp)
   rw [if_pos c4] at H
   have c4b0 : decide (0 ≤ x5_1) = true := decide_eq_true c4
   clear c4
   by_cases c5 : ((rd_T53 l0 x5_1).f0) = a1
   ·rw [if_pos c5] at H
    have c5b0 : (((rd_T53 l0 x5_1).f0) == a1) = true := beq_iff_eq.mpr c5
    have c5b1 : (((rd_T53 l0 x5_1).f0) != a1) = false := bne_eq_false_iff_eq.mpr c5
    clear c5
    obtain rfl := Option.some.inj H
    have p129 : 0 ≤ (x5_1 : Int) := DT
    have q129 : x5_1 < (l0.length : Int) := DT
    obtain ⟨ad129, A129_2, c129_2, A129_3, c129_3, e129, hx129_0, hx129_1, hx129_2, hx129_3, hl129_2, hi129_2, hl129_3, hi129_3⟩ := at_T53 HR0.out x5_1 p129 q129
    cases e129
    have HR129_2 := AM_ hi129_2
    have HC129_2 := AM_ hl129_2
    clear hi129_2 hl129_2
    have HR129_3 := AM_ hi129_3
    have HC129_3 := AM_ hl129_3
    clear hi129_3 hl129_3
    replace p129 := eq_true p129
    replace q129 := eq_true q129
    go_wp2
    go_ret
    exact ⟨by first | rfl | (simp; done) | (simp [*]; done), by repeat (first | exact Drawn0.refl _ | apply Drawn0.step)⟩
   rw [if_neg c5] at H
   have c5b0 : (((rd_T53 l0 x5_1).f0) == a1) = false := beq_eq_false_iff_ne.mpr c5
   have c5b1 : (((rd_T53 l0 x5_1).f0) != a1) = true := bne_iff_ne.mpr c5
   have H' := AM_ H
   clear H
   have p129 : 0 ≤ (x5_1 : Int) := DT
   have q129 : x5_1 < (l0.length : Int) := DT
   obtain ⟨ad129, A129_2, c129_2, A129_3, c129_3, e129, hx129_0, hx129_1, hx129_2, hx129_3, hl129_2, hi129_2, hl129_3, hi129_3⟩ := at_T53 HR0.out x5_1 p129 q129
   cases e129
   have HR129_2 := AM_ hi129_2
   have HC129_2 := AM_ hl129_2
   clear hi129_2 hl129_2
   have HR129_3 := AM_ hi129_3
   have HC129_3 := AM_ hl129_3
   clear hi129_3 hl129_3
   replace p129 := eq_true p129
   replace q129 := eq_true q129
   go_wp2
   go_roundg k1
   case measure => have := HK1.out; omega
   case rel => exact ⟨(wrap64 (x5_1 + 1)), (by first | rfl | (simp; done) | (simp [*]; done)), H', ⟨by have := HK1.out; omega⟩, by repeat (first | exact Drawn0.refl _ | apply Drawn0.step)⟩

/-! ### spec_WriterOf: function 45 -/
mutual
def spec_WriterOf.l0 : Nat → List (S53) → Int → Int → Int → Option (Int)
 | 0, _, _, _, _ => none
 | k + 1, x0, x5, x131000, x131001 => if x5 < (x0.length : Int) then (spec_WriterOf.l1 k x0 x5 0 x131000 x131001) else (some 0)
def spec_WriterOf.l1 : Nat → List (S53) → Int → Int → Int → Int → Option (Int)
 | 0, _, _, _, _, _ => none
 | k + 1, x0, x5, x6, x131000, x131001 => if 0 ≤ x5 then (if x5 < (x0.length : Int) then (if x6 < (((rd_T53 x0 x5).f3).length : Int) then (if ((rd_T53 x0 x5).f1) = x131001 then (if 0 ≤ x6 then (if ((rd_T57 ((rd_T53 x0 x5).f3) x6).f0) = x131000 then (some ((rd_T53 x0 x5).f0)) else (spec_WriterOf.l1 k x0 x5 (wrap64 (x6 + 1)) x131000 x131001)) else (none)) else (spec_WriterOf.l1 k x0 x5 (wrap64 (x6 + 1)) x131000 x131001)) else (spec_WriterOf.l0 k x0 (wrap64 (x5 + 1)) x131000 x131001)) else (none)) else (none)
end
def spec_WriterOf.f (k : Nat) (l0 : List (S53)) (a1_0 : Int) (a1_1 : Int) : Option (Int) := spec_WriterOf.l0 k l0 0 a1_0 a1_1
theorem spec_WriterOf.mono_l : ∀ k, (∀ y0 y1 y2 y3, LeO (spec_WriterOf.l0 k y0 y1 y2 y3) (spec_WriterOf.l0 (k + 1) y0 y1 y2 y3)) ∧ (∀ y0 y1 y2 y3 y4, LeO (spec_WriterOf.l1 k y0 y1 y2 y3 y4) (spec_WriterOf.l1 (k + 1) y0 y1 y2 y3 y4))
 | 0 => ⟨fun _ _ _ _ r h => by simp [spec_WriterOf.l0] at h, fun _ _ _ _ _ r h => by simp [spec_WriterOf.l1] at h⟩
 | k + 1 => by
  obtain ⟨ih0, ih1⟩ := spec_WriterOf.mono_l k
  refine ⟨?_, ?_⟩
  ·intro y0 y1 y2 y3
   unfold spec_WriterOf.l0
   repeat' first
   | (with_reducible exact ih0 _ _ _ _)
   | (with_reducible exact ih1 _ _ _ _ _)
   | (with_reducible exact LeO.refl _)
   | (with_reducible exact LeO.none _)
   | (with_reducible refine LeO.ite ?_ ?_)
   | (with_reducible refine LeO.bind ?_ (fun _ => ?_))
   | exact ih0 _ _ _ _
   | exact ih1 _ _ _ _ _
   | exact LeO.none _
   | refine LeO.ite ?_ ?_
   | refine LeO.bind ?_ (fun _ => ?_)
  ·intro y0 y1 y2 y3 y4
   unfold spec_WriterOf.l1
   repeat' first
   | (with_reducible exact ih0 _ _ _ _)
   | (with_reducible exact ih1 _ _ _ _ _)
   | (with_reducible exact LeO.refl _)
   | (with_reducible exact LeO.none _)
   | (with_reducible refine LeO.ite ?_ ?_)
   | (with_reducible refine LeO.bind ?_ (fun _ => ?_))
   | exact ih0 _ _ _ _
   | exact ih1 _ _ _ _ _
   | exact LeO.none _
   | refine LeO.ite ?_ ?_
   | refine LeO.bind ?_ (fun _ => ?_)
theorem spec_WriterOf.mono : ∀ a0 a1 a2 k, LeO (spec_WriterOf.f k a0 a1 a2) (spec_WriterOf.f (k + 1) a0 a1 a2) := by
 intro a0 a1 a2 k
 obtain ⟨ih0, ih1⟩ := spec_WriterOf.mono_l k
 unfold spec_WriterOf.f
 repeat' first
   | (with_reducible exact ih0 _ _ _ _)
   | (with_reducible exact ih1 _ _ _ _ _)
   | (with_reducible exact LeO.refl _)
   | (with_reducible exact LeO.none _)
   | (with_reducible refine LeO.ite ?_ ?_)
   | (with_reducible refine LeO.bind ?_ (fun _ => ?_))
   | exact ih0 _ _ _ _
   | exact ih1 _ _ _ _ _
   | exact LeO.none _
   | refine LeO.ite ?_ ?_
   | refine LeO.bind ?_ (fun _ => ?_)
set_option maxHeartbeats 8000000 in
set_option maxRecDepth 100000 in
theorem spec_WriterOf.calls (k : Nat) (A0 : Option Addr) (c0 : Nat) (l0 : List (S53)) (a1_0 : Int) (a1_1 : Int) (r : Int) (w : World) (hr0 : Kd.C k53 w A0 l0.length l0) (hc0 : l0.length ≤ c0) (h : spec_WriterOf.f k l0 a1_0 a1_1 = some r) :
  Calls Tryd.prog 45 #[.slice A0 l0.length c0, .agg #[.int .i64 a1_0, .int .i64 a1_1]] w fun e w' => e = .returned (.int .i64 r) ∧ Below w.heap.size w w' := by
 have hu55 := Tryd.underlying55
 have HR0 := AM_ hr0
 have HC0 := AM_ hc0
 clear hr0 hc0
 have HB := AM_ (Below.refl w.heap.size w)
 have H : (spec_WriterOf.l0 k l0 0 a1_0 a1_1) = some r := h
 clear h
 have H' := AM_ H
 clear H
 go_enter Tryd.func45, Tryd.ntmps45
 go_wp2_with (first | ((with_reducible refine gate_dst (N := 3) rfl ?_); refine box_event ?hg (N := 3) ?hd (cs := #[.int .i64 a1_0, .int .i64 a1_1]) (t := 55) ?hr ?_; (case hd => rfl); (case hg => rfl); (case hr => first | (go_simp; done) | (go_simp; rfl)); intro gb130 hg w3 hbox hb; have BK130 := AM_ (hbox); have GW130 := AM_ ((GS HB.out hg)); have GE130 := AM_ ((GS HB.out hg)); replace HB := AM_ (below_step (BT HB.out) hb); clear hb hbox hg))
 repeat (go_quiet (first | ((with_reducible refine gate_dst (N := 3) rfl ?_); refine box_event ?hg (N := 3) ?hd (cs := #[.int .i64 a1_0, .int .i64 a1_1]) (t := 55) ?hr ?_; (case hd => rfl); (case hg => rfl); (case hr => first | (go_simp; done) | (go_simp; rfl)); intro gb130 hg w3 hbox hb; have BK130 := AM_ (hbox); have GW130 := AM_ ((GS HB.out hg)); have GE130 := AM_ ((GS HB.out hg)); replace HB := AM_ (below_step (BT HB.out) hb); clear hb hbox hg)); try go_wp2_with (first | ((with_reducible refine gate_dst (N := 3) rfl ?_); refine box_event ?hg (N := 3) ?hd (cs := #[.int .i64 a1_0, .int .i64 a1_1]) (t := 55) ?hr ?_; (case hd => rfl); (case hg => rfl); (case hr => first | (go_simp; done) | (go_simp; rfl)); intro gb130 hg w3 hbox hb; have BK130 := AM_ (hbox); have GW130 := AM_ ((GS HB.out hg)); have GE130 := AM_ ((GS HB.out hg)); replace HB := AM_ (below_step (BT HB.out) hb); clear hb hbox hg)))
 go_loopg [5] k (fun kq v5 w' => ∃ (x5_1 : Int), v5 = .int .i64 x5_1 ∧ Aside0 (spec_WriterOf.l0 kq l0 x5_1 a1_0 a1_1 = some r) ∧ Aside0 (kq ≤ k) ∧ Aside0 (w'.heap[gb130]? = some (.cells #[.int .i64 a1_0, .int .i64 a1_1] 55 (0, 0))) ∧ Aside0 (Below w.heap.size w w'))
 case atStart => exact ⟨(0), (by first | rfl | (simp; done) | (simp [*]; done)), H', ⟨Nat.le_refl _⟩, ⟨BH BK130.out⟩, ⟨BT HB.out⟩⟩
 case round =>
  clear H'
  try clear p2
  obtain ⟨x5_1, rfl, HA, HK1, BK130, HB⟩ := hrel
  cases gk with
  | zero => exact absurd HA.out (by simp [spec_WriterOf.l0])
  | succ k1 =>
   have H := HA.out
   clear HA
   simp only [spec_WriterOf.l0] at H
   by_cases c4 : x5_1 < (l0.length : Int)
   rotate_left
   ·rw [if_neg c4] at H
    have c4b0 : decide (x5_1 < (l0.length : Int)) = false := decide_eq_false c4
    clear c4
    obtain rfl := Option.some.inj H
    go_wp2
    repeat (go_quiet (fail); try go_wp2)
    go_ret
    exact QT (BT HB.out)
   rw [if_pos c4] at H
   have c4b0 : decide (x5_1 < (l0.length : Int)) = true := decide_eq_true c4
   clear c4
   have H' := AM_ H
   clear H
   go_wp2
   repeat (go_quiet (fail); try go_wp2)
   go_loopg [6] k1 (fun kq v6 w' => ∃ (x6_2 : Int), v6 = .int .i64 x6_2 ∧ Aside0 (spec_WriterOf.l1 kq l0 x5_1 x6_2 a1_0 a1_1 = some r) ∧ Aside0 (kq ≤ k1) ∧ Aside0 (w'.heap[gb130]? = some (.cells #[.int .i64 a1_0, .int .i64 a1_1] 55 (0, 0))) ∧ Aside0 (Below w.heap.size w w'))
   case atStart => exact ⟨(0), (by first | rfl | (simp; done) | (simp [*]; done)), H', ⟨Nat.le_refl _⟩, ⟨BH BK130.out⟩, ⟨BT HB.out⟩⟩
   case round =>
    clear H'
    try clear p2
    try clear c4
    try clear c4b0
    try clear p2
    obtain ⟨x6_2, rfl, HA, HK2, BK130, HB⟩ := hrel
    cases gk with
    | zero => exact absurd HA.out (by simp [spec_WriterOf.l1])
    | succ k2 =>
     have H := HA.out
     clear HA
     simp only [spec_WriterOf.l1] at H
     by_cases c5 : 0 ≤ x5_1
     rotate_left
     ·rw [if_neg c5] at H
      exact absurd H (by simp)
     rw [if_pos c5] at H
     have c5b0 : decide (0 ≤ x5_1) = true := decide_eq_true c5
     clear c5
     by_cases c6 : x5_1 < (l0.length : Int)
     rotate_left
     ·rw [if_neg c6] at H
      exact absurd H (by simp)
     rw [if_pos c6] at H
     have c6b0 : decide (x5_1 < (l0.length : Int)) = true := decide_eq_true c6
     clear c6
     by_cases c7 : x6_2 < (((rd_T53 l0 x5_1).f3).length : Int)
     rotate_left
     ·rw [if_neg c7] at H
      have c7b0 : decide (x6_2 < (((rd_T53 l0 x5_1).f3).length : Int)) = false := decide_eq_false c7
      clear c7
      have H' := AM_ H
      clear H
      have p131 : 0 ≤ (x5_1 : Int) := DT
      have q131 : x5_1 < (l0.length : Int) := DT
      obtain ⟨ad131, A131_2, c131_2, A131_3, c131_3, e131, hx131_0, hx131_1, hx131_2, hx131_3, hl131_2, hi131_2, hl131_3, hi131_3⟩ := at_T53 HR0.out x5_1 p131 q131
      cases e131
      replace hx131_0 := BC HB.out hx131_0
      replace hx131_1 := BC HB.out hx131_1
      replace hx131_2 := BC HB.out hx131_2
      replace hx131_3 := BC HB.out hx131_3
      have HR131_2 := AM_ hi131_2
      have HC131_2 := AM_ hl131_2
      clear hi131_2 hl131_2
      have HR131_3 := AM_ hi131_3
      have HC131_3 := AM_ hl131_3
      clear hi131_3 hl131_3
      replace p131 := eq_true p131
      replace q131 := eq_true q131
      go_wp2
      repeat (go_quiet (fail); try go_wp2)
      go_roundg k2
      case measure => have := HK1.out; have := HK2.out; omega
      case rel => exact ⟨(wrap64 (x5_1 + 1)), (by first | rfl | (simp; done) | (simp [*]; done)), H', ⟨by have := HK1.out; have := HK2.out; omega⟩, ⟨BH BK130.out⟩, ⟨BT HB.out⟩⟩
     rw [if_pos c7] at H
     have c7b0 : decide (x6_2 < (((rd_T53 l0 x5_1).f3).length : Int)) = true := decide_eq_true c7
     clear c7
     by_cases c8 : ((rd_T53 l0 x5_1).f1) = a1_1
     rotate_left
     ·rw [if_neg c8] at H
      have c8b0 : (((rd_T53 l0 x5_1).f1) == a1_1) = false := beq_eq_false_iff_ne.mpr c8
      have c8b1 : (((rd_T53 l0 x5_1).f1) != a1_1) = true := bne_iff_ne.mpr c8
      have H' := AM_ H
      clear H
      have p131 : 0 ≤ (x5_1 : Int) := DT
      have q131 : x5_1 < (l0.length : Int) := DT
      obtain ⟨ad131, A131_2, c131_2, A131_3, c131_3, e131, hx131_0, hx131_1, hx131_2, hx131_3, hl131_2, hi131_2, hl131_3, hi131_3⟩ := at_T53 HR0.out x5_1 p131 q131
      cases e131
      replace hx131_0 := BC HB.out hx131_0
      replace hx131_1 := BC HB.out hx131_1
      replace hx131_2 := BC HB.out hx131_2
      replace hx131_3 := BC HB.out hx131_3
      have HR131_2 := AM_ hi131_2
      have HC131_2 := AM_ hl131_2
      clear hi131_2 hl131_2
      have HR131_3 := AM_ hi131_3
      have HC131_3 := AM_ hl131_3
      clear hi131_3 hl131_3
      replace p131 := eq_true p131
      replace q131 := eq_true q131
      have p132 : 0 ≤ (x5_1 : Int) := DT
      have q132 : x5_1 < (l0.length : Int) := DT
      obtain ⟨ad132, A132_2, c132_2, A132_3, c132_3, e132, hx132_0, hx132_1, hx132_2, hx132_3, hl132_2, hi132_2, hl132_3, hi132_3⟩ := at_T53 HR0.out x5_1 p132 q132
      obtain rfl : ad131 = ad132 := (by injection e132)
      replace hx132_0 := BC HB.out hx132_0
      replace hx132_1 := BC HB.out hx132_1
      replace hx132_2 := BC HB.out hx132_2
      replace hx132_3 := BC HB.out hx132_3
      have HR132_2 := AM_ hi132_2
      have HC132_2 := AM_ hl132_2
      clear hi132_2 hl132_2
      have HR132_3 := AM_ hi132_3
      have HC132_3 := AM_ hl132_3
      clear hi132_3 hl132_3
      replace p132 := eq_true p132
      replace q132 := eq_true q132
      have ea_ := Option.some.inj (hx131_2.symm.trans hx132_2)
      injection ea_ with ea_ en_ ec_
      subst ea_
      subst ec_
      clear en_
      have ea_ := Option.some.inj (hx131_3.symm.trans hx132_3)
      injection ea_ with ea_ en_ ec_
      subst ea_
      subst ec_
      clear en_
      obtain ⟨hcz13_0, hcz13_1, hfz13_0, hfz13_1⟩ := bk2 BK130.out
      go_wp2
      repeat (go_quiet (fail); try go_wp2)
      go_roundg k2
      case measure => have := HK1.out; have := HK2.out; omega
      case rel => exact ⟨(wrap64 (x6_2 + 1)), (by first | rfl | (simp; done) | (simp [*]; done)), H', ⟨by have := HK1.out; have := HK2.out; omega⟩, ⟨BH BK130.out⟩, ⟨BT HB.out⟩⟩
     rw [if_pos c8] at H
     have c8b0 : (((rd_T53 l0 x5_1).f1) == a1_1) = true := beq_iff_eq.mpr c8
     have c8b1 : (((rd_T53 l0 x5_1).f1) != a1_1) = false := bne_eq_false_iff_eq.mpr c8
     clear c8
     by_cases c9 : 0 ≤ x6_2
     rotate_left
     ·rw [if_neg c9] at H
      exact absurd H (by simp)
     rw [if_pos c9] at H
     have c9b0 : decide (0 ≤ x6_2) = true := decide_eq_true c9
     clear c9
     by_cases c10 : ((rd_T57 ((rd_T53 l0 x5_1).f3) x6_2).f0) = a1_0
     rotate_left
     ·rw [if_neg c10] at H
      have c10b0 : (((rd_T57 ((rd_T53 l0 x5_1).f3) x6_2).f0) == a1_0) = false := beq_eq_false_iff_ne.mpr c10
      have c10b1 : (((rd_T57 ((rd_T53 l0 x5_1).f3) x6_2).f0) != a1_0) = true := bne_iff_ne.mpr c10
      have H' := AM_ H
      clear H
      have p131 : 0 ≤ (x5_1 : Int) := DT
      have q131 : x5_1 < (l0.length : Int) := DT
      obtain ⟨ad131, A131_2, c131_2, A131_3, c131_3, e131, hx131_0, hx131_1, hx131_2, hx131_3, hl131_2, hi131_2, hl131_3, hi131_3⟩ := at_T53 HR0.out x5_1 p131 q131
      cases e131
      replace hx131_0 := BC HB.out hx131_0
      replace hx131_1 := BC HB.out hx131_1
      replace hx131_2 := BC HB.out hx131_2
      replace hx131_3 := BC HB.out hx131_3
      have HR131_2 := AM_ hi131_2
      have HC131_2 := AM_ hl131_2
      clear hi131_2 hl131_2
      have HR131_3 := AM_ hi131_3
      have HC131_3 := AM_ hl131_3
      clear hi131_3 hl131_3
      replace p131 := eq_true p131
      replace q131 := eq_true q131
      have p132 : 0 ≤ (x5_1 : Int) := DT
      have q132 : x5_1 < (l0.length : Int) := DT
      obtain ⟨ad132, A132_2, c132_2, A132_3, c132_3, e132, hx132_0, hx132_1, hx132_2, hx132_3, hl132_2, hi132_2, hl132_3, hi132_3⟩ := at_T53 HR0.out x5_1 p132 q132
      obtain rfl : ad131 = ad132 := (by injection e132)
      replace hx132_0 := BC HB.out hx132_0
      replace hx132_1 := BC HB.out hx132_1
      replace hx132_2 := BC HB.out hx132_2
      replace hx132_3 := BC HB.out hx132_3
      have HR132_2 := AM_ hi132_2
      have HC132_2 := AM_ hl132_2
      clear hi132_2 hl132_2
      have HR132_3 := AM_ hi132_3
      have HC132_3 := AM_ hl132_3
      clear hi132_3 hl132_3
      replace p132 := eq_true p132
      replace q132 := eq_true q132
      have ea_ := Option.some.inj (hx131_2.symm.trans hx132_2)
      injection ea_ with ea_ en_ ec_
      subst ea_
      subst ec_
      clear en_
      have ea_ := Option.some.inj (hx131_3.symm.trans hx132_3)
      injection ea_ with ea_ en_ ec_
      subst ea_
      subst ec_
      clear en_
      obtain ⟨hcz12_0, hcz12_1, hfz12_0, hfz12_1⟩ := bk2 BK130.out
      have p133 : 0 ≤ (x5_1 : Int) := DT
      have q133 : x5_1 < (l0.length : Int) := DT
      obtain ⟨ad133, A133_2, c133_2, A133_3, c133_3, e133, hx133_0, hx133_1, hx133_2, hx133_3, hl133_2, hi133_2, hl133_3, hi133_3⟩ := at_T53 HR0.out x5_1 p133 q133
      obtain rfl : ad131 = ad133 := (by injection e133)
      replace hx133_0 := BC HB.out hx133_0
      replace hx133_1 := BC HB.out hx133_1
      replace hx133_2 := BC HB.out hx133_2
      replace hx133_3 := BC HB.out hx133_3
      have HR133_2 := AM_ hi133_2
      have HC133_2 := AM_ hl133_2
      clear hi133_2 hl133_2
      have HR133_3 := AM_ hi133_3
      have HC133_3 := AM_ hl133_3
      clear hi133_3 hl133_3
      replace p133 := eq_true p133
      replace q133 := eq_true q133
      have ea_ := Option.some.inj (hx131_2.symm.trans hx133_2)
      injection ea_ with ea_ en_ ec_
      subst ea_
      subst ec_
      clear en_
      have ea_ := Option.some.inj (hx131_3.symm.trans hx133_3)
      injection ea_ with ea_ en_ ec_
      subst ea_
      subst ec_
      clear en_
      have p134 : 0 ≤ (x6_2 : Int) := DT
      have q134 : x6_2 < (((rd_T53 l0 x5_1).f3).length : Int) := DT
      obtain ⟨ad134, e134, hx134_0, hx134_1⟩ := at_T57 HR133_3.out x6_2 p134 q134
      cases e134
      replace hx134_0 := BC HB.out hx134_0
      replace hx134_1 := BC HB.out hx134_1
      replace p134 := eq_true p134
      replace q134 := eq_true q134
      go_wp2
      repeat (go_quiet (fail); try go_wp2)
      go_roundg k2
      case measure => have := HK1.out; have := HK2.out; omega
      case rel => exact ⟨(wrap64 (x6_2 + 1)), (by first | rfl | (simp; done) | (simp [*]; done)), H', ⟨by have := HK1.out; have := HK2.out; omega⟩, ⟨BH BK130.out⟩, ⟨BT HB.out⟩⟩
     rw [if_pos c10] at H
     have c10b0 : (((rd_T57 ((rd_T53 l0 x5_1).f3) x6_2).f0) == a1_0) = true := beq_iff_eq.mpr c10
     have c10b1 : (((rd_T57 ((rd_T53 l0 x5_1).f3) x6_2).f0) != a1_0) = false := bne_eq_false_iff_eq.mpr c10
     clear c10
     obtain rfl := Option.some.inj H
     have p131 : 0 ≤ (x5_1 : Int) := DT
     have q131 : x5_1 < (l0.length : Int) := DT
     obtain ⟨ad131, A131_2, c131_2, A131_3, c131_3, e131, hx131_0, hx131_1, hx131_2, hx131_3, hl131_2, hi131_2, hl131_3, hi131_3⟩ := at_T53 HR0.out x5_1 p131 q131
     cases e131
     replace hx131_0 := BC HB.out hx131_0
     replace hx131_1 := BC HB.out hx131_1
     replace hx131_2 := BC HB.out hx131_2
     replace hx131_3 := BC HB.out hx131_3
     have HR131_2 := AM_ hi131_2
     have HC131_2 := AM_ hl131_2
     clear hi131_2 hl131_2
     have HR131_3 := AM_ hi131_3
     have HC131_3 := AM_ hl131_3
     clear hi131_3 hl131_3
     replace p131 := eq_true p131
     replace q131 := eq_true q131
     have p132 : 0 ≤ (x5_1 : Int) := DT
     have q132 : x5_1 < (l0.length : Int) := DT
     obtain ⟨ad132, A132_2, c132_2, A132_3, c132_3, e132, hx132_0, hx132_1, hx132_2, hx132_3, hl132_2, hi132_2, hl132_3, hi132_3⟩ := at_T53 HR0.out x5_1 p132 q132
     obtain rfl : ad131 = ad132 := (by injection e132)
     replace hx132_0 := BC HB.out hx132_0
     replace hx132_1 := BC HB.out hx132_1
     replace hx132_2 := BC HB.out hx132_2
     replace hx132_3 := BC HB.out hx132_3
     have HR132_2 := AM_ hi132_2
     have HC132_2 := AM_ hl132_2
     clear hi132_2 hl132_2
     have HR132_3 := AM_ hi132_3
     have HC132_3 := AM_ hl132_3
     clear hi132_3 hl132_3
     replace p132 := eq_true p132
     replace q132 := eq_true q132
     have ea_ := Option.some.inj (hx131_2.symm.trans hx132_2)
     injection ea_ with ea_ en_ ec_
     subst ea_
     subst ec_
     clear en_
     have ea_ := Option.some.inj (hx131_3.symm.trans hx132_3)
     injection ea_ with ea_ en_ ec_
     subst ea_
     subst ec_
     clear en_
     obtain ⟨hcz11_0, hcz11_1, hfz11_0, hfz11_1⟩ := bk2 BK130.out
     have p133 : 0 ≤ (x5_1 : Int) := DT
     have q133 : x5_1 < (l0.length : Int) := DT
     obtain ⟨ad133, A133_2, c133_2, A133_3, c133_3, e133, hx133_0, hx133_1, hx133_2, hx133_3, hl133_2, hi133_2, hl133_3, hi133_3⟩ := at_T53 HR0.out x5_1 p133 q133
     obtain rfl : ad131 = ad133 := (by injection e133)
     replace hx133_0 := BC HB.out hx133_0
     replace hx133_1 := BC HB.out hx133_1
     replace hx133_2 := BC HB.out hx133_2
     replace hx133_3 := BC HB.out hx133_3
     have HR133_2 := AM_ hi133_2
     have HC133_2 := AM_ hl133_2
     clear hi133_2 hl133_2
     have HR133_3 := AM_ hi133_3
     have HC133_3 := AM_ hl133_3
     clear hi133_3 hl133_3
     replace p133 := eq_true p133
     replace q133 := eq_true q133
     have ea_ := Option.some.inj (hx131_2.symm.trans hx133_2)
     injection ea_ with ea_ en_ ec_
     subst ea_
     subst ec_
     clear en_
     have ea_ := Option.some.inj (hx131_3.symm.trans hx133_3)
     injection ea_ with ea_ en_ ec_
     subst ea_
     subst ec_
     clear en_
     have p134 : 0 ≤ (x6_2 : Int) := DT
     have q134 : x6_2 < (((rd_T53 l0 x5_1).f3).length : Int) := DT
     obtain ⟨ad134, e134, hx134_0, hx134_1⟩ := at_T57 HR133_3.out x6_2 p134 q134
     cases e134
     replace hx134_0 := BC HB.out hx134_0
     replace hx134_1 := BC HB.out hx134_1
     replace p134 := eq_true p134
     replace q134 := eq_true q134
     have p135 : 0 ≤ (x5_1 : Int) := DT
     have q135 : x5_1 < (l0.length : Int) := DT
     obtain ⟨ad135, A135_2, c135_2, A135_3, c135_3, e135, hx135_0, hx135_1, hx135_2, hx135_3, hl135_2, hi135_2, hl135_3, hi135_3⟩ := at_T53 HR0.out x5_1 p135 q135
     obtain rfl : ad131 = ad135 := (by injection e135)
     replace hx135_0 := BC HB.out hx135_0
     replace hx135_1 := BC HB.out hx135_1
     replace hx135_2 := BC HB.out hx135_2
     replace hx135_3 := BC HB.out hx135_3
     have HR135_2 := AM_ hi135_2
     have HC135_2 := AM_ hl135_2
     clear hi135_2 hl135_2
     have HR135_3 := AM_ hi135_3
     have HC135_3 := AM_ hl135_3
     clear hi135_3 hl135_3
     replace p135 := eq_true p135
     replace q135 := eq_true q135
     have ea_ := Option.some.inj (hx131_2.symm.trans hx135_2)
     injection ea_ with ea_ en_ ec_
     subst ea_
     subst ec_
     clear en_
     have ea_ := Option.some.inj (hx131_3.symm.trans hx135_3)
     injection ea_ with ea_ en_ ec_
     subst ea_
     subst ec_
     clear en_
     go_wp2
     repeat (go_quiet (fail); try go_wp2)
     go_ret
     exact QT (BT HB.out)

end Go.Proofs.YtgpmfkmdchcagaaDoor.PFnExactFormatHistory
