-- Printed by wip/myprint.py.
import Derived.Test.YtdfbmaiboadodaaGreatDoorPFnExactParseHistoryx0
namespace Go.Proofs.YtdfbmaiboadodaaGreatDoor.PFnExactParseHistory
open Go.RowKit Go.Proofs.YtdfbmaiboadodaaGreatDoorW.PrintWords Go.Proofs.YtdfbmaiboadodaaGreatDoorW.PrintLast Go.Proofs.YtdfbmaiboadodaaGreatDoorW.PrintMore
set_option maxHeartbeats 8000000
set_option maxRecDepth 100000
set_option linter.unusedVariables false
set_option linter.unusedSimpArgs false

/-! ### spec_l18Tx: function 40 -/
def spec_l18Tx.f (a0_0 : Int) (a0_1 : Int) (l0_2 : List (S48)) (l0_3 : List (S50)) : Option (Int × Int × Int × Int × Int × Int × Int) := some (a0_0, 1, 2, 0, 0, 1000, a0_1)
theorem spec_l18Tx.calls (a0_0 : Int) (a0_1 : Int) (A0_2 : Option Addr) (c0_2 : Nat) (l0_2 : List (S48)) (A0_3 : Option Addr) (c0_3 : Nat) (l0_3 : List (S50)) (r1 : Int) (r2 : Int) (r3 : Int) (r4 : Int) (r5 : Int) (r6 : Int) (r7 : Int) (w : World) (hr0_2 : Kd.C k48 w A0_2 l0_2.length l0_2) (hc0_2 : l0_2.length ≤ c0_2) (hr0_3 : Kd.C k50 w A0_3 l0_3.length l0_3) (hc0_3 : l0_3.length ≤ c0_3) (h : spec_l18Tx.f a0_0 a0_1 l0_2 l0_3 = some (r1, r2, r3, r4, r5, r6, r7)) :
  Calls Tryz.prog 40 #[.agg #[.int .i64 a0_0, .int .i64 a0_1, .slice A0_2 l0_2.length c0_2, .slice A0_3 l0_3.length c0_3]] w fun e w' => e = .returned (.agg #[.int .i64 r1, .int .i64 r2, .int .i64 r3, .int .i64 r4, .int .i64 r5, .int .i64 r6, .int .i64 r7, .slice A0_2 l0_2.length c0_2, .slice A0_3 l0_3.length c0_3]) ∧ Below w.heap.size w w' := by
 obtain ⟨P0_, _⟩ : ∃ P : Nat → Prop, P = P := ⟨fun _ => False, rfl⟩
 have hu33 := Tryz.underlying33
 have hu65 := Tryz.underlying65
 have HO0_2 := AM_ (show Kd.R k48 48 w w.heap.size (fun k_ => ((P0_ k_ ∨ P0_ k_) ∨ w.heap.size ≤ k_)) (.slice none 0 0) [] from Kd.R_nil _ _ _ _ _)
 have HO0_3 := AM_ (show Kd.R k50 50 w w.heap.size (fun k_ => ((P0_ k_ ∨ P0_ k_) ∨ w.heap.size ≤ k_)) (.slice none 0 0) [] from Kd.R_nil _ _ _ _ _)
 have HK := AM_ (Kept.refl w (fun k_ => P0_ k_ ∨ P0_ k_))
 have HB := AM_ (Below.refl w.heap.size w)
 have H := h
 clear h
 simp only [spec_l18Tx.f, Option.some.injEq, Prod.mk.injEq] at H
 obtain ⟨rfl, rfl, rfl, rfl, rfl, rfl, rfl⟩ := H
 go_enter Tryz.func40, Tryz.ntmps40
 go_wp2_with (first | ((with_reducible refine gate_dst (N := 1) rfl ?_); refine box_event ?hg (N := 1) ?hd (cs := #[.int .i64 a0_0, .int .i64 a0_1, .slice A0_2 l0_2.length c0_2, .slice A0_3 l0_3.length c0_3]) (t := 33) ?hr ?_; (case hd => rfl); (case hg => rfl); (case hr => first | (go_simp; done) | (go_simp; rfl)); intro gb171 hg w4 hbox hb; replace HO0_2 := AM_ (Kd.R_below (RT HO0_2.out) hb); replace HO0_3 := AM_ (Kd.R_below (RT HO0_3.out) hb); have BK171 := AM_ (hbox); have GW171 := AM_ ((by rw [hg]; exact (by first | exact HK.out.1 | exact (show Kept w _ (fun k_ => P0_ k_ ∨ P0_ k_) from by repeat (first | (with_reducible first | exact HK.out | apply Kept.alloc | apply Kept.drewN | apply Kept.drew) | exact HK.out)).1) : w.heap.size ≤ gb171)); replace HK := AM_ (Kept.below (S := (fun k_ => P0_ k_ ∨ P0_ k_)) (by repeat (first | (with_reducible first | exact HK.out | apply Kept.alloc | apply Kept.drewN | apply Kept.drew) | exact HK.out)) hb); have GE171 := AM_ ((GS HB.out hg)); replace HB := AM_ (below_step (BT HB.out) hb); clear hb hbox hg) | ((with_reducible refine gate_dst (N := 2) rfl ?_); refine box_event ?hg (N := 2) ?hd (cs := #[.int .i64 0, .int .i64 0, .int .i64 0, .int .i64 0, .int .i64 0, .int .i64 0, .int .i64 0, .slice none 0 0, .slice none 0 0]) (t := 65) ?hr ?_; (case hd => rfl); (case hg => rfl); (case hr => first | (go_simp; done) | (go_simp; rfl)); intro gb172 hg w5 hbox hb; replace HO0_2 := AM_ (Kd.R_below (RT HO0_2.out) hb); replace HO0_3 := AM_ (Kd.R_below (RT HO0_3.out) hb); have BK172 := AM_ (hbox); have GW172 := AM_ ((by rw [hg]; exact (by first | exact HK.out.1 | exact (show Kept w _ (fun k_ => P0_ k_ ∨ P0_ k_) from by repeat (first | (with_reducible first | exact HK.out | apply Kept.alloc | apply Kept.drewN | apply Kept.drew | refine Kept.setCell ?_ (.inr GW171.out) _) | exact HK.out)).1) : w.heap.size ≤ gb172)); replace HK := AM_ (Kept.below (S := (fun k_ => P0_ k_ ∨ P0_ k_)) (by repeat (first | (with_reducible first | exact HK.out | apply Kept.alloc | apply Kept.drewN | apply Kept.drew | refine Kept.setCell ?_ (.inr GW171.out) _) | exact HK.out)) hb); have GE172 := AM_ ((GS HB.out hg)); replace HB := AM_ (below_step (BT HB.out) hb); have NB171_172 := AM_ ((NL BK171.out hg)); have NB172_171 := AM_ ((NG BK171.out hg)); replace BK171 := AM_ (BB BK171.out hb); clear hb hbox hg; have hnb6 := NB171_172.out; have hnc6 := NB172_171.out; obtain ⟨hcz7_0, hcz7_1, hcz7_2, hcz7_3, hfz7_0, hfz7_1, hfz7_2, hfz7_3⟩ := bk4 BK171.out; obtain ⟨hcz8_0, hcz8_1, hcz8_2, hcz8_3, hcz8_4, hcz8_5, hcz8_6, hcz8_7, hcz8_8, hfz8_0, hfz8_1, hfz8_2, hfz8_3, hfz8_4, hfz8_5, hfz8_6, hfz8_7, hfz8_8⟩ := bk9 BK172.out))
 refine bodyPost_ret (results_cell_row rfl _ _ gb172 65 #[.int .i64 a0_0, .int .i64 1, .int .i64 2, .int .i64 0, .int .i64 0, .int .i64 1000, .int .i64 a0_1, .slice A0_2 l0_2.length c0_2, .slice A0_3 l0_3.length c0_3] (0, 0) _ rfl (by (with_reducible repeat (first | refine blk_drewN ?_ _ | refine blk_drew ?_ | refine blk_alloc ?_ _)); refine blk_put (cs := #[.int .i64 a0_0, .int .i64 1, .int .i64 2, .int .i64 0, .int .i64 0, .int .i64 1000, .int .i64 a0_1, .slice A0_2 l0_2.length c0_2, .slice none 0 0]) ?_ 8 _ rfl; (with_reducible repeat (first | refine blk_drewN ?_ _ | refine blk_drew ?_ | refine blk_alloc ?_ _)); refine blk_put (cs := #[.int .i64 a0_0, .int .i64 1, .int .i64 2, .int .i64 0, .int .i64 0, .int .i64 1000, .int .i64 a0_1, .slice none 0 0, .slice none 0 0]) ?_ 7 _ rfl; (with_reducible repeat (first | refine blk_drewN ?_ _ | refine blk_drew ?_ | refine blk_alloc ?_ _)); refine blk_put (cs := #[.int .i64 a0_0, .int .i64 1, .int .i64 2, .int .i64 0, .int .i64 0, .int .i64 1000, .int .i64 0, .slice none 0 0, .slice none 0 0]) ?_ 6 _ rfl; (with_reducible repeat (first | refine blk_drewN ?_ _ | refine blk_drew ?_ | refine blk_alloc ?_ _)); refine blk_put (cs := #[.int .i64 a0_0, .int .i64 1, .int .i64 2, .int .i64 0, .int .i64 0, .int .i64 0, .int .i64 0, .slice none 0 0, .slice none 0 0]) ?_ 5 _ rfl; (with_reducible repeat (first | refine blk_drewN ?_ _ | refine blk_drew ?_ | refine blk_alloc ?_ _)); refine blk_put (cs := #[.int .i64 a0_0, .int .i64 1, .int .i64 2, .int .i64 0, .int .i64 0, .int .i64 0, .int .i64 0, .slice none 0 0, .slice none 0 0]) ?_ 4 _ rfl; (with_reducible repeat (first | refine blk_drewN ?_ _ | refine blk_drew ?_ | refine blk_alloc ?_ _)); refine blk_put (cs := #[.int .i64 a0_0, .int .i64 1, .int .i64 2, .int .i64 0, .int .i64 0, .int .i64 0, .int .i64 0, .slice none 0 0, .slice none 0 0]) ?_ 3 _ rfl; (with_reducible repeat (first | refine blk_drewN ?_ _ | refine blk_drew ?_ | refine blk_alloc ?_ _)); refine blk_put (cs := #[.int .i64 a0_0, .int .i64 1, .int .i64 0, .int .i64 0, .int .i64 0, .int .i64 0, .int .i64 0, .slice none 0 0, .slice none 0 0]) ?_ 2 _ rfl; (with_reducible repeat (first | refine blk_drewN ?_ _ | refine blk_drew ?_ | refine blk_alloc ?_ _)); refine blk_put (cs := #[.int .i64 a0_0, .int .i64 0, .int .i64 0, .int .i64 0, .int .i64 0, .int .i64 0, .int .i64 0, .slice none 0 0, .slice none 0 0]) ?_ 1 _ rfl; (with_reducible repeat (first | refine blk_drewN ?_ _ | refine blk_drew ?_ | refine blk_alloc ?_ _)); refine blk_put (cs := #[.int .i64 0, .int .i64 0, .int .i64 0, .int .i64 0, .int .i64 0, .int .i64 0, .int .i64 0, .slice none 0 0, .slice none 0 0]) ?_ 0 _ rfl; (with_reducible repeat (first | refine blk_drewN ?_ _ | refine blk_drew ?_ | refine blk_alloc ?_ _)); exact BK172.out) Tryz.underlying65 rfl (by kernel_rfl)) rfl ?_
 exact ⟨by first | rfl | (simp; done), BT HB.out⟩

/-! ### spec_FindEntry: function 41 -/
def spec_FindEntry.l0 : Nat → List (S33) → Int → Int → Option (Int)
 | 0, _, _, _ => none
 | k + 1, x0, x1, x5 => if x5 < (x0.length : Int) then (if 0 ≤ x5 then (if ((rd_T33 x0 x5).f0) = x1 then (some x5) else (spec_FindEntry.l0 k x0 x1 (wrap64 (x5 + 1)))) else (none)) else (some (-1))
def spec_FindEntry.f (k : Nat) (l0 : List (S33)) (a1 : Int) : Option (Int) := spec_FindEntry.l0 k l0 a1 0
theorem spec_FindEntry.mono_l : ∀ k, (∀ y0 y1 y2, LeO (spec_FindEntry.l0 k y0 y1 y2) (spec_FindEntry.l0 (k + 1) y0 y1 y2))
 | 0 => fun _ _ _ r h => by simp [spec_FindEntry.l0] at h
 | k + 1 => by
  have ih0 := spec_FindEntry.mono_l k
  ·intro y0 y1 y2
   unfold spec_FindEntry.l0
   repeat' first
   | (with_reducible exact ih0 _ _ _)
   | (with_reducible first | exact LeO.refl _ | exact LeO.none _ | refine LeO.ite ?_ ?_ | refine LeO.bind ?_ (fun _ => ?_))
   | exact ih0 _ _ _
   | exact LeO.none _ | refine LeO.ite ?_ ?_ | refine LeO.bind ?_ (fun _ => ?_)
theorem spec_FindEntry.mono : ∀ a0 a1 k, LeO (spec_FindEntry.f k a0 a1) (spec_FindEntry.f (k + 1) a0 a1) := by
 intro a0 a1 k
 have ih0 := spec_FindEntry.mono_l k
 unfold spec_FindEntry.f
 repeat' first
   | (with_reducible exact ih0 _ _ _)
   | (with_reducible first | exact LeO.refl _ | exact LeO.none _ | refine LeO.ite ?_ ?_ | refine LeO.bind ?_ (fun _ => ?_))
   | exact ih0 _ _ _
   | exact LeO.none _ | refine LeO.ite ?_ ?_ | refine LeO.bind ?_ (fun _ => ?_)
theorem spec_FindEntry.calls (k : Nat) (A0 : Option Addr) (c0 : Nat) (l0 : List (S33)) (a1 : Int) (r : Int) (w : World) (hr0 : Kd.C k33 w A0 l0.length l0) (hc0 : l0.length ≤ c0) (h : spec_FindEntry.f k l0 a1 = some r) :
  Calls Tryz.prog 41 #[.slice A0 l0.length c0, .int .i64 a1] w fun e w' => e = .returned (.int .i64 r) ∧ Drawn0 w w' := by
 have HR0 := AM_ hr0
 have HC0 := AM_ hc0
 clear hr0 hc0
 have H : (spec_FindEntry.l0 k l0 a1 0) = some r := h
 clear h
 have H' := AM_ H
 clear H
 go_enter Tryz.func41, Tryz.ntmps41
 go_wp2
 go_loopg [5] k (fun kq v5 w' => ∃ (x5_1 : Int), v5 = .int .i64 x5_1 ∧ Aside0 (spec_FindEntry.l0 kq l0 a1 x5_1 = some r) ∧ Aside0 (kq ≤ k) ∧ Drawn0 w w')
 case atStart => exact ⟨(0), (by first | rfl | (simp; done) | (simp [*]; done)), H', ⟨Nat.le_refl _⟩, by repeat (first | exact Drawn0.refl _ | apply Drawn0.step)⟩
 case round =>
  clear H'
  try clear p2
  obtain ⟨x5_1, rfl, HA, HK1, ⟨m1, rfl⟩⟩ := hrel
  cases gk with
  | zero => exact absurd HA.out (by simp [spec_FindEntry.l0])
  | succ k1 =>
   have H := HA.out
   clear HA
   simp only [spec_FindEntry.l0] at H
   by_cases c3 : x5_1 < (l0.length : Int)
   rotate_left
   ·rw [if_neg c3] at H
    have c3b0 : decide (x5_1 < (l0.length : Int)) = false := decide_eq_false c3
    clear c3
    obtain rfl := Option.some.inj H
    go_wp2
    go_ret
    exact ⟨by first | rfl | (simp; done) | (simp [*]; done), by repeat (first | exact Drawn0.refl _ | apply Drawn0.step)⟩
   rw [if_pos c3] at H
   have c3b0 : decide (x5_1 < (l0.length : Int)) = true := decide_eq_true c3
   clear c3
   replace H := HI H
   obtain ⟨c4, H⟩ := H
   have c4b0 : decide (0 ≤ x5_1) = true := decide_eq_true c4
   clear c4
   by_cases c5 : ((rd_T33 l0 x5_1).f0) = a1
   ·rw [if_pos c5] at H
    have c5b0 : (((rd_T33 l0 x5_1).f0) == a1) = true := beq_iff_eq.mpr c5
    have c5b1 : (((rd_T33 l0 x5_1).f0) != a1) = false := bne_eq_false_iff_eq.mpr c5
    clear c5
    obtain rfl := Option.some.inj H
    have p173 : 0 ≤ (x5_1 : Int) := DT
    have q173 : x5_1 < (l0.length : Int) := DT
    obtain ⟨ad173, A173_2, c173_2, A173_3, c173_3, e173, hx173_0, hx173_1, hx173_2, hx173_3, hl173_2, hi173_2, hl173_3, hi173_3⟩ := at_T33 HR0.out x5_1 p173 q173
    cases e173
    have HR173_2 := AM_ hi173_2
    have HC173_2 := AM_ hl173_2
    clear hi173_2 hl173_2
    have HR173_3 := AM_ hi173_3
    have HC173_3 := AM_ hl173_3
    clear hi173_3 hl173_3
    replace p173 := eq_true p173
    replace q173 := eq_true q173
    go_wp2
    go_ret
    exact ⟨by first | rfl | (simp; done) | (simp [*]; done), by repeat (first | exact Drawn0.refl _ | apply Drawn0.step)⟩
   rw [if_neg c5] at H
   have c5b0 : (((rd_T33 l0 x5_1).f0) == a1) = false := beq_eq_false_iff_ne.mpr c5
   have c5b1 : (((rd_T33 l0 x5_1).f0) != a1) = true := bne_iff_ne.mpr c5
   have H' := AM_ H
   clear H
   have p173 : 0 ≤ (x5_1 : Int) := DT
   have q173 : x5_1 < (l0.length : Int) := DT
   obtain ⟨ad173, A173_2, c173_2, A173_3, c173_3, e173, hx173_0, hx173_1, hx173_2, hx173_3, hl173_2, hi173_2, hl173_3, hi173_3⟩ := at_T33 HR0.out x5_1 p173 q173
   cases e173
   have HR173_2 := AM_ hi173_2
   have HC173_2 := AM_ hl173_2
   clear hi173_2 hl173_2
   have HR173_3 := AM_ hi173_3
   have HC173_3 := AM_ hl173_3
   clear hi173_3 hl173_3
   replace p173 := eq_true p173
   replace q173 := eq_true q173
   go_wp2
   go_roundg k1
   case measure => have := HK1.out; omega
   case rel => exact ⟨(wrap64 (x5_1 + 1)), (by first | rfl | (simp; done) | (simp [*]; done)), H', ⟨by have := HK1.out; omega⟩, by repeat (first | exact Drawn0.refl _ | apply Drawn0.step)⟩

/-! ### spec_WriterOf: function 42 -/
mutual
def spec_WriterOf.l0 : Nat → List (S33) → Int → Int → Int → Option (Int)
 | 0, _, _, _, _ => none
 | k + 1, x0, x5, x175000, x175001 => if x5 < (x0.length : Int) then (spec_WriterOf.l1 k x0 x5 0 x175000 x175001) else (some 0)
def spec_WriterOf.l1 : Nat → List (S33) → Int → Int → Int → Int → Option (Int)
 | 0, _, _, _, _, _ => none
 | k + 1, x0, x5, x6, x175000, x175001 => if 0 ≤ x5 then (if x5 < (x0.length : Int) then (if x6 < (((rd_T33 x0 x5).f3).length : Int) then (if ((rd_T33 x0 x5).f1) = x175001 then (if 0 ≤ x6 then (if ((rd_T50 ((rd_T33 x0 x5).f3) x6).f0) = x175000 then (some ((rd_T33 x0 x5).f0)) else (spec_WriterOf.l1 k x0 x5 (wrap64 (x6 + 1)) x175000 x175001)) else (none)) else (spec_WriterOf.l1 k x0 x5 (wrap64 (x6 + 1)) x175000 x175001)) else (spec_WriterOf.l0 k x0 (wrap64 (x5 + 1)) x175000 x175001)) else (none)) else (none)
end
def spec_WriterOf.f (k : Nat) (l0 : List (S33)) (a1_0 : Int) (a1_1 : Int) : Option (Int) := spec_WriterOf.l0 k l0 0 a1_0 a1_1
theorem spec_WriterOf.mono_l : ∀ k, (∀ y0 y1 y2 y3, LeO (spec_WriterOf.l0 k y0 y1 y2 y3) (spec_WriterOf.l0 (k + 1) y0 y1 y2 y3)) ∧ (∀ y0 y1 y2 y3 y4, LeO (spec_WriterOf.l1 k y0 y1 y2 y3 y4) (spec_WriterOf.l1 (k + 1) y0 y1 y2 y3 y4))
 | 0 => ⟨fun _ _ _ _ r h => by simp [spec_WriterOf.l0] at h, fun _ _ _ _ _ r h => by simp [spec_WriterOf.l1] at h⟩
 | k + 1 => by
  obtain ⟨ih0, ih1⟩ := spec_WriterOf.mono_l k
  refine ⟨?_, ?_⟩
  ·intro y0 y1 y2 y3
   unfold spec_WriterOf.l0
   repeat' first
   | (with_reducible exact ih0 _ _ _ _)
   | (with_reducible exact ih1 _ _ _ _ _)
   | (with_reducible first | exact LeO.refl _ | exact LeO.none _ | refine LeO.ite ?_ ?_ | refine LeO.bind ?_ (fun _ => ?_))
   | exact ih0 _ _ _ _
   | exact ih1 _ _ _ _ _
   | exact LeO.none _ | refine LeO.ite ?_ ?_ | refine LeO.bind ?_ (fun _ => ?_)
  ·intro y0 y1 y2 y3 y4
   unfold spec_WriterOf.l1
   repeat' first
   | (with_reducible exact ih0 _ _ _ _)
   | (with_reducible exact ih1 _ _ _ _ _)
   | (with_reducible first | exact LeO.refl _ | exact LeO.none _ | refine LeO.ite ?_ ?_ | refine LeO.bind ?_ (fun _ => ?_))
   | exact ih0 _ _ _ _
   | exact ih1 _ _ _ _ _
   | exact LeO.none _ | refine LeO.ite ?_ ?_ | refine LeO.bind ?_ (fun _ => ?_)
theorem spec_WriterOf.mono : ∀ a0 a1 a2 k, LeO (spec_WriterOf.f k a0 a1 a2) (spec_WriterOf.f (k + 1) a0 a1 a2) := by
 intro a0 a1 a2 k
 obtain ⟨ih0, ih1⟩ := spec_WriterOf.mono_l k
 unfold spec_WriterOf.f
 repeat' first
   | (with_reducible exact ih0 _ _ _ _)
   | (with_reducible exact ih1 _ _ _ _ _)
   | (with_reducible first | exact LeO.refl _ | exact LeO.none _ | refine LeO.ite ?_ ?_ | refine LeO.bind ?_ (fun _ => ?_))
   | exact ih0 _ _ _ _
   | exact ih1 _ _ _ _ _
   | exact LeO.none _ | refine LeO.ite ?_ ?_ | refine LeO.bind ?_ (fun _ => ?_)
theorem spec_WriterOf.calls (k : Nat) (A0 : Option Addr) (c0 : Nat) (l0 : List (S33)) (a1_0 : Int) (a1_1 : Int) (r : Int) (w : World) (hr0 : Kd.C k33 w A0 l0.length l0) (hc0 : l0.length ≤ c0) (h : spec_WriterOf.f k l0 a1_0 a1_1 = some r) :
  Calls Tryz.prog 42 #[.slice A0 l0.length c0, .agg #[.int .i64 a1_0, .int .i64 a1_1]] w fun e w' => e = .returned (.int .i64 r) ∧ Below w.heap.size w w' := by
 have hu48 := Tryz.underlying48
 have HR0 := AM_ hr0
 have HC0 := AM_ hc0
 clear hr0 hc0
 have HB := AM_ (Below.refl w.heap.size w)
 have H : (spec_WriterOf.l0 k l0 0 a1_0 a1_1) = some r := h
 clear h
 have H' := AM_ H
 clear H
 go_enter Tryz.func42, Tryz.ntmps42
 go_wp2_with (first | ((with_reducible refine gate_dst (N := 3) rfl ?_); refine box_event ?hg (N := 3) ?hd (cs := #[.int .i64 a1_0, .int .i64 a1_1]) (t := 48) ?hr ?_; (case hd => rfl); (case hg => rfl); (case hr => first | (go_simp; done) | (go_simp; rfl)); intro gb174 hg w3 hbox hb; have BK174 := AM_ (hbox); have GW174 := AM_ ((GS HB.out hg)); have GE174 := AM_ ((GS HB.out hg)); replace HB := AM_ (below_step (BT HB.out) hb); clear hb hbox hg))
 repeat (go_quiet (first | ((with_reducible refine gate_dst (N := 3) rfl ?_); refine box_event ?hg (N := 3) ?hd (cs := #[.int .i64 a1_0, .int .i64 a1_1]) (t := 48) ?hr ?_; (case hd => rfl); (case hg => rfl); (case hr => first | (go_simp; done) | (go_simp; rfl)); intro gb174 hg w3 hbox hb; have BK174 := AM_ (hbox); have GW174 := AM_ ((GS HB.out hg)); have GE174 := AM_ ((GS HB.out hg)); replace HB := AM_ (below_step (BT HB.out) hb); clear hb hbox hg)); try go_wp2_with (first | ((with_reducible refine gate_dst (N := 3) rfl ?_); refine box_event ?hg (N := 3) ?hd (cs := #[.int .i64 a1_0, .int .i64 a1_1]) (t := 48) ?hr ?_; (case hd => rfl); (case hg => rfl); (case hr => first | (go_simp; done) | (go_simp; rfl)); intro gb174 hg w3 hbox hb; have BK174 := AM_ (hbox); have GW174 := AM_ ((GS HB.out hg)); have GE174 := AM_ ((GS HB.out hg)); replace HB := AM_ (below_step (BT HB.out) hb); clear hb hbox hg)))
 go_loopg [5] k (fun kq v5 w' => ∃ (x5_1 : Int), v5 = .int .i64 x5_1 ∧ Aside0 (spec_WriterOf.l0 kq l0 x5_1 a1_0 a1_1 = some r) ∧ Aside0 (kq ≤ k) ∧ Aside0 (w'.heap[gb174]? = some (.cells #[.int .i64 a1_0, .int .i64 a1_1] 48 (0, 0))) ∧ Aside0 (Below w.heap.size w w'))
 case atStart => exact ⟨(0), (by first | rfl | (simp; done) | (simp [*]; done)), H', ⟨Nat.le_refl _⟩, ⟨BH BK174.out⟩, ⟨BT HB.out⟩⟩
 case round =>
  clear H'
  try clear p2
  obtain ⟨x5_1, rfl, HA, HK1, BK174, HB⟩ := hrel
  cases gk with
  | zero => exact absurd HA.out (by simp [spec_WriterOf.l0])
  | succ k1 =>
   have H := HA.out
   clear HA
   simp only [spec_WriterOf.l0] at H
   by_cases c4 : x5_1 < (l0.length : Int)
   rotate_left
   ·rw [if_neg c4] at H
    have c4b0 : decide (x5_1 < (l0.length : Int)) = false := decide_eq_false c4
    clear c4
    obtain rfl := Option.some.inj H
    go_wp2
    repeat (go_quiet (fail); try go_wp2)
    go_ret
    exact QT (BT HB.out)
   rw [if_pos c4] at H
   have c4b0 : decide (x5_1 < (l0.length : Int)) = true := decide_eq_true c4
   clear c4
   have H' := AM_ H
   clear H
   go_wp2
   repeat (go_quiet (fail); try go_wp2)
   go_loopg [6] k1 (fun kq v6 w' => ∃ (x6_2 : Int), v6 = .int .i64 x6_2 ∧ Aside0 (spec_WriterOf.l1 kq l0 x5_1 x6_2 a1_0 a1_1 = some r) ∧ Aside0 (kq ≤ k1) ∧ Aside0 (w'.heap[gb174]? = some (.cells #[.int .i64 a1_0, .int .i64 a1_1] 48 (0, 0))) ∧ Aside0 (Below w.heap.size w w'))
   case atStart => exact ⟨(0), (by first | rfl | (simp; done) | (simp [*]; done)), H', ⟨Nat.le_refl _⟩, ⟨BH BK174.out⟩, ⟨BT HB.out⟩⟩
   case round =>
    clear H'
    try clear p2
    try clear c4
    try clear c4b0
    obtain ⟨x6_2, rfl, HA, HK2, BK174, HB⟩ := hrel
    cases gk with
    | zero => exact absurd HA.out (by simp [spec_WriterOf.l1])
    | succ k2 =>
     have H := HA.out
     clear HA
     simp only [spec_WriterOf.l1] at H
     replace H := HI H
     obtain ⟨c5, H⟩ := H
     have c5b0 : decide (0 ≤ x5_1) = true := decide_eq_true c5
     clear c5
     replace H := HI H
     obtain ⟨c6, H⟩ := H
     have c6b0 : decide (x5_1 < (l0.length : Int)) = true := decide_eq_true c6
     clear c6
     by_cases c7 : x6_2 < (((rd_T33 l0 x5_1).f3).length : Int)
     rotate_left
     ·rw [if_neg c7] at H
      have c7b0 : decide (x6_2 < (((rd_T33 l0 x5_1).f3).length : Int)) = false := decide_eq_false c7
      clear c7
      have H' := AM_ H
      clear H
      have p175 : 0 ≤ (x5_1 : Int) := DT
      have q175 : x5_1 < (l0.length : Int) := DT
      obtain ⟨ad175, A175_2, c175_2, A175_3, c175_3, e175, hx175_0, hx175_1, hx175_2, hx175_3, hl175_2, hi175_2, hl175_3, hi175_3⟩ := at_T33 HR0.out x5_1 p175 q175
      cases e175
      replace hx175_0 := BC HB.out hx175_0
      replace hx175_1 := BC HB.out hx175_1
      replace hx175_2 := BC HB.out hx175_2
      replace hx175_3 := BC HB.out hx175_3
      have HR175_2 := AM_ hi175_2
      have HC175_2 := AM_ hl175_2
      clear hi175_2 hl175_2
      have HR175_3 := AM_ hi175_3
      have HC175_3 := AM_ hl175_3
      clear hi175_3 hl175_3
      replace p175 := eq_true p175
      replace q175 := eq_true q175
      go_wp2
      repeat (go_quiet (fail); try go_wp2)
      go_roundg k2
      case measure => have := HK1.out; have := HK2.out; omega
      case rel => exact ⟨(wrap64 (x5_1 + 1)), (by first | rfl | (simp; done) | (simp [*]; done)), H', ⟨by have := HK1.out; have := HK2.out; omega⟩, ⟨BH BK174.out⟩, ⟨BT HB.out⟩⟩
     rw [if_pos c7] at H
     have c7b0 : decide (x6_2 < (((rd_T33 l0 x5_1).f3).length : Int)) = true := decide_eq_true c7
     clear c7
     by_cases c8 : ((rd_T33 l0 x5_1).f1) = a1_1
     rotate_left
     ·rw [if_neg c8] at H
      have c8b0 : (((rd_T33 l0 x5_1).f1) == a1_1) = false := beq_eq_false_iff_ne.mpr c8
      have c8b1 : (((rd_T33 l0 x5_1).f1) != a1_1) = true := bne_iff_ne.mpr c8
      have H' := AM_ H
      clear H
      have p175 : 0 ≤ (x5_1 : Int) := DT
      have q175 : x5_1 < (l0.length : Int) := DT
      obtain ⟨ad175, A175_2, c175_2, A175_3, c175_3, e175, hx175_0, hx175_1, hx175_2, hx175_3, hl175_2, hi175_2, hl175_3, hi175_3⟩ := at_T33 HR0.out x5_1 p175 q175
      cases e175
      replace hx175_0 := BC HB.out hx175_0
      replace hx175_1 := BC HB.out hx175_1
      replace hx175_2 := BC HB.out hx175_2
      replace hx175_3 := BC HB.out hx175_3
      have HR175_2 := AM_ hi175_2
      have HC175_2 := AM_ hl175_2
      clear hi175_2 hl175_2
      have HR175_3 := AM_ hi175_3
      have HC175_3 := AM_ hl175_3
      clear hi175_3 hl175_3
      replace p175 := eq_true p175
      replace q175 := eq_true q175
      have p176 : 0 ≤ (x5_1 : Int) := DT
      have q176 : x5_1 < (l0.length : Int) := DT
      obtain ⟨ad176, A176_2, c176_2, A176_3, c176_3, e176, hx176_0, hx176_1, hx176_2, hx176_3, hl176_2, hi176_2, hl176_3, hi176_3⟩ := at_T33 HR0.out x5_1 p176 q176
      obtain rfl : ad175 = ad176 := (by injection e176)
      replace hx176_0 := BC HB.out hx176_0
      replace hx176_1 := BC HB.out hx176_1
      replace hx176_2 := BC HB.out hx176_2
      replace hx176_3 := BC HB.out hx176_3
      have HR176_2 := AM_ hi176_2
      have HC176_2 := AM_ hl176_2
      clear hi176_2 hl176_2
      have HR176_3 := AM_ hi176_3
      have HC176_3 := AM_ hl176_3
      clear hi176_3 hl176_3
      replace p176 := eq_true p176
      replace q176 := eq_true q176
      have ea_ := Option.some.inj (hx175_2.symm.trans hx176_2)
      injection ea_ with ea_ en_ ec_
      subst ea_
      subst ec_
      clear en_
      have ea_ := Option.some.inj (hx175_3.symm.trans hx176_3)
      injection ea_ with ea_ en_ ec_
      subst ea_
      subst ec_
      clear en_
      obtain ⟨hcz13_0, hcz13_1, hfz13_0, hfz13_1⟩ := bk2 BK174.out
      go_wp2
      repeat (go_quiet (fail); try go_wp2)
      go_roundg k2
      case measure => have := HK1.out; have := HK2.out; omega
      case rel => exact ⟨(wrap64 (x6_2 + 1)), (by first | rfl | (simp; done) | (simp [*]; done)), H', ⟨by have := HK1.out; have := HK2.out; omega⟩, ⟨BH BK174.out⟩, ⟨BT HB.out⟩⟩
     rw [if_pos c8] at H
     have c8b0 : (((rd_T33 l0 x5_1).f1) == a1_1) = true := beq_iff_eq.mpr c8
     have c8b1 : (((rd_T33 l0 x5_1).f1) != a1_1) = false := bne_eq_false_iff_eq.mpr c8
     clear c8
     replace H := HI H
     obtain ⟨c9, H⟩ := H
     have c9b0 : decide (0 ≤ x6_2) = true := decide_eq_true c9
     clear c9
     by_cases c10 : ((rd_T50 ((rd_T33 l0 x5_1).f3) x6_2).f0) = a1_0
     rotate_left
     ·rw [if_neg c10] at H
      have c10b0 : (((rd_T50 ((rd_T33 l0 x5_1).f3) x6_2).f0) == a1_0) = false := beq_eq_false_iff_ne.mpr c10
      have c10b1 : (((rd_T50 ((rd_T33 l0 x5_1).f3) x6_2).f0) != a1_0) = true := bne_iff_ne.mpr c10
      have H' := AM_ H
      clear H
      have p175 : 0 ≤ (x5_1 : Int) := DT
      have q175 : x5_1 < (l0.length : Int) := DT
      obtain ⟨ad175, A175_2, c175_2, A175_3, c175_3, e175, hx175_0, hx175_1, hx175_2, hx175_3, hl175_2, hi175_2, hl175_3, hi175_3⟩ := at_T33 HR0.out x5_1 p175 q175
      cases e175
      replace hx175_0 := BC HB.out hx175_0
      replace hx175_1 := BC HB.out hx175_1
      replace hx175_2 := BC HB.out hx175_2
      replace hx175_3 := BC HB.out hx175_3
      have HR175_2 := AM_ hi175_2
      have HC175_2 := AM_ hl175_2
      clear hi175_2 hl175_2
      have HR175_3 := AM_ hi175_3
      have HC175_3 := AM_ hl175_3
      clear hi175_3 hl175_3
      replace p175 := eq_true p175
      replace q175 := eq_true q175
      have p176 : 0 ≤ (x5_1 : Int) := DT
      have q176 : x5_1 < (l0.length : Int) := DT
      obtain ⟨ad176, A176_2, c176_2, A176_3, c176_3, e176, hx176_0, hx176_1, hx176_2, hx176_3, hl176_2, hi176_2, hl176_3, hi176_3⟩ := at_T33 HR0.out x5_1 p176 q176
      obtain rfl : ad175 = ad176 := (by injection e176)
      replace hx176_0 := BC HB.out hx176_0
      replace hx176_1 := BC HB.out hx176_1
      replace hx176_2 := BC HB.out hx176_2
      replace hx176_3 := BC HB.out hx176_3
      have HR176_2 := AM_ hi176_2
      have HC176_2 := AM_ hl176_2
      clear hi176_2 hl176_2
      have HR176_3 := AM_ hi176_3
      have HC176_3 := AM_ hl176_3
      clear hi176_3 hl176_3
      replace p176 := eq_true p176
      replace q176 := eq_true q176
      have ea_ := Option.some.inj (hx175_2.symm.trans hx176_2)
      injection ea_ with ea_ en_ ec_
      subst ea_
      subst ec_
      clear en_
      have ea_ := Option.some.inj (hx175_3.symm.trans hx176_3)
      injection ea_ with ea_ en_ ec_
      subst ea_
      subst ec_
      clear en_
      obtain ⟨hcz12_0, hcz12_1, hfz12_0, hfz12_1⟩ := bk2 BK174.out
      have p177 : 0 ≤ (x5_1 : Int) := DT
      have q177 : x5_1 < (l0.length : Int) := DT
      obtain ⟨ad177, A177_2, c177_2, A177_3, c177_3, e177, hx177_0, hx177_1, hx177_2, hx177_3, hl177_2, hi177_2, hl177_3, hi177_3⟩ := at_T33 HR0.out x5_1 p177 q177
      obtain rfl : ad175 = ad177 := (by injection e177)
      replace hx177_0 := BC HB.out hx177_0
      replace hx177_1 := BC HB.out hx177_1
      replace hx177_2 := BC HB.out hx177_2
      replace hx177_3 := BC HB.out hx177_3
      have HR177_2 := AM_ hi177_2
      have HC177_2 := AM_ hl177_2
      clear hi177_2 hl177_2
      have HR177_3 := AM_ hi177_3
      have HC177_3 := AM_ hl177_3
      clear hi177_3 hl177_3
      replace p177 := eq_true p177
      replace q177 := eq_true q177
      have ea_ := Option.some.inj (hx175_2.symm.trans hx177_2)
      injection ea_ with ea_ en_ ec_
      subst ea_
      subst ec_
      clear en_
      have ea_ := Option.some.inj (hx175_3.symm.trans hx177_3)
      injection ea_ with ea_ en_ ec_
      subst ea_
      subst ec_
      clear en_
      have p178 : 0 ≤ (x6_2 : Int) := DT
      have q178 : x6_2 < (((rd_T33 l0 x5_1).f3).length : Int) := DT
      obtain ⟨ad178, e178, hx178_0, hx178_1⟩ := at_T50 HR177_3.out x6_2 p178 q178
      cases e178
      replace hx178_0 := BC HB.out hx178_0
      replace hx178_1 := BC HB.out hx178_1
      replace p178 := eq_true p178
      replace q178 := eq_true q178
      go_wp2
      repeat (go_quiet (fail); try go_wp2)
      go_roundg k2
      case measure => have := HK1.out; have := HK2.out; omega
      case rel => exact ⟨(wrap64 (x6_2 + 1)), (by first | rfl | (simp; done) | (simp [*]; done)), H', ⟨by have := HK1.out; have := HK2.out; omega⟩, ⟨BH BK174.out⟩, ⟨BT HB.out⟩⟩
     rw [if_pos c10] at H
     have c10b0 : (((rd_T50 ((rd_T33 l0 x5_1).f3) x6_2).f0) == a1_0) = true := beq_iff_eq.mpr c10
     have c10b1 : (((rd_T50 ((rd_T33 l0 x5_1).f3) x6_2).f0) != a1_0) = false := bne_eq_false_iff_eq.mpr c10
     clear c10
     obtain rfl := Option.some.inj H
     have p175 : 0 ≤ (x5_1 : Int) := DT
     have q175 : x5_1 < (l0.length : Int) := DT
     obtain ⟨ad175, A175_2, c175_2, A175_3, c175_3, e175, hx175_0, hx175_1, hx175_2, hx175_3, hl175_2, hi175_2, hl175_3, hi175_3⟩ := at_T33 HR0.out x5_1 p175 q175
     cases e175
     replace hx175_0 := BC HB.out hx175_0
     replace hx175_1 := BC HB.out hx175_1
     replace hx175_2 := BC HB.out hx175_2
     replace hx175_3 := BC HB.out hx175_3
     have HR175_2 := AM_ hi175_2
     have HC175_2 := AM_ hl175_2
     clear hi175_2 hl175_2
     have HR175_3 := AM_ hi175_3
     have HC175_3 := AM_ hl175_3
     clear hi175_3 hl175_3
     replace p175 := eq_true p175
     replace q175 := eq_true q175
     have p176 : 0 ≤ (x5_1 : Int) := DT
     have q176 : x5_1 < (l0.length : Int) := DT
     obtain ⟨ad176, A176_2, c176_2, A176_3, c176_3, e176, hx176_0, hx176_1, hx176_2, hx176_3, hl176_2, hi176_2, hl176_3, hi176_3⟩ := at_T33 HR0.out x5_1 p176 q176
     obtain rfl : ad175 = ad176 := (by injection e176)
     replace hx176_0 := BC HB.out hx176_0
     replace hx176_1 := BC HB.out hx176_1
     replace hx176_2 := BC HB.out hx176_2
     replace hx176_3 := BC HB.out hx176_3
     have HR176_2 := AM_ hi176_2
     have HC176_2 := AM_ hl176_2
     clear hi176_2 hl176_2
     have HR176_3 := AM_ hi176_3
     have HC176_3 := AM_ hl176_3
     clear hi176_3 hl176_3
     replace p176 := eq_true p176
     replace q176 := eq_true q176
     have ea_ := Option.some.inj (hx175_2.symm.trans hx176_2)
     injection ea_ with ea_ en_ ec_
     subst ea_
     subst ec_
     clear en_
     have ea_ := Option.some.inj (hx175_3.symm.trans hx176_3)
     injection ea_ with ea_ en_ ec_
     subst ea_
     subst ec_
     clear en_
     obtain ⟨hcz11_0, hcz11_1, hfz11_0, hfz11_1⟩ := bk2 BK174.out
     have p177 : 0 ≤ (x5_1 : Int) := DT
     have q177 : x5_1 < (l0.length : Int) := DT
     obtain ⟨ad177, A177_2, c177_2, A177_3, c177_3, e177, hx177_0, hx177_1, hx177_2, hx177_3, hl177_2, hi177_2, hl177_3, hi177_3⟩ := at_T33 HR0.out x5_1 p177 q177
     obtain rfl : ad175 = ad177 := (by injection e177)
     replace hx177_0 := BC HB.out hx177_0
     replace hx177_1 := BC HB.out hx177_1
     replace hx177_2 := BC HB.out hx177_2
     replace hx177_3 := BC HB.out hx177_3
     have HR177_2 := AM_ hi177_2
     have HC177_2 := AM_ hl177_2
     clear hi177_2 hl177_2
     have HR177_3 := AM_ hi177_3
     have HC177_3 := AM_ hl177_3
     clear hi177_3 hl177_3
     replace p177 := eq_true p177
     replace q177 := eq_true q177
     have ea_ := Option.some.inj (hx175_2.symm.trans hx177_2)
     injection ea_ with ea_ en_ ec_
     subst ea_
     subst ec_
     clear en_
     have ea_ := Option.some.inj (hx175_3.symm.trans hx177_3)
     injection ea_ with ea_ en_ ec_
     subst ea_
     subst ec_
     clear en_
     have p178 : 0 ≤ (x6_2 : Int) := DT
     have q178 : x6_2 < (((rd_T33 l0 x5_1).f3).length : Int) := DT
     obtain ⟨ad178, e178, hx178_0, hx178_1⟩ := at_T50 HR177_3.out x6_2 p178 q178
     cases e178
     replace hx178_0 := BC HB.out hx178_0
     replace hx178_1 := BC HB.out hx178_1
     replace p178 := eq_true p178
     replace q178 := eq_true q178
     have p179 : 0 ≤ (x5_1 : Int) := DT
     have q179 : x5_1 < (l0.length : Int) := DT
     obtain ⟨ad179, A179_2, c179_2, A179_3, c179_3, e179, hx179_0, hx179_1, hx179_2, hx179_3, hl179_2, hi179_2, hl179_3, hi179_3⟩ := at_T33 HR0.out x5_1 p179 q179
     obtain rfl : ad175 = ad179 := (by injection e179)
     replace hx179_0 := BC HB.out hx179_0
     replace hx179_1 := BC HB.out hx179_1
     replace hx179_2 := BC HB.out hx179_2
     replace hx179_3 := BC HB.out hx179_3
     have HR179_2 := AM_ hi179_2
     have HC179_2 := AM_ hl179_2
     clear hi179_2 hl179_2
     have HR179_3 := AM_ hi179_3
     have HC179_3 := AM_ hl179_3
     clear hi179_3 hl179_3
     replace p179 := eq_true p179
     replace q179 := eq_true q179
     have ea_ := Option.some.inj (hx175_2.symm.trans hx179_2)
     injection ea_ with ea_ en_ ec_
     subst ea_
     subst ec_
     clear en_
     have ea_ := Option.some.inj (hx175_3.symm.trans hx179_3)
     injection ea_ with ea_ en_ ec_
     subst ea_
     subst ec_
     clear en_
     go_wp2
     repeat (go_quiet (fail); try go_wp2)
     go_ret
     exact QT (BT HB.out)

end Go.Proofs.YtdfbmaiboadodaaGreatDoor.PFnExactParseHistory
