-- Printed by a program of mine (wip/myprint.py), which runs the printer of the kit with contracts of mine beside it.
import Derived.Test.YtgpmfkmdchcagaaDoorPFnExactParseOpsx0
import Derived.Test.YtgpmfkmdchcagaaDoorPFnExactParseOpsx2
import Derived.Test.YtgpmfkmdchcagaaDoorPFnExactParseOpsx3
import Derived.Test.YtgpmfkmdchcagaaDoorPFnExactParseOpsx5
namespace Go.Proofs.YtgpmfkmdchcagaaDoor.PFnExactParseOps
open Go.RowKit Go.Proofs.YtgpmfkmdchcagaaDoorW.PrintWords Go.Proofs.YtgpmfkmdchcagaaDoorW.PrintLast Go.Proofs.YtgpmfkmdchcagaaDoorW.PrintMore
attribute [local go_sem] max2_int min2_int max_two min_two max_three min_three max_four min_four   -- for this text's walks alone
set_option linter.unusedVariables false
set_option linter.unusedSimpArgs false

/-! ### spec_ParseOp: function 16 -/
mutual
def spec_ParseOp.j0 : Nat → ByteArray → List ByteArray → Bool → Option (Int × Int × Int × Int × Int × Int × Bool)
 | 0, _, _, _ => none
 | k + 1, x0, x4, x19 => if x19 = true then (some (0, 0, 0, 0, 0, 0, false)) else (if 0 < (x4.length : Int) then (if 1 < ((rdOf ByteArray.empty x4 0).size : Int) then (spec_ParseOp.l0 k x0 x4 (([0, 0] : List Int)) 1 0 (wrap64 ((wrap64 (bt (rdOf ByteArray.empty x4 0) 1)) - 48)) 0 0 0 0) else (none)) else (none))
def spec_ParseOp.l0 : Nat → ByteArray → List ByteArray → List Int → Int → Int → Int → Int → Int → Int → Int → Option (Int × Int × Int × Int × Int × Int × Bool)
 | 0, _, _, _, _, _, _, _, _, _, _ => none
 | k + 1, x0, x4, x6, x7, x151000, x151001, x151002, x151003, x151004, x151005 => if x7 < (x4.length : Int) then (if 0 ≤ x7 then ((spec_l3Number.f k (rdOf ByteArray.empty x4 x7)).bind fun t155 => (if 0 ≤ (wrap64 (x7 - 1)) then (if (wrap64 (x7 - 1)) < (x6.length : Int) then (spec_ParseOp.l0 k x0 x4 (x6.set ((wrap64 (x7 - 1)) : Int).toNat t155) (wrap64 (x7 + 1)) x151000 x151001 x151002 x151003 x151004 x151005) else (none)) else (none))) else (none)) else (if 0 < (x4.length : Int) then (if 0 < ((rdOf ByteArray.empty x4 0).size : Int) then (if (bt (rdOf ByteArray.empty x4 0) 0) = 98 then (if 0 ≤ (wrap64 ((x4.length : Int) - 1)) then (if (wrap64 ((x4.length : Int) - 1)) < (x4.length : Int) then ((spec_l15Scheme.f k (rdOf ByteArray.empty x4 (wrap64 ((x4.length : Int) - 1)))).bind fun t159 => ((spec_FormatOp.f k 1 x151001 t159 x151003 x151004 x151005).bind fun t160 => (if t160.toList = x0.toList then (some (1, x151001, t159, x151003, x151004, x151005, true)) else (some (0, 0, 0, 0, 0, 0, false))))) else (none)) else (none)) else (if (bt (rdOf ByteArray.empty x4 0) 0) = 114 then (if 0 < (x6.length : Int) then ((spec_FormatOp.f k 2 x151001 x151002 (rd x6 0) x151004 x151005).bind fun t162 => (if t162.toList = x0.toList then (some (2, x151001, x151002, rd x6 0, x151004, x151005, true)) else (some (0, 0, 0, 0, 0, 0, false)))) else (none)) else (if (bt (rdOf ByteArray.empty x4 0) 0) = 119 then (if 0 < (x6.length : Int) then (if 1 < (x6.length : Int) then ((spec_FormatOp.f k 3 x151001 x151002 (rd x6 0) x151004 (rd x6 1)).bind fun t165 => (if t165.toList = x0.toList then (some (3, x151001, x151002, rd x6 0, x151004, rd x6 1, true)) else (some (0, 0, 0, 0, 0, 0, false)))) else (none)) else (none)) else (if (bt (rdOf ByteArray.empty x4 0) 0) = 115 then (if 0 < (x6.length : Int) then (if 1 < (x6.length : Int) then ((spec_FormatOp.f k 4 x151001 x151002 (rd x6 0) (rd x6 1) x151005).bind fun t168 => (if t168.toList = x0.toList then (some (4, x151001, x151002, rd x6 0, rd x6 1, x151005, true)) else (some (0, 0, 0, 0, 0, 0, false)))) else (none)) else (none)) else (if (bt (rdOf ByteArray.empty x4 0) 0) = 99 then ((spec_FormatOp.f k 5 x151001 x151002 x151003 x151004 x151005).bind fun t169 => (if t169.toList = x0.toList then (some (5, x151001, x151002, x151003, x151004, x151005, true)) else (some (0, 0, 0, 0, 0, 0, false)))) else (if (bt (rdOf ByteArray.empty x4 0) 0) = 97 then ((spec_FormatOp.f k 6 x151001 x151002 x151003 x151004 x151005).bind fun t170 => (if t170.toList = x0.toList then (some (6, x151001, x151002, x151003, x151004, x151005, true)) else (some (0, 0, 0, 0, 0, 0, false)))) else ((spec_FormatOp.f k x151000 x151001 x151002 x151003 x151004 x151005).bind fun t171 => (if t171.toList = x0.toList then (some (x151000, x151001, x151002, x151003, x151004, x151005, true)) else (some (0, 0, 0, 0, 0, 0, false)))))))))) else (none)) else (none))
end
def spec_ParseOp.f (k : Nat) (a0 : ByteArray) : Option (Int × Int × Int × Int × Int × Int × Bool) := (spec_l2Cut.f k a0 32).bind fun t145 => (if 0 < (t145.length : Int) then (if ((rdOf ByteArray.empty t145 0).size : Int) = 2 then (spec_ParseOp.j0 k a0 t145 (decide ((t145.length : Int) > 3))) else (spec_ParseOp.j0 k a0 t145 true)) else (none))
theorem spec_ParseOp.mono_l : ∀ k, (∀ y0 y1 y2, LeO (spec_ParseOp.j0 k y0 y1 y2) (spec_ParseOp.j0 (k + 1) y0 y1 y2)) ∧ (∀ y0 y1 y2 y3 y4 y5 y6 y7 y8 y9, LeO (spec_ParseOp.l0 k y0 y1 y2 y3 y4 y5 y6 y7 y8 y9) (spec_ParseOp.l0 (k + 1) y0 y1 y2 y3 y4 y5 y6 y7 y8 y9))
 | 0 => ⟨fun _ _ _ r h => by simp [spec_ParseOp.j0] at h, fun _ _ _ _ _ _ _ _ _ _ r h => by simp [spec_ParseOp.l0] at h⟩
 | k + 1 => by
  obtain ⟨ih0, ih1⟩ := spec_ParseOp.mono_l k
  refine ⟨?_, ?_⟩
  ·intro y0 y1 y2
   unfold spec_ParseOp.j0
   repeat' first
   | (with_reducible exact ih0 _ _ _)
   | (with_reducible exact ih1 _ _ _ _ _ _ _ _ _ _)
   | (with_reducible exact spec_FormatOp.mono _ _ _ _ _ _ _)
   | (with_reducible exact spec_l15Scheme.mono _ _)
   | (with_reducible exact spec_l2Cut.mono _ _ _)
   | (with_reducible exact spec_l3Number.mono _ _)
   | (with_reducible exact LeO.refl _)
   | (with_reducible exact LeO.none _)
   | (with_reducible refine LeO.ite ?_ ?_)
   | (with_reducible refine LeO.bind ?_ (fun _ => ?_))
   | exact ih0 _ _ _
   | exact ih1 _ _ _ _ _ _ _ _ _ _
   | exact spec_FormatOp.mono _ _ _ _ _ _ _
   | exact spec_l15Scheme.mono _ _
   | exact spec_l2Cut.mono _ _ _
   | exact spec_l3Number.mono _ _
   | exact LeO.none _
   | refine LeO.ite ?_ ?_
   | refine LeO.bind ?_ (fun _ => ?_)
  ·intro y0 y1 y2 y3 y4 y5 y6 y7 y8 y9
   unfold spec_ParseOp.l0
   repeat' first
   | (with_reducible exact ih0 _ _ _)
   | (with_reducible exact ih1 _ _ _ _ _ _ _ _ _ _)
   | (with_reducible exact spec_FormatOp.mono _ _ _ _ _ _ _)
   | (with_reducible exact spec_l15Scheme.mono _ _)
   | (with_reducible exact spec_l2Cut.mono _ _ _)
   | (with_reducible exact spec_l3Number.mono _ _)
   | (with_reducible exact LeO.refl _)
   | (with_reducible exact LeO.none _)
   | (with_reducible refine LeO.ite ?_ ?_)
   | (with_reducible refine LeO.bind ?_ (fun _ => ?_))
   | exact ih0 _ _ _
   | exact ih1 _ _ _ _ _ _ _ _ _ _
   | exact spec_FormatOp.mono _ _ _ _ _ _ _
   | exact spec_l15Scheme.mono _ _
   | exact spec_l2Cut.mono _ _ _
   | exact spec_l3Number.mono _ _
   | exact LeO.none _
   | refine LeO.ite ?_ ?_
   | refine LeO.bind ?_ (fun _ => ?_)
theorem spec_ParseOp.mono : ∀ a0 k, LeO (spec_ParseOp.f k a0) (spec_ParseOp.f (k + 1) a0) := by
 intro a0 k
 obtain ⟨ih0, ih1⟩ := spec_ParseOp.mono_l k
 unfold spec_ParseOp.f
 repeat' first
   | (with_reducible exact ih0 _ _ _)
   | (with_reducible exact ih1 _ _ _ _ _ _ _ _ _ _)
   | (with_reducible exact spec_FormatOp.mono _ _ _ _ _ _ _)
   | (with_reducible exact spec_l15Scheme.mono _ _)
   | (with_reducible exact spec_l2Cut.mono _ _ _)
   | (with_reducible exact spec_l3Number.mono _ _)
   | (with_reducible exact LeO.refl _)
   | (with_reducible exact LeO.none _)
   | (with_reducible refine LeO.ite ?_ ?_)
   | (with_reducible refine LeO.bind ?_ (fun _ => ?_))
   | exact ih0 _ _ _
   | exact ih1 _ _ _ _ _ _ _ _ _ _
   | exact spec_FormatOp.mono _ _ _ _ _ _ _
   | exact spec_l15Scheme.mono _ _
   | exact spec_l2Cut.mono _ _ _
   | exact spec_l3Number.mono _ _
   | exact LeO.none _
   | refine LeO.ite ?_ ?_
   | refine LeO.bind ?_ (fun _ => ?_)
set_option maxHeartbeats 8000000 in
set_option maxRecDepth 100000 in
theorem spec_ParseOp.calls (k : Nat) (a0 : ByteArray) (r1 : Int) (r2 : Int) (r3 : Int) (r4 : Int) (r5 : Int) (r6 : Int) (r7 : Bool) (w : World) (h : spec_ParseOp.f k a0 = some (r1, r2, r3, r4, r5, r6, r7)) :
  Calls Tryd.prog 16 #[.string a0] w fun e w' => e = .returned (.tuple #[.agg #[.int .i64 r1, .int .i64 r2, .int .i64 r3, .int .i64 r4, .int .i64 r5, .int .i64 r6], .bool r7]) ∧ Below w.heap.size w w' := by
 have hu36 := Tryd.underlying36
 have HB := AM_ (Below.refl w.heap.size w)
 have H : ((spec_l2Cut.f k a0 32).bind fun t145 => (if 0 < (t145.length : Int) then (if ((rdOf ByteArray.empty t145 0).size : Int) = 2 then (spec_ParseOp.j0 k a0 t145 (decide ((t145.length : Int) > 3))) else (spec_ParseOp.j0 k a0 t145 true)) else (none))) = some (r1, r2, r3, r4, r5, r6, r7) := h
 clear h
 replace H := Option.bind_eq_some_iff.mp H
 obtain ⟨t145, A20, H⟩ := H
 replace H : (if 0 < (t145.length : Int) then (if ((rdOf ByteArray.empty t145 0).size : Int) = 2 then (spec_ParseOp.j0 k a0 t145 (decide ((t145.length : Int) > 3))) else (spec_ParseOp.j0 k a0 t145 true)) else (none)) = some (r1, r2, r3, r4, r5, r6, r7) := H
 have A2 := AM_ A20
 clear A20
 have HC3 := AM_ H
 clear H
 go_enter Tryd.func16, Tryd.ntmps16
 go_upto_region 2 with (first | ((with_reducible refine gate_dst (N := 2) rfl ?_); (try (refine gate_guard (by rfl) ?_; dsimp only)); refine box_event ?hg (N := 2) ?hd (cs := #[.int .i64 0, .int .i64 0, .int .i64 0, .int .i64 0, .int .i64 0, .int .i64 0]) (t := 36) ?hr ?_; (case hd => rfl); (case hg => rfl); (case hr => first | (go_simp; done) | (go_simp; rfl)); intro gb144 hg w4 hbox hb; have BK144 := AM_ (hbox); have GW144 := AM_ ((GS HB.out hg)); have GE144 := AM_ ((GS HB.out hg)); replace HB := AM_ (below_step (BT HB.out) hb); clear hb hbox hg) | ((with_reducible refine gate_callee (f := 19) rfl ?_); refine goesL_ (some 9) rfl rfl Tryd.func19 (by kernel_rfl) rfl #[.string a0, .int .u8 32] rfl (by (try simp only [List.map_toArray, List.map_cons, List.map_nil]); first | done | rfl | (simp only [List.length_drop, List.length_take]; rfl)) ?_; (with_reducible refine (spec_l2Cut.calls k a0 32 t145 _ A2.out).mono ?_); rintro e w5 ⟨v146, rfl, ho0, hb⟩; refine ⟨_, rfl, ?_⟩; have HO147 := AM_ (Kd.R_lower ho0 (below_size (BT HB.out))); replace BK144 := AM_ (BB BK144.out hb); replace HB := AM_ (below_step (BT HB.out) hb); (try clear hb); (try clear hb2); (try clear hk); (try clear hi); (try clear ho0)))
 (try simp only [pA, pS, pZ, pK])
 go_cut [19] (fun v19 wc => ∃ (kq : Nat) (x19_2 : Bool), v19 = .bool x19_2 ∧ Aside0 (spec_ParseOp.j0 kq a0 t145 x19_2 = some (r1, r2, r3, r4, r5, r6, r7)) ∧ Aside0 (kq ≤ k) ∧ Aside0 (Kd.R Kd.string 9 wc w.heap.size (fun _ => True) v146 t145) ∧ Aside0 (wc.heap[gb144]? = some (.cells #[.int .i64 0, .int .i64 0, .int .i64 0, .int .i64 0, .int .i64 0, .int .i64 0] 36 (0, 0))) ∧ Aside0 (Below w.heap.size w wc))
 case first =>
  have H := HC3.out
  clear HC3
  by_cases c6 : 0 < (t145.length : Int)
  rotate_left
  ·rw [if_neg c6] at H
   exact absurd H (by simp)
  rw [if_pos c6] at H
  have c6b0 : decide (0 < (t145.length : Int)) = true := decide_eq_true c6
  have c6b1 : decide (0 < t145.length) = true := decide_eq_true (by omega)
  clear c6
  (first | rw [c6b0] | (simp only [i64_w, i32_w]; rw [c6b0]) | skip)
  by_cases c7 : ((rdOf ByteArray.empty t145 0).size : Int) = 2
  rotate_left
  ·rw [if_neg c7] at H
   have c7b0 : (((rdOf ByteArray.empty t145 0).size : Int) == 2) = false := beq_eq_false_iff_ne.mpr c7
   have c7b1 : (((rdOf ByteArray.empty t145 0).size : Int) != 2) = true := bne_iff_ne.mpr c7
   have H' := AM_ H
   clear H
   obtain ⟨Ao9, co9, eo9⟩ := Kd.R_slice HO147.out
   subst eo9
   have p148 : 0 ≤ (0 : Int) := (by omega)
   have q148 : 0 < (t145.length : Int) := DT
   obtain ⟨ad148, e148, hx148_0⟩ := Kd.at_string (Kd.R_reads' HO147.out).2.2 0 p148 q148
   cases e148
   have qi148 : (0 < t145.length) = True := eq_true (by omega)
   (try rw [show ((0 : Int)).toNat = 0 from rfl] at hx148_0)
   (try rw [Addr.add_zero'] at hx148_0)
   replace p148 := eq_true p148
   replace q148 := eq_true q148
   go_wp2
   go_meet
   case rel => exact ⟨_, (true), (by first | rfl | (simp; done) | (simp [*]; done)), H', ⟨by first | omega | exact Nat.le_refl _⟩, ⟨RT HO147.out⟩, ⟨BH BK144.out⟩, ⟨BT HB.out⟩⟩
  rw [if_pos c7] at H
  have c7b0 : (((rdOf ByteArray.empty t145 0).size : Int) == 2) = true := beq_iff_eq.mpr c7
  have c7b1 : (((rdOf ByteArray.empty t145 0).size : Int) != 2) = false := bne_eq_false_iff_eq.mpr c7
  clear c7
  have H' := AM_ H
  clear H
  obtain ⟨Ao8, co8, eo8⟩ := Kd.R_slice HO147.out
  subst eo8
  have p148 : 0 ≤ (0 : Int) := (by omega)
  have q148 : 0 < (t145.length : Int) := DT
  obtain ⟨ad148, e148, hx148_0⟩ := Kd.at_string (Kd.R_reads' HO147.out).2.2 0 p148 q148
  cases e148
  have qi148 : (0 < t145.length) = True := eq_true (by omega)
  (try rw [show ((0 : Int)).toNat = 0 from rfl] at hx148_0)
  (try rw [Addr.add_zero'] at hx148_0)
  replace p148 := eq_true p148
  replace q148 := eq_true q148
  go_wp2
  go_meet
  case rel => exact ⟨_, (decide ((t145.length : Int) > 3)), (by first | rfl | (simp; done) | (simp [*]; done)), H', ⟨by first | omega | exact Nat.le_refl _⟩, ⟨RT HO147.out⟩, ⟨BH BK144.out⟩, ⟨BT HB.out⟩⟩
 case rest =>
  clear HC3
  try clear c1
  try clear p1
  try clear q1
  try clear hx1
  try clear qi1
  try clear p2
  try clear c6
  try clear c6b0
  try clear c6b1
  try clear c7
  try clear c7b0
  try clear c7b1
  try clear hx148_0
  try clear p148
  try clear q148
  obtain ⟨kq, x19_2, rfl, HA, HJ2, HO_4, BK144, HB⟩ := hcut
  cases kq with
  | zero => exact absurd HA.out (by simp [spec_ParseOp.j0])
  | succ kj2 =>
   have H := HA.out
   clear HA
   simp only [spec_ParseOp.j0] at H
   by_cases c10 : x19_2 = true
   ·subst c10
    have H1 : (some (0, 0, 0, 0, 0, 0, false)) = some (r1, r2, r3, r4, r5, r6, r7) := by rw [if_pos rfl] at H; exact H
    clear H
    have H := H1
    clear H1
    simp only [Option.some.injEq, Prod.mk.injEq] at H
    obtain ⟨rfl, rfl, rfl, rfl, rfl, rfl, rfl⟩ := H
    obtain ⟨hcz11_0, hcz11_1, hcz11_2, hcz11_3, hcz11_4, hcz11_5, hfz11_0, hfz11_1, hfz11_2, hfz11_3, hfz11_4, hfz11_5⟩ := bk6 BK144.out
    go_wp2
    refine bodyPost_ret (results_ct rfl _ _ gb144 36 #[.int .i64 0, .int .i64 0, .int .i64 0, .int .i64 0, .int .i64 0, .int .i64 0] (0, 0) _ rfl (by (with_reducible repeat (first | refine blk_drewN ?_ _ | refine blk_drew ?_ | refine blk_alloc ?_ _)); refine blk_put (cs := #[.int .i64 0, .int .i64 0, .int .i64 0, .int .i64 0, .int .i64 0, .int .i64 0]) ?_ 5 _ rfl; (with_reducible repeat (first | refine blk_drewN ?_ _ | refine blk_drew ?_ | refine blk_alloc ?_ _)); refine blk_put (cs := #[.int .i64 0, .int .i64 0, .int .i64 0, .int .i64 0, .int .i64 0, .int .i64 0]) ?_ 4 _ rfl; (with_reducible repeat (first | refine blk_drewN ?_ _ | refine blk_drew ?_ | refine blk_alloc ?_ _)); refine blk_put (cs := #[.int .i64 0, .int .i64 0, .int .i64 0, .int .i64 0, .int .i64 0, .int .i64 0]) ?_ 3 _ rfl; (with_reducible repeat (first | refine blk_drewN ?_ _ | refine blk_drew ?_ | refine blk_alloc ?_ _)); refine blk_put (cs := #[.int .i64 0, .int .i64 0, .int .i64 0, .int .i64 0, .int .i64 0, .int .i64 0]) ?_ 2 _ rfl; (with_reducible repeat (first | refine blk_drewN ?_ _ | refine blk_drew ?_ | refine blk_alloc ?_ _)); refine blk_put (cs := #[.int .i64 0, .int .i64 0, .int .i64 0, .int .i64 0, .int .i64 0, .int .i64 0]) ?_ 1 _ rfl; (with_reducible repeat (first | refine blk_drewN ?_ _ | refine blk_drew ?_ | refine blk_alloc ?_ _)); refine blk_put (cs := #[.int .i64 0, .int .i64 0, .int .i64 0, .int .i64 0, .int .i64 0, .int .i64 0]) ?_ 0 _ rfl; (with_reducible repeat (first | refine blk_drewN ?_ _ | refine blk_drew ?_ | refine blk_alloc ?_ _)); exact BK144.out) Tryd.underlying36 rfl (by kernel_rfl)) rfl ?_
    exact QT (BT HB.out)
   replace c10 := Bool.eq_false_iff.mpr c10
   subst c10
   have H1 : (if 0 < (t145.length : Int) then (if 1 < ((rdOf ByteArray.empty t145 0).size : Int) then (spec_ParseOp.l0 kj2 a0 t145 (([0, 0] : List Int)) 1 0 (wrap64 ((wrap64 (bt (rdOf ByteArray.empty t145 0) 1)) - 48)) 0 0 0 0) else (none)) else (none)) = some (r1, r2, r3, r4, r5, r6, r7) := by rw [if_neg (show ¬ (false = true) by decide)] at H; exact H
   clear H
   have H := H1
   clear H1
   by_cases c12 : 0 < (t145.length : Int)
   rotate_left
   ·rw [if_neg c12] at H
    exact absurd H (by simp)
   rw [if_pos c12] at H
   have c12b0 : decide (0 < (t145.length : Int)) = true := decide_eq_true c12
   have c12b1 : decide (0 < t145.length) = true := decide_eq_true (by omega)
   clear c12
   by_cases c13 : 1 < ((rdOf ByteArray.empty t145 0).size : Int)
   rotate_left
   ·rw [if_neg c13] at H
    exact absurd H (by simp)
   rw [if_pos c13] at H
   have c13b0 : decide (1 < ((rdOf ByteArray.empty t145 0).size : Int)) = true := decide_eq_true c13
   have c13b1 : decide (1 < (rdOf ByteArray.empty t145 0).size) = true := decide_eq_true (by omega)
   clear c13
   obtain ⟨y151, hy151⟩ : ∃ y_ : List Int, y_ = (([0, 0] : List Int)) := ⟨_, rfl⟩
   replace H : (spec_ParseOp.l0 kj2 a0 t145 y151 1 0 (wrap64 ((wrap64 (bt (rdOf ByteArray.empty t145 0) 1)) - 48)) 0 0 0 0) = some (r1, r2, r3, r4, r5, r6, r7) := by first | (rw [hy151]; with_reducible exact H) | (have H2_ := (Option.bind_some _ _).symm.trans H; rw [hy151]; with_reducible exact H2_) | (have H2_ := (Option.bind_some _ _).symm.trans H; with_reducible exact H2_) | with_reducible exact H | (rw [hy151]; exact H) | exact H
   have Ny151 := AM_ hy151
   clear hy151
   have H' := AM_ H
   clear H
   obtain ⟨Ao15, co15, eo15⟩ := Kd.R_slice HO_4.out
   subst eo15
   have p149 : 0 ≤ (0 : Int) := (by omega)
   have q149 : 0 < (t145.length : Int) := DT
   obtain ⟨ad149, e149, hx149_0⟩ := Kd.at_string (Kd.R_reads' HO_4.out).2.2 0 p149 q149
   cases e149
   have qi149 : (0 < t145.length) = True := eq_true (by omega)
   (try rw [show ((0 : Int)).toNat = 0 from rfl] at hx149_0)
   (try rw [Addr.add_zero'] at hx149_0)
   replace p149 := eq_true p149
   replace q149 := eq_true q149
   have p14 : 0 ≤ (1 : Int) := (by omega)
   have q14 : 1 < (rdOf ByteArray.empty t145 0).size := (by have : (1 : Int) < ((rdOf ByteArray.empty t145 0).size : Int) := DT; omega)
   have hx14 : ∀ h : 1 < (rdOf ByteArray.empty t145 0).size, (((rdOf ByteArray.empty t145 0)[1]'h).toNat : Int) = bt (rdOf ByteArray.empty t145 0) 1 := bt_at (rdOf ByteArray.empty t145 0) 1
   clear p14
   have qi14 : (1 < ((rdOf ByteArray.empty t145 0).size : Int)) = True := eq_true (DT)
   replace q14 := eq_true q14
   go_wp2_with (first | ((with_reducible refine gate_dst (N := 5) rfl ?_); (try (refine gate_guard (by rfl) ?_; dsimp only)); refine box_event ?hg (N := 5) ?hd (cs := #[.int .i64 0, .int .i64 0, .int .i64 0, .int .i64 0, .int .i64 0, .int .i64 0]) (t := 36) ?hr ?_; (case hd => rfl); (case hg => rfl); (case hr => first | (go_simp; done) | (go_simp; rfl)); intro gb150 hg w16 hbox hb; replace HO_4 := AM_ (Kd.R_below (RT HO_4.out) hb); have BK150 := AM_ (hbox); have GW150 := AM_ ((GS HB.out hg)); have GE150 := AM_ ((GS HB.out hg)); replace HB := AM_ (below_step (BT HB.out) hb); have NB144_150 := AM_ ((NL BK144.out hg)); have NB150_144 := AM_ ((NG BK144.out hg)); replace BK144 := AM_ (BB BK144.out hb); clear hb hbox hg; have hnb17 := NB150_144.out; have hnc17 := NB144_150.out; obtain ⟨hcz18_0, hcz18_1, hcz18_2, hcz18_3, hcz18_4, hcz18_5, hfz18_0, hfz18_1, hfz18_2, hfz18_3, hfz18_4, hfz18_5⟩ := bk6 BK150.out) | ((with_reducible refine gate_dst (N := 28) rfl ?_); (try (refine gate_guard (by rfl) ?_; dsimp only)); refine Kd.R_lit (Kd.int .i64) _ 3 ?hg (N := 28) ?hd (xs := ([0, 0] : List Int)) (inner := [.int .i64 0, .int .i64 0]) (ok := fun _ => True) (okp := fun _ => True) ?hr ?hp (fun _ hk => hk) trivial (Below.refl _ _) (Nat.le_refl _) (by simp) ?_; (case hd => rfl); (case hg => rfl); (case hr => first | (go_simp; done) | (go_simp; rfl)); (case hp => exact (Reps.one (show Kd.M (Kd.int .i64) _ _ _ 0 [.int .i64 0] from rfl) (Reps.one (show Kd.M (Kd.int .i64) _ _ _ 0 [.int .i64 0] from rfl) (Reps.none _ _)))); intro v152 w19 ho20 hb hg_ hnew_; clear hg_ hnew_; (first | rw [← Ny151.out] at ho20 | (simp only [Int.reduceToNat] at ho20; rw [← Ny151.out] at ho20)); replace HO_4 := AM_ (Kd.R_below (RF HO_4.out BK150.out) hb); have HO153 := AM_ (Kd.R_lower ho20 (below_size (BT HB.out))); replace BK144 := AM_ (BF BK144.out NB144_150.out hb); replace BK150 := AM_ (BP #[.int .i64 0, .int .i64 (wrap64 ((wrap64 (bt (rdOf ByteArray.empty t145 0) 1)) - 48)), .int .i64 0, .int .i64 0, .int .i64 0, .int .i64 0] BK150.out hb); replace HB := AM_ (below_step (BT HB.out) hb); clear hb ho20))
   go_loopg [7] kj2 (fun kq v7 w' => ∃ (x6_2 : List Int) (x7_2 : Int), v7 = .int .i64 x7_2 ∧ Aside0 (spec_ParseOp.l0 kq a0 t145 x6_2 x7_2 0 (wrap64 ((wrap64 (bt (rdOf ByteArray.empty t145 0) 1)) - 48)) 0 0 0 0 = some (r1, r2, r3, r4, r5, r6, r7)) ∧ Aside0 (kq ≤ kj2) ∧ Aside0 (Kd.R Kd.string 9 w' w.heap.size (fun _ => True) (.slice (some ad149) t145.length co15) t145) ∧ Aside0 (Kd.R (Kd.int .i64) 3 w' w.heap.size (fun _ => True) v152 x6_2) ∧ Aside0 (w'.heap[gb144]? = some (.cells #[.int .i64 0, .int .i64 0, .int .i64 0, .int .i64 0, .int .i64 0, .int .i64 0] 36 (0, 0))) ∧ Aside0 (w'.heap[gb150]? = some (.cells #[.int .i64 0, .int .i64 (wrap64 ((wrap64 (bt (rdOf ByteArray.empty t145 0) 1)) - 48)), .int .i64 0, .int .i64 0, .int .i64 0, .int .i64 0] 36 (0, 0))) ∧ Aside0 (Below w.heap.size w w'))
   case atStart => exact ⟨(y151), (1), (by first | rfl | (simp; done) | (simp [*]; done)), H', ⟨Nat.le_refl _⟩, ⟨RT HO_4.out⟩, ⟨RT HO153.out⟩, ⟨BH BK144.out⟩, ⟨BH BK150.out⟩, ⟨BT HB.out⟩⟩
   case round =>
    clear H'
    try clear c1
    try clear p1
    try clear q1
    try clear hx1
    try clear qi1
    try clear p2
    try clear c6
    try clear c6b0
    try clear c6b1
    try clear p6
    try clear c7
    try clear c7b0
    try clear c7b1
    try clear c10
    try clear c12
    try clear c12b0
    try clear c12b1
    try clear c13
    try clear c13b0
    try clear c13b1
    try clear p14
    try clear q14
    try clear hx14
    try clear qi14
    try clear c16
    try clear c17
    try clear c19
    try clear hcz11_0
    try clear hcz11_1
    try clear hcz11_2
    try clear hcz11_3
    try clear hcz11_4
    try clear hcz11_5
    try clear hcz18_0
    try clear hcz18_1
    try clear hcz18_2
    try clear hcz18_3
    try clear hcz18_4
    try clear hcz18_5
    try clear hfz11_0
    try clear hfz11_1
    try clear hfz11_2
    try clear hfz11_3
    try clear hfz11_4
    try clear hfz11_5
    try clear hfz18_0
    try clear hfz18_1
    try clear hfz18_2
    try clear hfz18_3
    try clear hfz18_4
    try clear hfz18_5
    try clear hx148_0
    try clear hx149_0
    try clear p1
    try clear p14
    try clear p148
    try clear p149
    try clear p2
    try clear q1
    try clear q14
    try clear q148
    try clear q149
    obtain ⟨x6_2, x7_2, rfl, HA, HK2, HO_4, HO_6, BK144, BK150, HB⟩ := hrel
    cases gk with
    | zero => exact absurd HA.out (by simp [spec_ParseOp.l0])
    | succ k2 =>
     have H := HA.out
     clear HA
     simp only [spec_ParseOp.l0] at H
     by_cases c21 : x7_2 < (t145.length : Int)
     ·rw [if_pos c21] at H
      have c21b0 : decide (x7_2 < (t145.length : Int)) = true := decide_eq_true c21
      clear c21
      by_cases c22 : 0 ≤ x7_2
      rotate_left
      ·rw [if_neg c22] at H
       exact absurd H (by simp)
      rw [if_pos c22] at H
      have c22b0 : decide (0 ≤ x7_2) = true := decide_eq_true c22
      clear c22
      replace H := Option.bind_eq_some_iff.mp H
      obtain ⟨t155, A230, H⟩ := H
      replace H : (if 0 ≤ (wrap64 (x7_2 - 1)) then (if (wrap64 (x7_2 - 1)) < (x6_2.length : Int) then (spec_ParseOp.l0 k2 a0 t145 (x6_2.set ((wrap64 (x7_2 - 1)) : Int).toNat t155) (wrap64 (x7_2 + 1)) 0 (wrap64 ((wrap64 (bt (rdOf ByteArray.empty t145 0) 1)) - 48)) 0 0 0 0) else (none)) else (none)) = some (r1, r2, r3, r4, r5, r6, r7) := H
      have A23 := AM_ A230
      clear A230
      obtain ⟨ji24, hji24⟩ : ∃ j_ : Int, (wrap64 (x7_2 - 1)) = j_ := ⟨_, rfl⟩
      replace H : (if 0 ≤ (ji24) then (if (ji24) < (x6_2.length : Int) then (spec_ParseOp.l0 k2 a0 t145 (x6_2.set ((ji24) : Int).toNat t155) (wrap64 (x7_2 + 1)) 0 (wrap64 ((wrap64 (bt (rdOf ByteArray.empty t145 0) 1)) - 48)) 0 0 0 0) else (none)) else (none)) = some (r1, r2, r3, r4, r5, r6, r7) := by first | (rw [hji24] at H; exact H) | (simp only [hji24] at H ⊢; exact H)
      (try rw [hji24] at A23)
      have hji24w : (IntKind.i64.wrap (x7_2 - 1)) = ji24 := (i64_w _).trans hji24
      by_cases c25 : 0 ≤ (ji24)
      rotate_left
      ·rw [if_neg c25] at H
       exact absurd H (by simp)
      rw [if_pos c25] at H
      have c25b0 : decide (0 ≤ (ji24)) = true := decide_eq_true c25
      clear c25
      by_cases c26 : (ji24) < (x6_2.length : Int)
      rotate_left
      ·rw [if_neg c26] at H
       exact absurd H (by simp)
      rw [if_pos c26] at H
      have c26b0 : decide ((ji24) < (x6_2.length : Int)) = true := decide_eq_true c26
      clear c26
      obtain ⟨y156, hy156⟩ : ∃ y_ : List Int, y_ = (x6_2.set ((ji24) : Int).toNat t155) := ⟨_, rfl⟩
      replace H : (spec_ParseOp.l0 k2 a0 t145 y156 (wrap64 (x7_2 + 1)) 0 (wrap64 ((wrap64 (bt (rdOf ByteArray.empty t145 0) 1)) - 48)) 0 0 0 0) = some (r1, r2, r3, r4, r5, r6, r7) := by first | (rw [hy156]; with_reducible exact H) | (have H2_ := (Option.bind_some _ _).symm.trans H; rw [hy156]; with_reducible exact H2_) | (have H2_ := (Option.bind_some _ _).symm.trans H; with_reducible exact H2_) | with_reducible exact H | (rw [hy156]; exact H) | exact H
      have Ny156 := AM_ hy156
      clear hy156
      have H' := AM_ H
      clear H
      have p154 : 0 ≤ (x7_2 : Int) := DT
      have q154 : x7_2 < (t145.length : Int) := DT
      obtain ⟨ad154, e154, hx154_0⟩ := Kd.at_string (Kd.R_reads' HO_4.out).2.2 x7_2 p154 q154
      obtain rfl : ad149 = ad154 := (by injection e154)
      replace p154 := eq_true p154
      replace q154 := eq_true q154
      go_wp2_with (first | ((with_reducible refine gate_callee (f := 31) rfl ?_); refine goesL_ (some 42) rfl rfl Tryd.func31 (by kernel_rfl) rfl #[.string (rdOf ByteArray.empty t145 x7_2)] rfl (by (try simp only [List.map_toArray, List.map_cons, List.map_nil]); first | done | rfl | (simp only [List.length_drop, List.length_take]; rfl)) ?_; (with_reducible refine (spec_l3Number.calls k2 (rdOf ByteArray.empty t145 x7_2) t155 _ A23.out).mono ?_); rintro e w28 ⟨rfl, hb⟩; refine ⟨_, rfl, ?_⟩; replace HO_4 := AM_ (Kd.R_below (RT HO_4.out) hb); replace HO_6 := AM_ (Kd.R_below (RT HO_6.out) hb); replace BK144 := AM_ (BB BK144.out hb); replace BK150 := AM_ (BB BK150.out hb); replace HB := AM_ (below_step (BT HB.out) hb); (try clear hb); (try clear hb2); (try clear hk); (try clear hi); have p27 : 0 ≤ ((ji24) : Int) := DT; have q27 : ((ji24) : Int) < ((x6_2.length : Int) : Int) := DT; obtain ⟨go27, co27, eo27, gb27, gl27, cl27, HG27⟩ := Kd.R_form HO_6.out (by omega); (first | cases eo27 | (injection eo27 with ea_ en_ ec_; (first | subst ea_ | (injection ea_ with ea_; subst ea_)); subst ec_; clear en_)); have GB27 := AM_ gb27; have GG27 := AM_ HG27; clear gb27 gl27 HG27; obtain ⟨hx27_0, hf27_0⟩ := Kd.R_celln 0 HO_6.out ((ji24) : Int) p27 q27; replace p27 := eq_true p27; replace q27 := eq_true q27; obtain ⟨hy29_, hz29_⟩ := Kd.R_celln 0 HO_6.out ((ji24) : Int) (DT) (DT); have HP29 := Kd.R_putg HO_6.out ((ji24) : Int) t155) | ((with_reducible refine gate_store (t := 3) (p := 43) rfl ?_); refine store_event (t := 3) (p := 43) (v := ?vo_w30) (w1 := (w28.setCell ⟨go27, ((ji24) : Int).toNat, none⟩ (.int .i64 t155))) ?hg ?ho ?hn ?hr ?_; (case ho => rfl); (case hg => rfl); (case hn => rfl); (case hr => first | (go_simp; done) | (go_simp; rfl)); intro w30 hw; have hg : w28.grownBy w30 (some go27) := (by rw [hw]; exact HP29.2); have hp_ : Kd.R (Kd.int .i64) 3 w30 w.heap.size (fun _ => True) (.slice (some ⟨go27, 0, none⟩) x6_2.length co27) y156 := (by rw [hw, Ny156.out]; exact HP29.1); clear HP29; replace HO_4 := AM_ (Kd.R_over' (v := (.slice (some ⟨go27, 0, none⟩) x6_2.length co27)) (RT HO_4.out) (Kd.R_typed HO_6.out) (by decide) hg); replace BK144 := AM_ (blk_grown (g := gb144) (o := .cells #[.int .i64 0, .int .i64 0, .int .i64 0, .int .i64 0, .int .i64 0, .int .i64 0] 36 (0, 0)) (by (with_reducible repeat (first | refine blk_drewN ?_ _ | refine blk_drew ?_ | refine blk_alloc ?_ _)); exact BK144.out) hg (Kd.R_ne HO_6.out BK144.out (by decide))); replace BK150 := AM_ (blk_grown (g := gb150) (o := .cells #[.int .i64 0, .int .i64 (wrap64 ((wrap64 (bt (rdOf ByteArray.empty t145 0) 1)) - 48)), .int .i64 0, .int .i64 0, .int .i64 0, .int .i64 0] 36 (0, 0)) (by (with_reducible repeat (first | refine blk_drewN ?_ _ | refine blk_drew ?_ | refine blk_alloc ?_ _)); exact BK150.out) hg (Kd.R_ne HO_6.out BK150.out (by decide))); replace HO_6 := AM_ (hp_); replace HB := AM_ ((by rw [hw]; exact below_set (HB.out) GB27.out : Below w.heap.size w w30)); clear hg hw hp_))
      go_roundg k2
      case measure => have := HJ2.out; have := HK2.out; omega
      case rel => exact ⟨(y156), (wrap64 (x7_2 + 1)), (by first | rfl | (simp; done) | (simp [*]; done)), H', ⟨by have := HJ2.out; have := HK2.out; omega⟩, ⟨RT HO_4.out⟩, ⟨RT HO_6.out⟩, ⟨BH BK144.out⟩, ⟨BH BK150.out⟩, ⟨BT HB.out⟩⟩
     rw [if_neg c21] at H
     have c21b0 : decide (x7_2 < (t145.length : Int)) = false := decide_eq_false c21
     clear c21
     by_cases c31 : 0 < (t145.length : Int)
     rotate_left
     ·rw [if_neg c31] at H
      exact absurd H (by simp)
     rw [if_pos c31] at H
     have c31b0 : decide (0 < (t145.length : Int)) = true := decide_eq_true c31
     have c31b1 : decide (0 < t145.length) = true := decide_eq_true (by omega)
     clear c31
     by_cases c32 : 0 < ((rdOf ByteArray.empty t145 0).size : Int)
     rotate_left
     ·rw [if_neg c32] at H
      exact absurd H (by simp)
     rw [if_pos c32] at H
     have c32b0 : decide (0 < ((rdOf ByteArray.empty t145 0).size : Int)) = true := decide_eq_true c32
     have c32b1 : decide (0 < (rdOf ByteArray.empty t145 0).size) = true := decide_eq_true (by omega)
     clear c32
     by_cases c34 : (bt (rdOf ByteArray.empty t145 0) 0) = 98
     ·rw [if_pos c34] at H
      have c34b0 : ((bt (rdOf ByteArray.empty t145 0) 0) == 98) = true := beq_iff_eq.mpr c34
      have c34b1 : ((bt (rdOf ByteArray.empty t145 0) 0) != 98) = false := bne_eq_false_iff_eq.mpr c34
      clear c34
      obtain ⟨ji35, hji35⟩ : ∃ j_ : Int, (wrap64 ((t145.length : Int) - 1)) = j_ := ⟨_, rfl⟩
      replace H : (if 0 ≤ (ji35) then (if (ji35) < (t145.length : Int) then ((spec_l15Scheme.f k2 (rdOf ByteArray.empty t145 (ji35))).bind fun t159 => ((spec_FormatOp.f k2 1 (wrap64 ((wrap64 (bt (rdOf ByteArray.empty t145 0) 1)) - 48)) t159 0 0 0).bind fun t160 => (if t160.toList = a0.toList then (some (1, (wrap64 ((wrap64 (bt (rdOf ByteArray.empty t145 0) 1)) - 48)), t159, 0, 0, 0, true)) else (some (0, 0, 0, 0, 0, 0, false))))) else (none)) else (none)) = some (r1, r2, r3, r4, r5, r6, r7) := by first | (rw [hji35] at H; exact H) | (simp only [hji35] at H ⊢; exact H)
      have hji35w : (IntKind.i64.wrap ((t145.length : Int) - 1)) = ji35 := (i64_w _).trans hji35
      by_cases c36 : 0 ≤ (ji35)
      rotate_left
      ·rw [if_neg c36] at H
       exact absurd H (by simp)
      rw [if_pos c36] at H
      have c36b0 : decide (0 ≤ (ji35)) = true := decide_eq_true c36
      clear c36
      by_cases c37 : (ji35) < (t145.length : Int)
      rotate_left
      ·rw [if_neg c37] at H
       exact absurd H (by simp)
      rw [if_pos c37] at H
      have c37b0 : decide ((ji35) < (t145.length : Int)) = true := decide_eq_true c37
      clear c37
      replace H := Option.bind_eq_some_iff.mp H
      obtain ⟨t159, A380, H⟩ := H
      replace H : ((spec_FormatOp.f k2 1 (wrap64 ((wrap64 (bt (rdOf ByteArray.empty t145 0) 1)) - 48)) t159 0 0 0).bind fun t160 => (if t160.toList = a0.toList then (some (1, (wrap64 ((wrap64 (bt (rdOf ByteArray.empty t145 0) 1)) - 48)), t159, 0, 0, 0, true)) else (some (0, 0, 0, 0, 0, 0, false)))) = some (r1, r2, r3, r4, r5, r6, r7) := H
      have A38 := AM_ A380
      clear A380
      replace H := Option.bind_eq_some_iff.mp H
      obtain ⟨t160, A390, H⟩ := H
      replace H : (if t160.toList = a0.toList then (some (1, (wrap64 ((wrap64 (bt (rdOf ByteArray.empty t145 0) 1)) - 48)), t159, 0, 0, 0, true)) else (some (0, 0, 0, 0, 0, 0, false))) = some (r1, r2, r3, r4, r5, r6, r7) := H
      have A39 := AM_ A390
      clear A390
      by_cases c40 : t160.toList = a0.toList
      rotate_left
      ·rw [if_neg c40] at H
       have c40b0 : (t160.toList == a0.toList) = false := beq_eq_false_iff_ne.mpr c40
       have c40b1 : (t160.toList != a0.toList) = true := bne_iff_ne.mpr c40
       simp only [Option.some.injEq, Prod.mk.injEq] at H
       obtain ⟨rfl, rfl, rfl, rfl, rfl, rfl, rfl⟩ := H
       have p157 : 0 ≤ (0 : Int) := (by omega)
       have q157 : 0 < (t145.length : Int) := DT
       obtain ⟨ad157, e157, hx157_0⟩ := Kd.at_string (Kd.R_reads' HO_4.out).2.2 0 p157 q157
       obtain rfl : ad149 = ad157 := (by injection e157)
       have qi157 : (0 < t145.length) = True := eq_true (by omega)
       (try rw [show ((0 : Int)).toNat = 0 from rfl] at hx157_0)
       (try rw [Addr.add_zero'] at hx157_0)
       replace p157 := eq_true p157
       replace q157 := eq_true q157
       have p33 : 0 ≤ (0 : Int) := (by omega)
       have q33 : 0 < (rdOf ByteArray.empty t145 0).size := (by have : (0 : Int) < ((rdOf ByteArray.empty t145 0).size : Int) := DT; omega)
       have hx33 : ∀ h : 0 < (rdOf ByteArray.empty t145 0).size, (((rdOf ByteArray.empty t145 0)[0]'h).toNat : Int) = bt (rdOf ByteArray.empty t145 0) 0 := bt_at (rdOf ByteArray.empty t145 0) 0
       clear p33
       have qi33 : (0 < ((rdOf ByteArray.empty t145 0).size : Int)) = True := eq_true (DT)
       replace q33 := eq_true q33
       have hnb48 := NB150_144.out
       have hnc48 := NB144_150.out
       obtain ⟨hcz49_0, hcz49_1, hcz49_2, hcz49_3, hcz49_4, hcz49_5, hfz49_0, hfz49_1, hfz49_2, hfz49_3, hfz49_4, hfz49_5⟩ := bk6 BK150.out
       have p158 : 0 ≤ ((ji35) : Int) := DT
       have q158 : (ji35) < (t145.length : Int) := DT
       obtain ⟨ad158, e158, hx158_0⟩ := Kd.at_string (Kd.R_reads' HO_4.out).2.2 (ji35) p158 q158
       obtain rfl : ad149 = ad158 := (by injection e158)
       have hn158_0 : ad149.block ≠ gb150 := Kd.own_blk (Kd.R_ne HO_4.out BK150.out (by decide))
       replace hx158_0 := (cell_far (p := ⟨gb150, 0, none⟩) (by first | (rw [add_block]; exact hn158_0) | (show (Addr.add _ _).block ≠ _; rw [add_block]; exact hn158_0) | exact hn158_0) (.int .i64 1)).trans hx158_0
       clear hn158_0
       replace p158 := eq_true p158
       replace q158 := eq_true q158
       go_wp2_with (first | ((with_reducible refine gate_callee (f := 32) rfl ?_); refine goesL_ (some 57) rfl rfl Tryd.func32 (by kernel_rfl) rfl #[.string (rdOf ByteArray.empty t145 (ji35))] rfl (by (try simp only [List.map_toArray, List.map_cons, List.map_nil]); first | done | (simp only [hji35]; rfl) | rfl | (simp only [List.length_drop, List.length_take]; rfl)) ?_; (with_reducible refine (spec_l15Scheme.calls k2 (rdOf ByteArray.empty t145 (ji35)) t159 _ A38.out).mono ?_); rintro e w50 ⟨rfl, hb⟩; refine ⟨_, rfl, ?_⟩; replace HO_4 := AM_ (Kd.R_below (RF HO_4.out BK150.out) hb); replace HO_6 := AM_ (Kd.R_below (RF HO_6.out BK150.out) hb); replace BK144 := AM_ (BF BK144.out NB144_150.out hb); replace BK150 := AM_ (BP #[.int .i64 1, .int .i64 (wrap64 ((wrap64 (bt (rdOf ByteArray.empty t145 0) 1)) - 48)), .int .i64 0, .int .i64 0, .int .i64 0, .int .i64 0] BK150.out hb); replace HB := AM_ (below_step (BT HB.out) hb); (try clear hb); (try clear hb2); (try clear hk); (try clear hi); obtain ⟨hcz51_0, hcz51_1, hcz51_2, hcz51_3, hcz51_4, hcz51_5, hfz51_0, hfz51_1, hfz51_2, hfz51_3, hfz51_4, hfz51_5⟩ := bk6 BK150.out) | ((with_reducible refine gate_callee (f := 33) rfl ?_); refine goesL_ (some 95) rfl rfl Tryd.func33 (by kernel_rfl) rfl #[.agg #[.int .i64 1, .int .i64 (wrap64 ((wrap64 (bt (rdOf ByteArray.empty t145 0) 1)) - 48)), .int .i64 t159, .int .i64 0, .int .i64 0, .int .i64 0]] rfl (by (try simp only [List.map_toArray, List.map_cons, List.map_nil]); first | done | rfl | (simp only [List.length_drop, List.length_take]; rfl)) ?_; (with_reducible refine (spec_FormatOp.calls k2 1 (wrap64 ((wrap64 (bt (rdOf ByteArray.empty t145 0) 1)) - 48)) t159 0 0 0 t160 _ A39.out).mono ?_); rintro e w52 ⟨rfl, hb⟩; refine ⟨_, rfl, ?_⟩; replace HO_4 := AM_ (Kd.R_below (RF HO_4.out BK150.out) hb); replace HO_6 := AM_ (Kd.R_below (RF HO_6.out BK150.out) hb); replace BK144 := AM_ (BF BK144.out NB144_150.out hb); replace BK150 := AM_ (BP #[.int .i64 1, .int .i64 (wrap64 ((wrap64 (bt (rdOf ByteArray.empty t145 0) 1)) - 48)), .int .i64 t159, .int .i64 0, .int .i64 0, .int .i64 0] BK150.out hb); replace HB := AM_ (below_step (BT HB.out) hb); (try clear hb); (try clear hb2); (try clear hk); (try clear hi); obtain ⟨hcz53_0, hcz53_1, hcz53_2, hcz53_3, hcz53_4, hcz53_5, hfz53_0, hfz53_1, hfz53_2, hfz53_3, hfz53_4, hfz53_5⟩ := bk6 BK144.out))
       refine bodyPost_ret (results_ct rfl _ _ gb144 36 #[.int .i64 0, .int .i64 0, .int .i64 0, .int .i64 0, .int .i64 0, .int .i64 0] (0, 0) _ rfl (by (with_reducible repeat (first | refine blk_drewN ?_ _ | refine blk_drew ?_ | refine blk_alloc ?_ _)); refine blk_put (cs := #[.int .i64 0, .int .i64 0, .int .i64 0, .int .i64 0, .int .i64 0, .int .i64 0]) ?_ 5 _ rfl; (with_reducible repeat (first | refine blk_drewN ?_ _ | refine blk_drew ?_ | refine blk_alloc ?_ _)); refine blk_put (cs := #[.int .i64 0, .int .i64 0, .int .i64 0, .int .i64 0, .int .i64 0, .int .i64 0]) ?_ 4 _ rfl; (with_reducible repeat (first | refine blk_drewN ?_ _ | refine blk_drew ?_ | refine blk_alloc ?_ _)); refine blk_put (cs := #[.int .i64 0, .int .i64 0, .int .i64 0, .int .i64 0, .int .i64 0, .int .i64 0]) ?_ 3 _ rfl; (with_reducible repeat (first | refine blk_drewN ?_ _ | refine blk_drew ?_ | refine blk_alloc ?_ _)); refine blk_put (cs := #[.int .i64 0, .int .i64 0, .int .i64 0, .int .i64 0, .int .i64 0, .int .i64 0]) ?_ 2 _ rfl; (with_reducible repeat (first | refine blk_drewN ?_ _ | refine blk_drew ?_ | refine blk_alloc ?_ _)); refine blk_put (cs := #[.int .i64 0, .int .i64 0, .int .i64 0, .int .i64 0, .int .i64 0, .int .i64 0]) ?_ 1 _ rfl; (with_reducible repeat (first | refine blk_drewN ?_ _ | refine blk_drew ?_ | refine blk_alloc ?_ _)); refine blk_put (cs := #[.int .i64 0, .int .i64 0, .int .i64 0, .int .i64 0, .int .i64 0, .int .i64 0]) ?_ 0 _ rfl; (with_reducible repeat (first | refine blk_drewN ?_ _ | refine blk_drew ?_ | refine blk_alloc ?_ _)); exact BK144.out) Tryd.underlying36 rfl (by kernel_rfl)) rfl ?_
       exact ⟨by first | rfl | (simp [errW_none, errW_some] <;> rfl) | (simp only [← hji35]; first | rfl | (simp [errW_none, errW_some] <;> rfl)) | (simp [*, errW_none, errW_some] <;> rfl), BT HB.out⟩
      rw [if_pos c40] at H
      have c40b0 : (t160.toList == a0.toList) = true := beq_iff_eq.mpr c40
      have c40b1 : (t160.toList != a0.toList) = false := bne_eq_false_iff_eq.mpr c40
      clear c40
      simp only [Option.some.injEq, Prod.mk.injEq] at H
      obtain ⟨rfl, rfl, rfl, rfl, rfl, rfl, rfl⟩ := H
      have p157 : 0 ≤ (0 : Int) := (by omega)
      have q157 : 0 < (t145.length : Int) := DT
      obtain ⟨ad157, e157, hx157_0⟩ := Kd.at_string (Kd.R_reads' HO_4.out).2.2 0 p157 q157
      obtain rfl : ad149 = ad157 := (by injection e157)
      have qi157 : (0 < t145.length) = True := eq_true (by omega)
      (try rw [show ((0 : Int)).toNat = 0 from rfl] at hx157_0)
      (try rw [Addr.add_zero'] at hx157_0)
      replace p157 := eq_true p157
      replace q157 := eq_true q157
      have p33 : 0 ≤ (0 : Int) := (by omega)
      have q33 : 0 < (rdOf ByteArray.empty t145 0).size := (by have : (0 : Int) < ((rdOf ByteArray.empty t145 0).size : Int) := DT; omega)
      have hx33 : ∀ h : 0 < (rdOf ByteArray.empty t145 0).size, (((rdOf ByteArray.empty t145 0)[0]'h).toNat : Int) = bt (rdOf ByteArray.empty t145 0) 0 := bt_at (rdOf ByteArray.empty t145 0) 0
      clear p33
      have qi33 : (0 < ((rdOf ByteArray.empty t145 0).size : Int)) = True := eq_true (DT)
      replace q33 := eq_true q33
      have hnb41 := NB150_144.out
      have hnc41 := NB144_150.out
      obtain ⟨hcz42_0, hcz42_1, hcz42_2, hcz42_3, hcz42_4, hcz42_5, hfz42_0, hfz42_1, hfz42_2, hfz42_3, hfz42_4, hfz42_5⟩ := bk6 BK150.out
      have p158 : 0 ≤ ((ji35) : Int) := DT
      have q158 : (ji35) < (t145.length : Int) := DT
      obtain ⟨ad158, e158, hx158_0⟩ := Kd.at_string (Kd.R_reads' HO_4.out).2.2 (ji35) p158 q158
      obtain rfl : ad149 = ad158 := (by injection e158)
      have hn158_0 : ad149.block ≠ gb150 := Kd.own_blk (Kd.R_ne HO_4.out BK150.out (by decide))
      replace hx158_0 := (cell_far (p := ⟨gb150, 0, none⟩) (by first | (rw [add_block]; exact hn158_0) | (show (Addr.add _ _).block ≠ _; rw [add_block]; exact hn158_0) | exact hn158_0) (.int .i64 1)).trans hx158_0
      clear hn158_0
      replace p158 := eq_true p158
      replace q158 := eq_true q158
      go_wp2_with (first | ((with_reducible refine gate_callee (f := 32) rfl ?_); refine goesL_ (some 57) rfl rfl Tryd.func32 (by kernel_rfl) rfl #[.string (rdOf ByteArray.empty t145 (ji35))] rfl (by (try simp only [List.map_toArray, List.map_cons, List.map_nil]); first | done | (simp only [hji35]; rfl) | rfl | (simp only [List.length_drop, List.length_take]; rfl)) ?_; (with_reducible refine (spec_l15Scheme.calls k2 (rdOf ByteArray.empty t145 (ji35)) t159 _ A38.out).mono ?_); rintro e w43 ⟨rfl, hb⟩; refine ⟨_, rfl, ?_⟩; replace HO_4 := AM_ (Kd.R_below (RF HO_4.out BK150.out) hb); replace HO_6 := AM_ (Kd.R_below (RF HO_6.out BK150.out) hb); replace BK144 := AM_ (BF BK144.out NB144_150.out hb); replace BK150 := AM_ (BP #[.int .i64 1, .int .i64 (wrap64 ((wrap64 (bt (rdOf ByteArray.empty t145 0) 1)) - 48)), .int .i64 0, .int .i64 0, .int .i64 0, .int .i64 0] BK150.out hb); replace HB := AM_ (below_step (BT HB.out) hb); (try clear hb); (try clear hb2); (try clear hk); (try clear hi); obtain ⟨hcz44_0, hcz44_1, hcz44_2, hcz44_3, hcz44_4, hcz44_5, hfz44_0, hfz44_1, hfz44_2, hfz44_3, hfz44_4, hfz44_5⟩ := bk6 BK150.out) | ((with_reducible refine gate_callee (f := 33) rfl ?_); refine goesL_ (some 95) rfl rfl Tryd.func33 (by kernel_rfl) rfl #[.agg #[.int .i64 1, .int .i64 (wrap64 ((wrap64 (bt (rdOf ByteArray.empty t145 0) 1)) - 48)), .int .i64 t159, .int .i64 0, .int .i64 0, .int .i64 0]] rfl (by (try simp only [List.map_toArray, List.map_cons, List.map_nil]); first | done | rfl | (simp only [List.length_drop, List.length_take]; rfl)) ?_; (with_reducible refine (spec_FormatOp.calls k2 1 (wrap64 ((wrap64 (bt (rdOf ByteArray.empty t145 0) 1)) - 48)) t159 0 0 0 t160 _ A39.out).mono ?_); rintro e w45 ⟨rfl, hb⟩; refine ⟨_, rfl, ?_⟩; replace HO_4 := AM_ (Kd.R_below (RF HO_4.out BK150.out) hb); replace HO_6 := AM_ (Kd.R_below (RF HO_6.out BK150.out) hb); replace BK144 := AM_ (BF BK144.out NB144_150.out hb); replace BK150 := AM_ (BP #[.int .i64 1, .int .i64 (wrap64 ((wrap64 (bt (rdOf ByteArray.empty t145 0) 1)) - 48)), .int .i64 t159, .int .i64 0, .int .i64 0, .int .i64 0] BK150.out hb); replace HB := AM_ (below_step (BT HB.out) hb); (try clear hb); (try clear hb2); (try clear hk); (try clear hi); obtain ⟨hcz46_0, hcz46_1, hcz46_2, hcz46_3, hcz46_4, hcz46_5, hfz46_0, hfz46_1, hfz46_2, hfz46_3, hfz46_4, hfz46_5⟩ := bk6 BK150.out; obtain ⟨hcz47_0, hcz47_1, hcz47_2, hcz47_3, hcz47_4, hcz47_5, hfz47_0, hfz47_1, hfz47_2, hfz47_3, hfz47_4, hfz47_5⟩ := bk6 BK144.out))
      refine bodyPost_ret (results_ct rfl _ _ gb144 36 #[.int .i64 1, .int .i64 (wrap64 ((wrap64 (bt (rdOf ByteArray.empty t145 0) 1)) - 48)), .int .i64 t159, .int .i64 0, .int .i64 0, .int .i64 0] (0, 0) _ rfl (by (with_reducible repeat (first | refine blk_drewN ?_ _ | refine blk_drew ?_ | refine blk_alloc ?_ _)); refine blk_put (cs := #[.int .i64 1, .int .i64 (wrap64 ((wrap64 (bt (rdOf ByteArray.empty t145 0) 1)) - 48)), .int .i64 t159, .int .i64 0, .int .i64 0, .int .i64 0]) ?_ 5 _ rfl; (with_reducible repeat (first | refine blk_drewN ?_ _ | refine blk_drew ?_ | refine blk_alloc ?_ _)); refine blk_put (cs := #[.int .i64 1, .int .i64 (wrap64 ((wrap64 (bt (rdOf ByteArray.empty t145 0) 1)) - 48)), .int .i64 t159, .int .i64 0, .int .i64 0, .int .i64 0]) ?_ 4 _ rfl; (with_reducible repeat (first | refine blk_drewN ?_ _ | refine blk_drew ?_ | refine blk_alloc ?_ _)); refine blk_put (cs := #[.int .i64 1, .int .i64 (wrap64 ((wrap64 (bt (rdOf ByteArray.empty t145 0) 1)) - 48)), .int .i64 t159, .int .i64 0, .int .i64 0, .int .i64 0]) ?_ 3 _ rfl; (with_reducible repeat (first | refine blk_drewN ?_ _ | refine blk_drew ?_ | refine blk_alloc ?_ _)); refine blk_put (cs := #[.int .i64 1, .int .i64 (wrap64 ((wrap64 (bt (rdOf ByteArray.empty t145 0) 1)) - 48)), .int .i64 0, .int .i64 0, .int .i64 0, .int .i64 0]) ?_ 2 _ rfl; (with_reducible repeat (first | refine blk_drewN ?_ _ | refine blk_drew ?_ | refine blk_alloc ?_ _)); refine blk_put (cs := #[.int .i64 1, .int .i64 0, .int .i64 0, .int .i64 0, .int .i64 0, .int .i64 0]) ?_ 1 _ rfl; (with_reducible repeat (first | refine blk_drewN ?_ _ | refine blk_drew ?_ | refine blk_alloc ?_ _)); refine blk_put (cs := #[.int .i64 0, .int .i64 0, .int .i64 0, .int .i64 0, .int .i64 0, .int .i64 0]) ?_ 0 _ rfl; (with_reducible repeat (first | refine blk_drewN ?_ _ | refine blk_drew ?_ | refine blk_alloc ?_ _)); exact BK144.out) Tryd.underlying36 rfl (by kernel_rfl)) rfl ?_
      exact ⟨by first | rfl | (simp [errW_none, errW_some] <;> rfl) | (simp only [← hji35]; first | rfl | (simp [errW_none, errW_some] <;> rfl)) | (simp [*, errW_none, errW_some] <;> rfl), BT HB.out⟩
     rw [if_neg c34] at H
     have c34b0 : ((bt (rdOf ByteArray.empty t145 0) 0) == 98) = false := beq_eq_false_iff_ne.mpr c34
     have c34b1 : ((bt (rdOf ByteArray.empty t145 0) 0) != 98) = true := bne_iff_ne.mpr c34
     by_cases c54 : (bt (rdOf ByteArray.empty t145 0) 0) = 114
     ·rw [if_pos c54] at H
      have c54b0 : ((bt (rdOf ByteArray.empty t145 0) 0) == 114) = true := beq_iff_eq.mpr c54
      have c54b1 : ((bt (rdOf ByteArray.empty t145 0) 0) != 114) = false := bne_eq_false_iff_eq.mpr c54
      clear c54
      by_cases c55 : 0 < (x6_2.length : Int)
      rotate_left
      ·rw [if_neg c55] at H
       exact absurd H (by simp)
      rw [if_pos c55] at H
      have c55b0 : decide (0 < (x6_2.length : Int)) = true := decide_eq_true c55
      have c55b1 : decide (0 < x6_2.length) = true := decide_eq_true (by omega)
      clear c55
      replace H := Option.bind_eq_some_iff.mp H
      obtain ⟨t162, A560, H⟩ := H
      replace H : (if t162.toList = a0.toList then (some (2, (wrap64 ((wrap64 (bt (rdOf ByteArray.empty t145 0) 1)) - 48)), 0, rd x6_2 0, 0, 0, true)) else (some (0, 0, 0, 0, 0, 0, false))) = some (r1, r2, r3, r4, r5, r6, r7) := H
      have A56 := AM_ A560
      clear A560
      by_cases c57 : t162.toList = a0.toList
      rotate_left
      ·rw [if_neg c57] at H
       have c57b0 : (t162.toList == a0.toList) = false := beq_eq_false_iff_ne.mpr c57
       have c57b1 : (t162.toList != a0.toList) = true := bne_iff_ne.mpr c57
       simp only [Option.some.injEq, Prod.mk.injEq] at H
       obtain ⟨rfl, rfl, rfl, rfl, rfl, rfl, rfl⟩ := H
       have p157 : 0 ≤ (0 : Int) := (by omega)
       have q157 : 0 < (t145.length : Int) := DT
       obtain ⟨ad157, e157, hx157_0⟩ := Kd.at_string (Kd.R_reads' HO_4.out).2.2 0 p157 q157
       obtain rfl : ad149 = ad157 := (by injection e157)
       have qi157 : (0 < t145.length) = True := eq_true (by omega)
       (try rw [show ((0 : Int)).toNat = 0 from rfl] at hx157_0)
       (try rw [Addr.add_zero'] at hx157_0)
       replace p157 := eq_true p157
       replace q157 := eq_true q157
       have p33 : 0 ≤ (0 : Int) := (by omega)
       have q33 : 0 < (rdOf ByteArray.empty t145 0).size := (by have : (0 : Int) < ((rdOf ByteArray.empty t145 0).size : Int) := DT; omega)
       have hx33 : ∀ h : 0 < (rdOf ByteArray.empty t145 0).size, (((rdOf ByteArray.empty t145 0)[0]'h).toNat : Int) = bt (rdOf ByteArray.empty t145 0) 0 := bt_at (rdOf ByteArray.empty t145 0) 0
       clear p33
       have qi33 : (0 < ((rdOf ByteArray.empty t145 0).size : Int)) = True := eq_true (DT)
       replace q33 := eq_true q33
       have hnb64 := NB150_144.out
       have hnc64 := NB144_150.out
       obtain ⟨hcz65_0, hcz65_1, hcz65_2, hcz65_3, hcz65_4, hcz65_5, hfz65_0, hfz65_1, hfz65_2, hfz65_3, hfz65_4, hfz65_5⟩ := bk6 BK150.out
       obtain ⟨Ao66, co66, eo66⟩ := Kd.R_slice HO_6.out
       subst eo66
       have p161 : 0 ≤ (0 : Int) := (by omega)
       have q161 : 0 < (x6_2.length : Int) := DT
       obtain ⟨ad161, e161, hx161_0⟩ := Kd.at_int (Kd.R_reads' HO_6.out).2.2 0 p161 q161
       cases e161
       have qi161 : (0 < x6_2.length) = True := eq_true (by omega)
       (try rw [show ((0 : Int)).toNat = 0 from rfl] at hx161_0)
       (try rw [Addr.add_zero'] at hx161_0)
       have hn161_0 : ad161.block ≠ gb150 := Kd.own_blk (Kd.R_ne HO_6.out BK150.out (by decide))
       replace hx161_0 := (cell_far (p := ⟨gb150, 0, none⟩) (by first | (rw [add_block]; exact hn161_0) | (show (Addr.add _ _).block ≠ _; rw [add_block]; exact hn161_0) | exact hn161_0) (.int .i64 2)).trans hx161_0
       clear hn161_0
       replace p161 := eq_true p161
       replace q161 := eq_true q161
       go_wp2_with (first | ((with_reducible refine gate_callee (f := 33) rfl ?_); refine goesL_ (some 95) rfl rfl Tryd.func33 (by kernel_rfl) rfl #[.agg #[.int .i64 2, .int .i64 (wrap64 ((wrap64 (bt (rdOf ByteArray.empty t145 0) 1)) - 48)), .int .i64 0, .int .i64 (rd x6_2 0), .int .i64 0, .int .i64 0]] rfl (by (try simp only [List.map_toArray, List.map_cons, List.map_nil]); first | done | rfl | (simp only [List.length_drop, List.length_take]; rfl)) ?_; (with_reducible refine (spec_FormatOp.calls k2 2 (wrap64 ((wrap64 (bt (rdOf ByteArray.empty t145 0) 1)) - 48)) 0 (rd x6_2 0) 0 0 t162 _ A56.out).mono ?_); rintro e w67 ⟨rfl, hb⟩; refine ⟨_, rfl, ?_⟩; replace HO_4 := AM_ (Kd.R_below (RF HO_4.out BK150.out) hb); replace HO_6 := AM_ (Kd.R_below (RF HO_6.out BK150.out) hb); replace BK144 := AM_ (BF BK144.out NB144_150.out hb); replace BK150 := AM_ (BP #[.int .i64 2, .int .i64 (wrap64 ((wrap64 (bt (rdOf ByteArray.empty t145 0) 1)) - 48)), .int .i64 0, .int .i64 (rd x6_2 0), .int .i64 0, .int .i64 0] BK150.out hb); replace HB := AM_ (below_step (BT HB.out) hb); (try clear hb); (try clear hb2); (try clear hk); (try clear hi); obtain ⟨hcz68_0, hcz68_1, hcz68_2, hcz68_3, hcz68_4, hcz68_5, hfz68_0, hfz68_1, hfz68_2, hfz68_3, hfz68_4, hfz68_5⟩ := bk6 BK144.out))
       refine bodyPost_ret (results_ct rfl _ _ gb144 36 #[.int .i64 0, .int .i64 0, .int .i64 0, .int .i64 0, .int .i64 0, .int .i64 0] (0, 0) _ rfl (by (with_reducible repeat (first | refine blk_drewN ?_ _ | refine blk_drew ?_ | refine blk_alloc ?_ _)); refine blk_put (cs := #[.int .i64 0, .int .i64 0, .int .i64 0, .int .i64 0, .int .i64 0, .int .i64 0]) ?_ 5 _ rfl; (with_reducible repeat (first | refine blk_drewN ?_ _ | refine blk_drew ?_ | refine blk_alloc ?_ _)); refine blk_put (cs := #[.int .i64 0, .int .i64 0, .int .i64 0, .int .i64 0, .int .i64 0, .int .i64 0]) ?_ 4 _ rfl; (with_reducible repeat (first | refine blk_drewN ?_ _ | refine blk_drew ?_ | refine blk_alloc ?_ _)); refine blk_put (cs := #[.int .i64 0, .int .i64 0, .int .i64 0, .int .i64 0, .int .i64 0, .int .i64 0]) ?_ 3 _ rfl; (with_reducible repeat (first | refine blk_drewN ?_ _ | refine blk_drew ?_ | refine blk_alloc ?_ _)); refine blk_put (cs := #[.int .i64 0, .int .i64 0, .int .i64 0, .int .i64 0, .int .i64 0, .int .i64 0]) ?_ 2 _ rfl; (with_reducible repeat (first | refine blk_drewN ?_ _ | refine blk_drew ?_ | refine blk_alloc ?_ _)); refine blk_put (cs := #[.int .i64 0, .int .i64 0, .int .i64 0, .int .i64 0, .int .i64 0, .int .i64 0]) ?_ 1 _ rfl; (with_reducible repeat (first | refine blk_drewN ?_ _ | refine blk_drew ?_ | refine blk_alloc ?_ _)); refine blk_put (cs := #[.int .i64 0, .int .i64 0, .int .i64 0, .int .i64 0, .int .i64 0, .int .i64 0]) ?_ 0 _ rfl; (with_reducible repeat (first | refine blk_drewN ?_ _ | refine blk_drew ?_ | refine blk_alloc ?_ _)); exact BK144.out) Tryd.underlying36 rfl (by kernel_rfl)) rfl ?_
       exact QT (BT HB.out)
      rw [if_pos c57] at H
      have c57b0 : (t162.toList == a0.toList) = true := beq_iff_eq.mpr c57
      have c57b1 : (t162.toList != a0.toList) = false := bne_eq_false_iff_eq.mpr c57
      clear c57
      simp only [Option.some.injEq, Prod.mk.injEq] at H
      obtain ⟨rfl, rfl, rfl, rfl, rfl, rfl, rfl⟩ := H
      have p157 : 0 ≤ (0 : Int) := (by omega)
      have q157 : 0 < (t145.length : Int) := DT
      obtain ⟨ad157, e157, hx157_0⟩ := Kd.at_string (Kd.R_reads' HO_4.out).2.2 0 p157 q157
      obtain rfl : ad149 = ad157 := (by injection e157)
      have qi157 : (0 < t145.length) = True := eq_true (by omega)
      (try rw [show ((0 : Int)).toNat = 0 from rfl] at hx157_0)
      (try rw [Addr.add_zero'] at hx157_0)
      replace p157 := eq_true p157
      replace q157 := eq_true q157
      have p33 : 0 ≤ (0 : Int) := (by omega)
      have q33 : 0 < (rdOf ByteArray.empty t145 0).size := (by have : (0 : Int) < ((rdOf ByteArray.empty t145 0).size : Int) := DT; omega)
      have hx33 : ∀ h : 0 < (rdOf ByteArray.empty t145 0).size, (((rdOf ByteArray.empty t145 0)[0]'h).toNat : Int) = bt (rdOf ByteArray.empty t145 0) 0 := bt_at (rdOf ByteArray.empty t145 0) 0
      clear p33
      have qi33 : (0 < ((rdOf ByteArray.empty t145 0).size : Int)) = True := eq_true (DT)
      replace q33 := eq_true q33
      have hnb58 := NB150_144.out
      have hnc58 := NB144_150.out
      obtain ⟨hcz59_0, hcz59_1, hcz59_2, hcz59_3, hcz59_4, hcz59_5, hfz59_0, hfz59_1, hfz59_2, hfz59_3, hfz59_4, hfz59_5⟩ := bk6 BK150.out
      obtain ⟨Ao60, co60, eo60⟩ := Kd.R_slice HO_6.out
      subst eo60
      have p161 : 0 ≤ (0 : Int) := (by omega)
      have q161 : 0 < (x6_2.length : Int) := DT
      obtain ⟨ad161, e161, hx161_0⟩ := Kd.at_int (Kd.R_reads' HO_6.out).2.2 0 p161 q161
      cases e161
      have qi161 : (0 < x6_2.length) = True := eq_true (by omega)
      (try rw [show ((0 : Int)).toNat = 0 from rfl] at hx161_0)
      (try rw [Addr.add_zero'] at hx161_0)
      have hn161_0 : ad161.block ≠ gb150 := Kd.own_blk (Kd.R_ne HO_6.out BK150.out (by decide))
      replace hx161_0 := (cell_far (p := ⟨gb150, 0, none⟩) (by first | (rw [add_block]; exact hn161_0) | (show (Addr.add _ _).block ≠ _; rw [add_block]; exact hn161_0) | exact hn161_0) (.int .i64 2)).trans hx161_0
      clear hn161_0
      replace p161 := eq_true p161
      replace q161 := eq_true q161
      go_wp2_with (first | ((with_reducible refine gate_callee (f := 33) rfl ?_); refine goesL_ (some 95) rfl rfl Tryd.func33 (by kernel_rfl) rfl #[.agg #[.int .i64 2, .int .i64 (wrap64 ((wrap64 (bt (rdOf ByteArray.empty t145 0) 1)) - 48)), .int .i64 0, .int .i64 (rd x6_2 0), .int .i64 0, .int .i64 0]] rfl (by (try simp only [List.map_toArray, List.map_cons, List.map_nil]); first | done | rfl | (simp only [List.length_drop, List.length_take]; rfl)) ?_; (with_reducible refine (spec_FormatOp.calls k2 2 (wrap64 ((wrap64 (bt (rdOf ByteArray.empty t145 0) 1)) - 48)) 0 (rd x6_2 0) 0 0 t162 _ A56.out).mono ?_); rintro e w61 ⟨rfl, hb⟩; refine ⟨_, rfl, ?_⟩; replace HO_4 := AM_ (Kd.R_below (RF HO_4.out BK150.out) hb); replace HO_6 := AM_ (Kd.R_below (RF HO_6.out BK150.out) hb); replace BK144 := AM_ (BF BK144.out NB144_150.out hb); replace BK150 := AM_ (BP #[.int .i64 2, .int .i64 (wrap64 ((wrap64 (bt (rdOf ByteArray.empty t145 0) 1)) - 48)), .int .i64 0, .int .i64 (rd x6_2 0), .int .i64 0, .int .i64 0] BK150.out hb); replace HB := AM_ (below_step (BT HB.out) hb); (try clear hb); (try clear hb2); (try clear hk); (try clear hi); obtain ⟨hcz62_0, hcz62_1, hcz62_2, hcz62_3, hcz62_4, hcz62_5, hfz62_0, hfz62_1, hfz62_2, hfz62_3, hfz62_4, hfz62_5⟩ := bk6 BK150.out; obtain ⟨hcz63_0, hcz63_1, hcz63_2, hcz63_3, hcz63_4, hcz63_5, hfz63_0, hfz63_1, hfz63_2, hfz63_3, hfz63_4, hfz63_5⟩ := bk6 BK144.out))
      refine bodyPost_ret (results_ct rfl _ _ gb144 36 #[.int .i64 2, .int .i64 (wrap64 ((wrap64 (bt (rdOf ByteArray.empty t145 0) 1)) - 48)), .int .i64 0, .int .i64 (rd x6_2 0), .int .i64 0, .int .i64 0] (0, 0) _ rfl (by (with_reducible repeat (first | refine blk_drewN ?_ _ | refine blk_drew ?_ | refine blk_alloc ?_ _)); refine blk_put (cs := #[.int .i64 2, .int .i64 (wrap64 ((wrap64 (bt (rdOf ByteArray.empty t145 0) 1)) - 48)), .int .i64 0, .int .i64 (rd x6_2 0), .int .i64 0, .int .i64 0]) ?_ 5 _ rfl; (with_reducible repeat (first | refine blk_drewN ?_ _ | refine blk_drew ?_ | refine blk_alloc ?_ _)); refine blk_put (cs := #[.int .i64 2, .int .i64 (wrap64 ((wrap64 (bt (rdOf ByteArray.empty t145 0) 1)) - 48)), .int .i64 0, .int .i64 (rd x6_2 0), .int .i64 0, .int .i64 0]) ?_ 4 _ rfl; (with_reducible repeat (first | refine blk_drewN ?_ _ | refine blk_drew ?_ | refine blk_alloc ?_ _)); refine blk_put (cs := #[.int .i64 2, .int .i64 (wrap64 ((wrap64 (bt (rdOf ByteArray.empty t145 0) 1)) - 48)), .int .i64 0, .int .i64 0, .int .i64 0, .int .i64 0]) ?_ 3 _ rfl; (with_reducible repeat (first | refine blk_drewN ?_ _ | refine blk_drew ?_ | refine blk_alloc ?_ _)); refine blk_put (cs := #[.int .i64 2, .int .i64 (wrap64 ((wrap64 (bt (rdOf ByteArray.empty t145 0) 1)) - 48)), .int .i64 0, .int .i64 0, .int .i64 0, .int .i64 0]) ?_ 2 _ rfl; (with_reducible repeat (first | refine blk_drewN ?_ _ | refine blk_drew ?_ | refine blk_alloc ?_ _)); refine blk_put (cs := #[.int .i64 2, .int .i64 0, .int .i64 0, .int .i64 0, .int .i64 0, .int .i64 0]) ?_ 1 _ rfl; (with_reducible repeat (first | refine blk_drewN ?_ _ | refine blk_drew ?_ | refine blk_alloc ?_ _)); refine blk_put (cs := #[.int .i64 0, .int .i64 0, .int .i64 0, .int .i64 0, .int .i64 0, .int .i64 0]) ?_ 0 _ rfl; (with_reducible repeat (first | refine blk_drewN ?_ _ | refine blk_drew ?_ | refine blk_alloc ?_ _)); exact BK144.out) Tryd.underlying36 rfl (by kernel_rfl)) rfl ?_
      exact QT (BT HB.out)
     rw [if_neg c54] at H
     have c54b0 : ((bt (rdOf ByteArray.empty t145 0) 0) == 114) = false := beq_eq_false_iff_ne.mpr c54
     have c54b1 : ((bt (rdOf ByteArray.empty t145 0) 0) != 114) = true := bne_iff_ne.mpr c54
     by_cases c69 : (bt (rdOf ByteArray.empty t145 0) 0) = 119
     ·rw [if_pos c69] at H
      have c69b0 : ((bt (rdOf ByteArray.empty t145 0) 0) == 119) = true := beq_iff_eq.mpr c69
      have c69b1 : ((bt (rdOf ByteArray.empty t145 0) 0) != 119) = false := bne_eq_false_iff_eq.mpr c69
      clear c69
      by_cases c70 : 0 < (x6_2.length : Int)
      rotate_left
      ·rw [if_neg c70] at H
       exact absurd H (by simp)
      rw [if_pos c70] at H
      have c70b0 : decide (0 < (x6_2.length : Int)) = true := decide_eq_true c70
      have c70b1 : decide (0 < x6_2.length) = true := decide_eq_true (by omega)
      clear c70
      by_cases c71 : 1 < (x6_2.length : Int)
      rotate_left
      ·rw [if_neg c71] at H
       exact absurd H (by simp)
      rw [if_pos c71] at H
      have c71b0 : decide (1 < (x6_2.length : Int)) = true := decide_eq_true c71
      have c71b1 : decide (1 < x6_2.length) = true := decide_eq_true (by omega)
      clear c71
      replace H := Option.bind_eq_some_iff.mp H
      obtain ⟨t165, A720, H⟩ := H
      replace H : (if t165.toList = a0.toList then (some (3, (wrap64 ((wrap64 (bt (rdOf ByteArray.empty t145 0) 1)) - 48)), 0, rd x6_2 0, 0, rd x6_2 1, true)) else (some (0, 0, 0, 0, 0, 0, false))) = some (r1, r2, r3, r4, r5, r6, r7) := H
      have A72 := AM_ A720
      clear A720
      by_cases c73 : t165.toList = a0.toList
      rotate_left
      ·rw [if_neg c73] at H
       have c73b0 : (t165.toList == a0.toList) = false := beq_eq_false_iff_ne.mpr c73
       have c73b1 : (t165.toList != a0.toList) = true := bne_iff_ne.mpr c73
       simp only [Option.some.injEq, Prod.mk.injEq] at H
       obtain ⟨rfl, rfl, rfl, rfl, rfl, rfl, rfl⟩ := H
       have p157 : 0 ≤ (0 : Int) := (by omega)
       have q157 : 0 < (t145.length : Int) := DT
       obtain ⟨ad157, e157, hx157_0⟩ := Kd.at_string (Kd.R_reads' HO_4.out).2.2 0 p157 q157
       obtain rfl : ad149 = ad157 := (by injection e157)
       have qi157 : (0 < t145.length) = True := eq_true (by omega)
       (try rw [show ((0 : Int)).toNat = 0 from rfl] at hx157_0)
       (try rw [Addr.add_zero'] at hx157_0)
       replace p157 := eq_true p157
       replace q157 := eq_true q157
       have p33 : 0 ≤ (0 : Int) := (by omega)
       have q33 : 0 < (rdOf ByteArray.empty t145 0).size := (by have : (0 : Int) < ((rdOf ByteArray.empty t145 0).size : Int) := DT; omega)
       have hx33 : ∀ h : 0 < (rdOf ByteArray.empty t145 0).size, (((rdOf ByteArray.empty t145 0)[0]'h).toNat : Int) = bt (rdOf ByteArray.empty t145 0) 0 := bt_at (rdOf ByteArray.empty t145 0) 0
       clear p33
       have qi33 : (0 < ((rdOf ByteArray.empty t145 0).size : Int)) = True := eq_true (DT)
       replace q33 := eq_true q33
       have hnb80 := NB150_144.out
       have hnc80 := NB144_150.out
       obtain ⟨hcz81_0, hcz81_1, hcz81_2, hcz81_3, hcz81_4, hcz81_5, hfz81_0, hfz81_1, hfz81_2, hfz81_3, hfz81_4, hfz81_5⟩ := bk6 BK150.out
       obtain ⟨Ao82, co82, eo82⟩ := Kd.R_slice HO_6.out
       subst eo82
       have p163 : 0 ≤ (0 : Int) := (by omega)
       have q163 : 0 < (x6_2.length : Int) := DT
       obtain ⟨ad163, e163, hx163_0⟩ := Kd.at_int (Kd.R_reads' HO_6.out).2.2 0 p163 q163
       cases e163
       have qi163 : (0 < x6_2.length) = True := eq_true (by omega)
       (try rw [show ((0 : Int)).toNat = 0 from rfl] at hx163_0)
       (try rw [Addr.add_zero'] at hx163_0)
       have hn163_0 : ad163.block ≠ gb150 := Kd.own_blk (Kd.R_ne HO_6.out BK150.out (by decide))
       replace hx163_0 := (cell_far (p := ⟨gb150, 0, none⟩) (by first | (rw [add_block]; exact hn163_0) | (show (Addr.add _ _).block ≠ _; rw [add_block]; exact hn163_0) | exact hn163_0) (.int .i64 3)).trans hx163_0
       clear hn163_0
       replace p163 := eq_true p163
       replace q163 := eq_true q163
       have p164 : 0 ≤ (1 : Int) := (by omega)
       have q164 : 1 < (x6_2.length : Int) := DT
       obtain ⟨ad164, e164, hx164_0⟩ := Kd.at_int (Kd.R_reads' HO_6.out).2.2 1 p164 q164
       obtain rfl : ad163 = ad164 := (by injection e164)
       (try simp only [show (1 : Int).toNat = 1 from rfl, Nat.reduceMul, Nat.reduceEqDiff, Go.Addr.add, ↓reduceIte] at hx164_0)
       have qi164 : (1 < x6_2.length) = True := eq_true (by omega)
       (try rw [show ((1 : Int)).toNat = 1 from rfl] at hx164_0)
       have hn164_0 : ad163.block ≠ gb150 := Kd.own_blk (Kd.R_ne HO_6.out BK150.out (by decide))
       have hn164_1 : ad163.block ≠ gb150 := Kd.own_blk (Kd.R_ne HO_6.out BK150.out (by decide))
       replace hx164_0 := (cell_far (p := ⟨gb150, 0, none⟩) (by first | (rw [add_block]; exact hn164_0) | (show (Addr.add _ _).block ≠ _; rw [add_block]; exact hn164_0) | exact hn164_0) (.int .i64 3)).trans hx164_0
       replace hx164_0 := (cell_far (p := ⟨gb150, 3, none⟩) (by first | (rw [add_block]; exact hn164_1) | (show (Addr.add _ _).block ≠ _; rw [add_block]; exact hn164_1) | exact hn164_1) (.int .i64 (rd x6_2 0))).trans hx164_0
       clear hn164_0
       clear hn164_1
       replace p164 := eq_true p164
       replace q164 := eq_true q164
       go_wp2_with (first | ((with_reducible refine gate_callee (f := 33) rfl ?_); refine goesL_ (some 95) rfl rfl Tryd.func33 (by kernel_rfl) rfl #[.agg #[.int .i64 3, .int .i64 (wrap64 ((wrap64 (bt (rdOf ByteArray.empty t145 0) 1)) - 48)), .int .i64 0, .int .i64 (rd x6_2 0), .int .i64 0, .int .i64 (rd x6_2 1)]] rfl (by (try simp only [List.map_toArray, List.map_cons, List.map_nil]); first | done | rfl | (simp only [List.length_drop, List.length_take]; rfl)) ?_; (with_reducible refine (spec_FormatOp.calls k2 3 (wrap64 ((wrap64 (bt (rdOf ByteArray.empty t145 0) 1)) - 48)) 0 (rd x6_2 0) 0 (rd x6_2 1) t165 _ A72.out).mono ?_); rintro e w83 ⟨rfl, hb⟩; refine ⟨_, rfl, ?_⟩; replace HO_4 := AM_ (Kd.R_below (RF HO_4.out BK150.out) hb); replace HO_6 := AM_ (Kd.R_below (RF HO_6.out BK150.out) hb); replace BK144 := AM_ (BF BK144.out NB144_150.out hb); replace BK150 := AM_ (BP #[.int .i64 3, .int .i64 (wrap64 ((wrap64 (bt (rdOf ByteArray.empty t145 0) 1)) - 48)), .int .i64 0, .int .i64 (rd x6_2 0), .int .i64 0, .int .i64 (rd x6_2 1)] BK150.out hb); replace HB := AM_ (below_step (BT HB.out) hb); (try clear hb); (try clear hb2); (try clear hk); (try clear hi); obtain ⟨hcz84_0, hcz84_1, hcz84_2, hcz84_3, hcz84_4, hcz84_5, hfz84_0, hfz84_1, hfz84_2, hfz84_3, hfz84_4, hfz84_5⟩ := bk6 BK144.out))
       refine bodyPost_ret (results_ct rfl _ _ gb144 36 #[.int .i64 0, .int .i64 0, .int .i64 0, .int .i64 0, .int .i64 0, .int .i64 0] (0, 0) _ rfl (by (with_reducible repeat (first | refine blk_drewN ?_ _ | refine blk_drew ?_ | refine blk_alloc ?_ _)); refine blk_put (cs := #[.int .i64 0, .int .i64 0, .int .i64 0, .int .i64 0, .int .i64 0, .int .i64 0]) ?_ 5 _ rfl; (with_reducible repeat (first | refine blk_drewN ?_ _ | refine blk_drew ?_ | refine blk_alloc ?_ _)); refine blk_put (cs := #[.int .i64 0, .int .i64 0, .int .i64 0, .int .i64 0, .int .i64 0, .int .i64 0]) ?_ 4 _ rfl; (with_reducible repeat (first | refine blk_drewN ?_ _ | refine blk_drew ?_ | refine blk_alloc ?_ _)); refine blk_put (cs := #[.int .i64 0, .int .i64 0, .int .i64 0, .int .i64 0, .int .i64 0, .int .i64 0]) ?_ 3 _ rfl; (with_reducible repeat (first | refine blk_drewN ?_ _ | refine blk_drew ?_ | refine blk_alloc ?_ _)); refine blk_put (cs := #[.int .i64 0, .int .i64 0, .int .i64 0, .int .i64 0, .int .i64 0, .int .i64 0]) ?_ 2 _ rfl; (with_reducible repeat (first | refine blk_drewN ?_ _ | refine blk_drew ?_ | refine blk_alloc ?_ _)); refine blk_put (cs := #[.int .i64 0, .int .i64 0, .int .i64 0, .int .i64 0, .int .i64 0, .int .i64 0]) ?_ 1 _ rfl; (with_reducible repeat (first | refine blk_drewN ?_ _ | refine blk_drew ?_ | refine blk_alloc ?_ _)); refine blk_put (cs := #[.int .i64 0, .int .i64 0, .int .i64 0, .int .i64 0, .int .i64 0, .int .i64 0]) ?_ 0 _ rfl; (with_reducible repeat (first | refine blk_drewN ?_ _ | refine blk_drew ?_ | refine blk_alloc ?_ _)); exact BK144.out) Tryd.underlying36 rfl (by kernel_rfl)) rfl ?_
       exact QT (BT HB.out)
      rw [if_pos c73] at H
      have c73b0 : (t165.toList == a0.toList) = true := beq_iff_eq.mpr c73
      have c73b1 : (t165.toList != a0.toList) = false := bne_eq_false_iff_eq.mpr c73
      clear c73
      simp only [Option.some.injEq, Prod.mk.injEq] at H
      obtain ⟨rfl, rfl, rfl, rfl, rfl, rfl, rfl⟩ := H
      have p157 : 0 ≤ (0 : Int) := (by omega)
      have q157 : 0 < (t145.length : Int) := DT
      obtain ⟨ad157, e157, hx157_0⟩ := Kd.at_string (Kd.R_reads' HO_4.out).2.2 0 p157 q157
      obtain rfl : ad149 = ad157 := (by injection e157)
      have qi157 : (0 < t145.length) = True := eq_true (by omega)
      (try rw [show ((0 : Int)).toNat = 0 from rfl] at hx157_0)
      (try rw [Addr.add_zero'] at hx157_0)
      replace p157 := eq_true p157
      replace q157 := eq_true q157
      have p33 : 0 ≤ (0 : Int) := (by omega)
      have q33 : 0 < (rdOf ByteArray.empty t145 0).size := (by have : (0 : Int) < ((rdOf ByteArray.empty t145 0).size : Int) := DT; omega)
      have hx33 : ∀ h : 0 < (rdOf ByteArray.empty t145 0).size, (((rdOf ByteArray.empty t145 0)[0]'h).toNat : Int) = bt (rdOf ByteArray.empty t145 0) 0 := bt_at (rdOf ByteArray.empty t145 0) 0
      clear p33
      have qi33 : (0 < ((rdOf ByteArray.empty t145 0).size : Int)) = True := eq_true (DT)
      replace q33 := eq_true q33
      have hnb74 := NB150_144.out
      have hnc74 := NB144_150.out
      obtain ⟨hcz75_0, hcz75_1, hcz75_2, hcz75_3, hcz75_4, hcz75_5, hfz75_0, hfz75_1, hfz75_2, hfz75_3, hfz75_4, hfz75_5⟩ := bk6 BK150.out
      obtain ⟨Ao76, co76, eo76⟩ := Kd.R_slice HO_6.out
      subst eo76
      have p163 : 0 ≤ (0 : Int) := (by omega)
      have q163 : 0 < (x6_2.length : Int) := DT
      obtain ⟨ad163, e163, hx163_0⟩ := Kd.at_int (Kd.R_reads' HO_6.out).2.2 0 p163 q163
      cases e163
      have qi163 : (0 < x6_2.length) = True := eq_true (by omega)
      (try rw [show ((0 : Int)).toNat = 0 from rfl] at hx163_0)
      (try rw [Addr.add_zero'] at hx163_0)
      have hn163_0 : ad163.block ≠ gb150 := Kd.own_blk (Kd.R_ne HO_6.out BK150.out (by decide))
      replace hx163_0 := (cell_far (p := ⟨gb150, 0, none⟩) (by first | (rw [add_block]; exact hn163_0) | (show (Addr.add _ _).block ≠ _; rw [add_block]; exact hn163_0) | exact hn163_0) (.int .i64 3)).trans hx163_0
      clear hn163_0
      replace p163 := eq_true p163
      replace q163 := eq_true q163
      have p164 : 0 ≤ (1 : Int) := (by omega)
      have q164 : 1 < (x6_2.length : Int) := DT
      obtain ⟨ad164, e164, hx164_0⟩ := Kd.at_int (Kd.R_reads' HO_6.out).2.2 1 p164 q164
      obtain rfl : ad163 = ad164 := (by injection e164)
      (try simp only [show (1 : Int).toNat = 1 from rfl, Nat.reduceMul, Nat.reduceEqDiff, Go.Addr.add, ↓reduceIte] at hx164_0)
      have qi164 : (1 < x6_2.length) = True := eq_true (by omega)
      (try rw [show ((1 : Int)).toNat = 1 from rfl] at hx164_0)
      have hn164_0 : ad163.block ≠ gb150 := Kd.own_blk (Kd.R_ne HO_6.out BK150.out (by decide))
      have hn164_1 : ad163.block ≠ gb150 := Kd.own_blk (Kd.R_ne HO_6.out BK150.out (by decide))
      replace hx164_0 := (cell_far (p := ⟨gb150, 0, none⟩) (by first | (rw [add_block]; exact hn164_0) | (show (Addr.add _ _).block ≠ _; rw [add_block]; exact hn164_0) | exact hn164_0) (.int .i64 3)).trans hx164_0
      replace hx164_0 := (cell_far (p := ⟨gb150, 3, none⟩) (by first | (rw [add_block]; exact hn164_1) | (show (Addr.add _ _).block ≠ _; rw [add_block]; exact hn164_1) | exact hn164_1) (.int .i64 (rd x6_2 0))).trans hx164_0
      clear hn164_0
      clear hn164_1
      replace p164 := eq_true p164
      replace q164 := eq_true q164
      go_wp2_with (first | ((with_reducible refine gate_callee (f := 33) rfl ?_); refine goesL_ (some 95) rfl rfl Tryd.func33 (by kernel_rfl) rfl #[.agg #[.int .i64 3, .int .i64 (wrap64 ((wrap64 (bt (rdOf ByteArray.empty t145 0) 1)) - 48)), .int .i64 0, .int .i64 (rd x6_2 0), .int .i64 0, .int .i64 (rd x6_2 1)]] rfl (by (try simp only [List.map_toArray, List.map_cons, List.map_nil]); first | done | rfl | (simp only [List.length_drop, List.length_take]; rfl)) ?_; (with_reducible refine (spec_FormatOp.calls k2 3 (wrap64 ((wrap64 (bt (rdOf ByteArray.empty t145 0) 1)) - 48)) 0 (rd x6_2 0) 0 (rd x6_2 1) t165 _ A72.out).mono ?_); rintro e w77 ⟨rfl, hb⟩; refine ⟨_, rfl, ?_⟩; replace HO_4 := AM_ (Kd.R_below (RF HO_4.out BK150.out) hb); replace HO_6 := AM_ (Kd.R_below (RF HO_6.out BK150.out) hb); replace BK144 := AM_ (BF BK144.out NB144_150.out hb); replace BK150 := AM_ (BP #[.int .i64 3, .int .i64 (wrap64 ((wrap64 (bt (rdOf ByteArray.empty t145 0) 1)) - 48)), .int .i64 0, .int .i64 (rd x6_2 0), .int .i64 0, .int .i64 (rd x6_2 1)] BK150.out hb); replace HB := AM_ (below_step (BT HB.out) hb); (try clear hb); (try clear hb2); (try clear hk); (try clear hi); obtain ⟨hcz78_0, hcz78_1, hcz78_2, hcz78_3, hcz78_4, hcz78_5, hfz78_0, hfz78_1, hfz78_2, hfz78_3, hfz78_4, hfz78_5⟩ := bk6 BK150.out; obtain ⟨hcz79_0, hcz79_1, hcz79_2, hcz79_3, hcz79_4, hcz79_5, hfz79_0, hfz79_1, hfz79_2, hfz79_3, hfz79_4, hfz79_5⟩ := bk6 BK144.out))
      refine bodyPost_ret (results_ct rfl _ _ gb144 36 #[.int .i64 3, .int .i64 (wrap64 ((wrap64 (bt (rdOf ByteArray.empty t145 0) 1)) - 48)), .int .i64 0, .int .i64 (rd x6_2 0), .int .i64 0, .int .i64 (rd x6_2 1)] (0, 0) _ rfl (by (with_reducible repeat (first | refine blk_drewN ?_ _ | refine blk_drew ?_ | refine blk_alloc ?_ _)); refine blk_put (cs := #[.int .i64 3, .int .i64 (wrap64 ((wrap64 (bt (rdOf ByteArray.empty t145 0) 1)) - 48)), .int .i64 0, .int .i64 (rd x6_2 0), .int .i64 0, .int .i64 0]) ?_ 5 _ rfl; (with_reducible repeat (first | refine blk_drewN ?_ _ | refine blk_drew ?_ | refine blk_alloc ?_ _)); refine blk_put (cs := #[.int .i64 3, .int .i64 (wrap64 ((wrap64 (bt (rdOf ByteArray.empty t145 0) 1)) - 48)), .int .i64 0, .int .i64 (rd x6_2 0), .int .i64 0, .int .i64 0]) ?_ 4 _ rfl; (with_reducible repeat (first | refine blk_drewN ?_ _ | refine blk_drew ?_ | refine blk_alloc ?_ _)); refine blk_put (cs := #[.int .i64 3, .int .i64 (wrap64 ((wrap64 (bt (rdOf ByteArray.empty t145 0) 1)) - 48)), .int .i64 0, .int .i64 0, .int .i64 0, .int .i64 0]) ?_ 3 _ rfl; (with_reducible repeat (first | refine blk_drewN ?_ _ | refine blk_drew ?_ | refine blk_alloc ?_ _)); refine blk_put (cs := #[.int .i64 3, .int .i64 (wrap64 ((wrap64 (bt (rdOf ByteArray.empty t145 0) 1)) - 48)), .int .i64 0, .int .i64 0, .int .i64 0, .int .i64 0]) ?_ 2 _ rfl; (with_reducible repeat (first | refine blk_drewN ?_ _ | refine blk_drew ?_ | refine blk_alloc ?_ _)); refine blk_put (cs := #[.int .i64 3, .int .i64 0, .int .i64 0, .int .i64 0, .int .i64 0, .int .i64 0]) ?_ 1 _ rfl; (with_reducible repeat (first | refine blk_drewN ?_ _ | refine blk_drew ?_ | refine blk_alloc ?_ _)); refine blk_put (cs := #[.int .i64 0, .int .i64 0, .int .i64 0, .int .i64 0, .int .i64 0, .int .i64 0]) ?_ 0 _ rfl; (with_reducible repeat (first | refine blk_drewN ?_ _ | refine blk_drew ?_ | refine blk_alloc ?_ _)); exact BK144.out) Tryd.underlying36 rfl (by kernel_rfl)) rfl ?_
      exact QT (BT HB.out)
     rw [if_neg c69] at H
     have c69b0 : ((bt (rdOf ByteArray.empty t145 0) 0) == 119) = false := beq_eq_false_iff_ne.mpr c69
     have c69b1 : ((bt (rdOf ByteArray.empty t145 0) 0) != 119) = true := bne_iff_ne.mpr c69
     by_cases c85 : (bt (rdOf ByteArray.empty t145 0) 0) = 115
     ·rw [if_pos c85] at H
      have c85b0 : ((bt (rdOf ByteArray.empty t145 0) 0) == 115) = true := beq_iff_eq.mpr c85
      have c85b1 : ((bt (rdOf ByteArray.empty t145 0) 0) != 115) = false := bne_eq_false_iff_eq.mpr c85
      clear c85
      by_cases c86 : 0 < (x6_2.length : Int)
      rotate_left
      ·rw [if_neg c86] at H
       exact absurd H (by simp)
      rw [if_pos c86] at H
      have c86b0 : decide (0 < (x6_2.length : Int)) = true := decide_eq_true c86
      have c86b1 : decide (0 < x6_2.length) = true := decide_eq_true (by omega)
      clear c86
      by_cases c87 : 1 < (x6_2.length : Int)
      rotate_left
      ·rw [if_neg c87] at H
       exact absurd H (by simp)
      rw [if_pos c87] at H
      have c87b0 : decide (1 < (x6_2.length : Int)) = true := decide_eq_true c87
      have c87b1 : decide (1 < x6_2.length) = true := decide_eq_true (by omega)
      clear c87
      replace H := Option.bind_eq_some_iff.mp H
      obtain ⟨t168, A880, H⟩ := H
      replace H : (if t168.toList = a0.toList then (some (4, (wrap64 ((wrap64 (bt (rdOf ByteArray.empty t145 0) 1)) - 48)), 0, rd x6_2 0, rd x6_2 1, 0, true)) else (some (0, 0, 0, 0, 0, 0, false))) = some (r1, r2, r3, r4, r5, r6, r7) := H
      have A88 := AM_ A880
      clear A880
      by_cases c89 : t168.toList = a0.toList
      rotate_left
      ·rw [if_neg c89] at H
       have c89b0 : (t168.toList == a0.toList) = false := beq_eq_false_iff_ne.mpr c89
       have c89b1 : (t168.toList != a0.toList) = true := bne_iff_ne.mpr c89
       simp only [Option.some.injEq, Prod.mk.injEq] at H
       obtain ⟨rfl, rfl, rfl, rfl, rfl, rfl, rfl⟩ := H
       have p157 : 0 ≤ (0 : Int) := (by omega)
       have q157 : 0 < (t145.length : Int) := DT
       obtain ⟨ad157, e157, hx157_0⟩ := Kd.at_string (Kd.R_reads' HO_4.out).2.2 0 p157 q157
       obtain rfl : ad149 = ad157 := (by injection e157)
       have qi157 : (0 < t145.length) = True := eq_true (by omega)
       (try rw [show ((0 : Int)).toNat = 0 from rfl] at hx157_0)
       (try rw [Addr.add_zero'] at hx157_0)
       replace p157 := eq_true p157
       replace q157 := eq_true q157
       have p33 : 0 ≤ (0 : Int) := (by omega)
       have q33 : 0 < (rdOf ByteArray.empty t145 0).size := (by have : (0 : Int) < ((rdOf ByteArray.empty t145 0).size : Int) := DT; omega)
       have hx33 : ∀ h : 0 < (rdOf ByteArray.empty t145 0).size, (((rdOf ByteArray.empty t145 0)[0]'h).toNat : Int) = bt (rdOf ByteArray.empty t145 0) 0 := bt_at (rdOf ByteArray.empty t145 0) 0
       clear p33
       have qi33 : (0 < ((rdOf ByteArray.empty t145 0).size : Int)) = True := eq_true (DT)
       replace q33 := eq_true q33
       have hnb96 := NB150_144.out
       have hnc96 := NB144_150.out
       obtain ⟨hcz97_0, hcz97_1, hcz97_2, hcz97_3, hcz97_4, hcz97_5, hfz97_0, hfz97_1, hfz97_2, hfz97_3, hfz97_4, hfz97_5⟩ := bk6 BK150.out
       obtain ⟨Ao98, co98, eo98⟩ := Kd.R_slice HO_6.out
       subst eo98
       have p166 : 0 ≤ (0 : Int) := (by omega)
       have q166 : 0 < (x6_2.length : Int) := DT
       obtain ⟨ad166, e166, hx166_0⟩ := Kd.at_int (Kd.R_reads' HO_6.out).2.2 0 p166 q166
       cases e166
       have qi166 : (0 < x6_2.length) = True := eq_true (by omega)
       (try rw [show ((0 : Int)).toNat = 0 from rfl] at hx166_0)
       (try rw [Addr.add_zero'] at hx166_0)
       have hn166_0 : ad166.block ≠ gb150 := Kd.own_blk (Kd.R_ne HO_6.out BK150.out (by decide))
       replace hx166_0 := (cell_far (p := ⟨gb150, 0, none⟩) (by first | (rw [add_block]; exact hn166_0) | (show (Addr.add _ _).block ≠ _; rw [add_block]; exact hn166_0) | exact hn166_0) (.int .i64 4)).trans hx166_0
       clear hn166_0
       replace p166 := eq_true p166
       replace q166 := eq_true q166
       have p167 : 0 ≤ (1 : Int) := (by omega)
       have q167 : 1 < (x6_2.length : Int) := DT
       obtain ⟨ad167, e167, hx167_0⟩ := Kd.at_int (Kd.R_reads' HO_6.out).2.2 1 p167 q167
       obtain rfl : ad166 = ad167 := (by injection e167)
       (try simp only [show (1 : Int).toNat = 1 from rfl, Nat.reduceMul, Nat.reduceEqDiff, Go.Addr.add, ↓reduceIte] at hx167_0)
       have qi167 : (1 < x6_2.length) = True := eq_true (by omega)
       (try rw [show ((1 : Int)).toNat = 1 from rfl] at hx167_0)
       have hn167_0 : ad166.block ≠ gb150 := Kd.own_blk (Kd.R_ne HO_6.out BK150.out (by decide))
       have hn167_1 : ad166.block ≠ gb150 := Kd.own_blk (Kd.R_ne HO_6.out BK150.out (by decide))
       replace hx167_0 := (cell_far (p := ⟨gb150, 0, none⟩) (by first | (rw [add_block]; exact hn167_0) | (show (Addr.add _ _).block ≠ _; rw [add_block]; exact hn167_0) | exact hn167_0) (.int .i64 4)).trans hx167_0
       replace hx167_0 := (cell_far (p := ⟨gb150, 3, none⟩) (by first | (rw [add_block]; exact hn167_1) | (show (Addr.add _ _).block ≠ _; rw [add_block]; exact hn167_1) | exact hn167_1) (.int .i64 (rd x6_2 0))).trans hx167_0
       clear hn167_0
       clear hn167_1
       replace p167 := eq_true p167
       replace q167 := eq_true q167
       go_wp2_with (first | ((with_reducible refine gate_callee (f := 33) rfl ?_); refine goesL_ (some 95) rfl rfl Tryd.func33 (by kernel_rfl) rfl #[.agg #[.int .i64 4, .int .i64 (wrap64 ((wrap64 (bt (rdOf ByteArray.empty t145 0) 1)) - 48)), .int .i64 0, .int .i64 (rd x6_2 0), .int .i64 (rd x6_2 1), .int .i64 0]] rfl (by (try simp only [List.map_toArray, List.map_cons, List.map_nil]); first | done | rfl | (simp only [List.length_drop, List.length_take]; rfl)) ?_; (with_reducible refine (spec_FormatOp.calls k2 4 (wrap64 ((wrap64 (bt (rdOf ByteArray.empty t145 0) 1)) - 48)) 0 (rd x6_2 0) (rd x6_2 1) 0 t168 _ A88.out).mono ?_); rintro e w99 ⟨rfl, hb⟩; refine ⟨_, rfl, ?_⟩; replace HO_4 := AM_ (Kd.R_below (RF HO_4.out BK150.out) hb); replace HO_6 := AM_ (Kd.R_below (RF HO_6.out BK150.out) hb); replace BK144 := AM_ (BF BK144.out NB144_150.out hb); replace BK150 := AM_ (BP #[.int .i64 4, .int .i64 (wrap64 ((wrap64 (bt (rdOf ByteArray.empty t145 0) 1)) - 48)), .int .i64 0, .int .i64 (rd x6_2 0), .int .i64 (rd x6_2 1), .int .i64 0] BK150.out hb); replace HB := AM_ (below_step (BT HB.out) hb); (try clear hb); (try clear hb2); (try clear hk); (try clear hi); obtain ⟨hcz100_0, hcz100_1, hcz100_2, hcz100_3, hcz100_4, hcz100_5, hfz100_0, hfz100_1, hfz100_2, hfz100_3, hfz100_4, hfz100_5⟩ := bk6 BK144.out))
       refine bodyPost_ret (results_ct rfl _ _ gb144 36 #[.int .i64 0, .int .i64 0, .int .i64 0, .int .i64 0, .int .i64 0, .int .i64 0] (0, 0) _ rfl (by (with_reducible repeat (first | refine blk_drewN ?_ _ | refine blk_drew ?_ | refine blk_alloc ?_ _)); refine blk_put (cs := #[.int .i64 0, .int .i64 0, .int .i64 0, .int .i64 0, .int .i64 0, .int .i64 0]) ?_ 5 _ rfl; (with_reducible repeat (first | refine blk_drewN ?_ _ | refine blk_drew ?_ | refine blk_alloc ?_ _)); refine blk_put (cs := #[.int .i64 0, .int .i64 0, .int .i64 0, .int .i64 0, .int .i64 0, .int .i64 0]) ?_ 4 _ rfl; (with_reducible repeat (first | refine blk_drewN ?_ _ | refine blk_drew ?_ | refine blk_alloc ?_ _)); refine blk_put (cs := #[.int .i64 0, .int .i64 0, .int .i64 0, .int .i64 0, .int .i64 0, .int .i64 0]) ?_ 3 _ rfl; (with_reducible repeat (first | refine blk_drewN ?_ _ | refine blk_drew ?_ | refine blk_alloc ?_ _)); refine blk_put (cs := #[.int .i64 0, .int .i64 0, .int .i64 0, .int .i64 0, .int .i64 0, .int .i64 0]) ?_ 2 _ rfl; (with_reducible repeat (first | refine blk_drewN ?_ _ | refine blk_drew ?_ | refine blk_alloc ?_ _)); refine blk_put (cs := #[.int .i64 0, .int .i64 0, .int .i64 0, .int .i64 0, .int .i64 0, .int .i64 0]) ?_ 1 _ rfl; (with_reducible repeat (first | refine blk_drewN ?_ _ | refine blk_drew ?_ | refine blk_alloc ?_ _)); refine blk_put (cs := #[.int .i64 0, .int .i64 0, .int .i64 0, .int .i64 0, .int .i64 0, .int .i64 0]) ?_ 0 _ rfl; (with_reducible repeat (first | refine blk_drewN ?_ _ | refine blk_drew ?_ | refine blk_alloc ?_ _)); exact BK144.out) Tryd.underlying36 rfl (by kernel_rfl)) rfl ?_
       exact QT (BT HB.out)
      rw [if_pos c89] at H
      have c89b0 : (t168.toList == a0.toList) = true := beq_iff_eq.mpr c89
      have c89b1 : (t168.toList != a0.toList) = false := bne_eq_false_iff_eq.mpr c89
      clear c89
      simp only [Option.some.injEq, Prod.mk.injEq] at H
      obtain ⟨rfl, rfl, rfl, rfl, rfl, rfl, rfl⟩ := H
      have p157 : 0 ≤ (0 : Int) := (by omega)
      have q157 : 0 < (t145.length : Int) := DT
      obtain ⟨ad157, e157, hx157_0⟩ := Kd.at_string (Kd.R_reads' HO_4.out).2.2 0 p157 q157
      obtain rfl : ad149 = ad157 := (by injection e157)
      have qi157 : (0 < t145.length) = True := eq_true (by omega)
      (try rw [show ((0 : Int)).toNat = 0 from rfl] at hx157_0)
      (try rw [Addr.add_zero'] at hx157_0)
      replace p157 := eq_true p157
      replace q157 := eq_true q157
      have p33 : 0 ≤ (0 : Int) := (by omega)
      have q33 : 0 < (rdOf ByteArray.empty t145 0).size := (by have : (0 : Int) < ((rdOf ByteArray.empty t145 0).size : Int) := DT; omega)
      have hx33 : ∀ h : 0 < (rdOf ByteArray.empty t145 0).size, (((rdOf ByteArray.empty t145 0)[0]'h).toNat : Int) = bt (rdOf ByteArray.empty t145 0) 0 := bt_at (rdOf ByteArray.empty t145 0) 0
      clear p33
      have qi33 : (0 < ((rdOf ByteArray.empty t145 0).size : Int)) = True := eq_true (DT)
      replace q33 := eq_true q33
      have hnb90 := NB150_144.out
      have hnc90 := NB144_150.out
      obtain ⟨hcz91_0, hcz91_1, hcz91_2, hcz91_3, hcz91_4, hcz91_5, hfz91_0, hfz91_1, hfz91_2, hfz91_3, hfz91_4, hfz91_5⟩ := bk6 BK150.out
      obtain ⟨Ao92, co92, eo92⟩ := Kd.R_slice HO_6.out
      subst eo92
      have p166 : 0 ≤ (0 : Int) := (by omega)
      have q166 : 0 < (x6_2.length : Int) := DT
      obtain ⟨ad166, e166, hx166_0⟩ := Kd.at_int (Kd.R_reads' HO_6.out).2.2 0 p166 q166
      cases e166
      have qi166 : (0 < x6_2.length) = True := eq_true (by omega)
      (try rw [show ((0 : Int)).toNat = 0 from rfl] at hx166_0)
      (try rw [Addr.add_zero'] at hx166_0)
      have hn166_0 : ad166.block ≠ gb150 := Kd.own_blk (Kd.R_ne HO_6.out BK150.out (by decide))
      replace hx166_0 := (cell_far (p := ⟨gb150, 0, none⟩) (by first | (rw [add_block]; exact hn166_0) | (show (Addr.add _ _).block ≠ _; rw [add_block]; exact hn166_0) | exact hn166_0) (.int .i64 4)).trans hx166_0
      clear hn166_0
      replace p166 := eq_true p166
      replace q166 := eq_true q166
      have p167 : 0 ≤ (1 : Int) := (by omega)
      have q167 : 1 < (x6_2.length : Int) := DT
      obtain ⟨ad167, e167, hx167_0⟩ := Kd.at_int (Kd.R_reads' HO_6.out).2.2 1 p167 q167
      obtain rfl : ad166 = ad167 := (by injection e167)
      (try simp only [show (1 : Int).toNat = 1 from rfl, Nat.reduceMul, Nat.reduceEqDiff, Go.Addr.add, ↓reduceIte] at hx167_0)
      have qi167 : (1 < x6_2.length) = True := eq_true (by omega)
      (try rw [show ((1 : Int)).toNat = 1 from rfl] at hx167_0)
      have hn167_0 : ad166.block ≠ gb150 := Kd.own_blk (Kd.R_ne HO_6.out BK150.out (by decide))
      have hn167_1 : ad166.block ≠ gb150 := Kd.own_blk (Kd.R_ne HO_6.out BK150.out (by decide))
      replace hx167_0 := (cell_far (p := ⟨gb150, 0, none⟩) (by first | (rw [add_block]; exact hn167_0) | (show (Addr.add _ _).block ≠ _; rw [add_block]; exact hn167_0) | exact hn167_0) (.int .i64 4)).trans hx167_0
      replace hx167_0 := (cell_far (p := ⟨gb150, 3, none⟩) (by first | (rw [add_block]; exact hn167_1) | (show (Addr.add _ _).block ≠ _; rw [add_block]; exact hn167_1) | exact hn167_1) (.int .i64 (rd x6_2 0))).trans hx167_0
      clear hn167_0
      clear hn167_1
      replace p167 := eq_true p167
      replace q167 := eq_true q167
      go_wp2_with (first | ((with_reducible refine gate_callee (f := 33) rfl ?_); refine goesL_ (some 95) rfl rfl Tryd.func33 (by kernel_rfl) rfl #[.agg #[.int .i64 4, .int .i64 (wrap64 ((wrap64 (bt (rdOf ByteArray.empty t145 0) 1)) - 48)), .int .i64 0, .int .i64 (rd x6_2 0), .int .i64 (rd x6_2 1), .int .i64 0]] rfl (by (try simp only [List.map_toArray, List.map_cons, List.map_nil]); first | done | rfl | (simp only [List.length_drop, List.length_take]; rfl)) ?_; (with_reducible refine (spec_FormatOp.calls k2 4 (wrap64 ((wrap64 (bt (rdOf ByteArray.empty t145 0) 1)) - 48)) 0 (rd x6_2 0) (rd x6_2 1) 0 t168 _ A88.out).mono ?_); rintro e w93 ⟨rfl, hb⟩; refine ⟨_, rfl, ?_⟩; replace HO_4 := AM_ (Kd.R_below (RF HO_4.out BK150.out) hb); replace HO_6 := AM_ (Kd.R_below (RF HO_6.out BK150.out) hb); replace BK144 := AM_ (BF BK144.out NB144_150.out hb); replace BK150 := AM_ (BP #[.int .i64 4, .int .i64 (wrap64 ((wrap64 (bt (rdOf ByteArray.empty t145 0) 1)) - 48)), .int .i64 0, .int .i64 (rd x6_2 0), .int .i64 (rd x6_2 1), .int .i64 0] BK150.out hb); replace HB := AM_ (below_step (BT HB.out) hb); (try clear hb); (try clear hb2); (try clear hk); (try clear hi); obtain ⟨hcz94_0, hcz94_1, hcz94_2, hcz94_3, hcz94_4, hcz94_5, hfz94_0, hfz94_1, hfz94_2, hfz94_3, hfz94_4, hfz94_5⟩ := bk6 BK150.out; obtain ⟨hcz95_0, hcz95_1, hcz95_2, hcz95_3, hcz95_4, hcz95_5, hfz95_0, hfz95_1, hfz95_2, hfz95_3, hfz95_4, hfz95_5⟩ := bk6 BK144.out))
      refine bodyPost_ret (results_ct rfl _ _ gb144 36 #[.int .i64 4, .int .i64 (wrap64 ((wrap64 (bt (rdOf ByteArray.empty t145 0) 1)) - 48)), .int .i64 0, .int .i64 (rd x6_2 0), .int .i64 (rd x6_2 1), .int .i64 0] (0, 0) _ rfl (by (with_reducible repeat (first | refine blk_drewN ?_ _ | refine blk_drew ?_ | refine blk_alloc ?_ _)); refine blk_put (cs := #[.int .i64 4, .int .i64 (wrap64 ((wrap64 (bt (rdOf ByteArray.empty t145 0) 1)) - 48)), .int .i64 0, .int .i64 (rd x6_2 0), .int .i64 (rd x6_2 1), .int .i64 0]) ?_ 5 _ rfl; (with_reducible repeat (first | refine blk_drewN ?_ _ | refine blk_drew ?_ | refine blk_alloc ?_ _)); refine blk_put (cs := #[.int .i64 4, .int .i64 (wrap64 ((wrap64 (bt (rdOf ByteArray.empty t145 0) 1)) - 48)), .int .i64 0, .int .i64 (rd x6_2 0), .int .i64 0, .int .i64 0]) ?_ 4 _ rfl; (with_reducible repeat (first | refine blk_drewN ?_ _ | refine blk_drew ?_ | refine blk_alloc ?_ _)); refine blk_put (cs := #[.int .i64 4, .int .i64 (wrap64 ((wrap64 (bt (rdOf ByteArray.empty t145 0) 1)) - 48)), .int .i64 0, .int .i64 0, .int .i64 0, .int .i64 0]) ?_ 3 _ rfl; (with_reducible repeat (first | refine blk_drewN ?_ _ | refine blk_drew ?_ | refine blk_alloc ?_ _)); refine blk_put (cs := #[.int .i64 4, .int .i64 (wrap64 ((wrap64 (bt (rdOf ByteArray.empty t145 0) 1)) - 48)), .int .i64 0, .int .i64 0, .int .i64 0, .int .i64 0]) ?_ 2 _ rfl; (with_reducible repeat (first | refine blk_drewN ?_ _ | refine blk_drew ?_ | refine blk_alloc ?_ _)); refine blk_put (cs := #[.int .i64 4, .int .i64 0, .int .i64 0, .int .i64 0, .int .i64 0, .int .i64 0]) ?_ 1 _ rfl; (with_reducible repeat (first | refine blk_drewN ?_ _ | refine blk_drew ?_ | refine blk_alloc ?_ _)); refine blk_put (cs := #[.int .i64 0, .int .i64 0, .int .i64 0, .int .i64 0, .int .i64 0, .int .i64 0]) ?_ 0 _ rfl; (with_reducible repeat (first | refine blk_drewN ?_ _ | refine blk_drew ?_ | refine blk_alloc ?_ _)); exact BK144.out) Tryd.underlying36 rfl (by kernel_rfl)) rfl ?_
      exact QT (BT HB.out)
     rw [if_neg c85] at H
     have c85b0 : ((bt (rdOf ByteArray.empty t145 0) 0) == 115) = false := beq_eq_false_iff_ne.mpr c85
     have c85b1 : ((bt (rdOf ByteArray.empty t145 0) 0) != 115) = true := bne_iff_ne.mpr c85
     by_cases c101 : (bt (rdOf ByteArray.empty t145 0) 0) = 99
     ·rw [if_pos c101] at H
      have c101b0 : ((bt (rdOf ByteArray.empty t145 0) 0) == 99) = true := beq_iff_eq.mpr c101
      have c101b1 : ((bt (rdOf ByteArray.empty t145 0) 0) != 99) = false := bne_eq_false_iff_eq.mpr c101
      clear c101
      replace H := Option.bind_eq_some_iff.mp H
      obtain ⟨t169, A1020, H⟩ := H
      replace H : (if t169.toList = a0.toList then (some (5, (wrap64 ((wrap64 (bt (rdOf ByteArray.empty t145 0) 1)) - 48)), 0, 0, 0, 0, true)) else (some (0, 0, 0, 0, 0, 0, false))) = some (r1, r2, r3, r4, r5, r6, r7) := H
      have A102 := AM_ A1020
      clear A1020
      by_cases c103 : t169.toList = a0.toList
      rotate_left
      ·rw [if_neg c103] at H
       have c103b0 : (t169.toList == a0.toList) = false := beq_eq_false_iff_ne.mpr c103
       have c103b1 : (t169.toList != a0.toList) = true := bne_iff_ne.mpr c103
       simp only [Option.some.injEq, Prod.mk.injEq] at H
       obtain ⟨rfl, rfl, rfl, rfl, rfl, rfl, rfl⟩ := H
       have p157 : 0 ≤ (0 : Int) := (by omega)
       have q157 : 0 < (t145.length : Int) := DT
       obtain ⟨ad157, e157, hx157_0⟩ := Kd.at_string (Kd.R_reads' HO_4.out).2.2 0 p157 q157
       obtain rfl : ad149 = ad157 := (by injection e157)
       have qi157 : (0 < t145.length) = True := eq_true (by omega)
       (try rw [show ((0 : Int)).toNat = 0 from rfl] at hx157_0)
       (try rw [Addr.add_zero'] at hx157_0)
       replace p157 := eq_true p157
       replace q157 := eq_true q157
       have p33 : 0 ≤ (0 : Int) := (by omega)
       have q33 : 0 < (rdOf ByteArray.empty t145 0).size := (by have : (0 : Int) < ((rdOf ByteArray.empty t145 0).size : Int) := DT; omega)
       have hx33 : ∀ h : 0 < (rdOf ByteArray.empty t145 0).size, (((rdOf ByteArray.empty t145 0)[0]'h).toNat : Int) = bt (rdOf ByteArray.empty t145 0) 0 := bt_at (rdOf ByteArray.empty t145 0) 0
       clear p33
       have qi33 : (0 < ((rdOf ByteArray.empty t145 0).size : Int)) = True := eq_true (DT)
       replace q33 := eq_true q33
       have hnb109 := NB150_144.out
       have hnc109 := NB144_150.out
       obtain ⟨hcz110_0, hcz110_1, hcz110_2, hcz110_3, hcz110_4, hcz110_5, hfz110_0, hfz110_1, hfz110_2, hfz110_3, hfz110_4, hfz110_5⟩ := bk6 BK150.out
       go_wp2_with (first | ((with_reducible refine gate_callee (f := 33) rfl ?_); refine goesL_ (some 95) rfl rfl Tryd.func33 (by kernel_rfl) rfl #[.agg #[.int .i64 5, .int .i64 (wrap64 ((wrap64 (bt (rdOf ByteArray.empty t145 0) 1)) - 48)), .int .i64 0, .int .i64 0, .int .i64 0, .int .i64 0]] rfl (by (try simp only [List.map_toArray, List.map_cons, List.map_nil]); first | done | rfl | (simp only [List.length_drop, List.length_take]; rfl)) ?_; (with_reducible refine (spec_FormatOp.calls k2 5 (wrap64 ((wrap64 (bt (rdOf ByteArray.empty t145 0) 1)) - 48)) 0 0 0 0 t169 _ A102.out).mono ?_); rintro e w111 ⟨rfl, hb⟩; refine ⟨_, rfl, ?_⟩; replace HO_4 := AM_ (Kd.R_below (RF HO_4.out BK150.out) hb); replace HO_6 := AM_ (Kd.R_below (RF HO_6.out BK150.out) hb); replace BK144 := AM_ (BF BK144.out NB144_150.out hb); replace BK150 := AM_ (BP #[.int .i64 5, .int .i64 (wrap64 ((wrap64 (bt (rdOf ByteArray.empty t145 0) 1)) - 48)), .int .i64 0, .int .i64 0, .int .i64 0, .int .i64 0] BK150.out hb); replace HB := AM_ (below_step (BT HB.out) hb); (try clear hb); (try clear hb2); (try clear hk); (try clear hi); obtain ⟨hcz112_0, hcz112_1, hcz112_2, hcz112_3, hcz112_4, hcz112_5, hfz112_0, hfz112_1, hfz112_2, hfz112_3, hfz112_4, hfz112_5⟩ := bk6 BK144.out))
       refine bodyPost_ret (results_ct rfl _ _ gb144 36 #[.int .i64 0, .int .i64 0, .int .i64 0, .int .i64 0, .int .i64 0, .int .i64 0] (0, 0) _ rfl (by (with_reducible repeat (first | refine blk_drewN ?_ _ | refine blk_drew ?_ | refine blk_alloc ?_ _)); refine blk_put (cs := #[.int .i64 0, .int .i64 0, .int .i64 0, .int .i64 0, .int .i64 0, .int .i64 0]) ?_ 5 _ rfl; (with_reducible repeat (first | refine blk_drewN ?_ _ | refine blk_drew ?_ | refine blk_alloc ?_ _)); refine blk_put (cs := #[.int .i64 0, .int .i64 0, .int .i64 0, .int .i64 0, .int .i64 0, .int .i64 0]) ?_ 4 _ rfl; (with_reducible repeat (first | refine blk_drewN ?_ _ | refine blk_drew ?_ | refine blk_alloc ?_ _)); refine blk_put (cs := #[.int .i64 0, .int .i64 0, .int .i64 0, .int .i64 0, .int .i64 0, .int .i64 0]) ?_ 3 _ rfl; (with_reducible repeat (first | refine blk_drewN ?_ _ | refine blk_drew ?_ | refine blk_alloc ?_ _)); refine blk_put (cs := #[.int .i64 0, .int .i64 0, .int .i64 0, .int .i64 0, .int .i64 0, .int .i64 0]) ?_ 2 _ rfl; (with_reducible repeat (first | refine blk_drewN ?_ _ | refine blk_drew ?_ | refine blk_alloc ?_ _)); refine blk_put (cs := #[.int .i64 0, .int .i64 0, .int .i64 0, .int .i64 0, .int .i64 0, .int .i64 0]) ?_ 1 _ rfl; (with_reducible repeat (first | refine blk_drewN ?_ _ | refine blk_drew ?_ | refine blk_alloc ?_ _)); refine blk_put (cs := #[.int .i64 0, .int .i64 0, .int .i64 0, .int .i64 0, .int .i64 0, .int .i64 0]) ?_ 0 _ rfl; (with_reducible repeat (first | refine blk_drewN ?_ _ | refine blk_drew ?_ | refine blk_alloc ?_ _)); exact BK144.out) Tryd.underlying36 rfl (by kernel_rfl)) rfl ?_
       exact QT (BT HB.out)
      rw [if_pos c103] at H
      have c103b0 : (t169.toList == a0.toList) = true := beq_iff_eq.mpr c103
      have c103b1 : (t169.toList != a0.toList) = false := bne_eq_false_iff_eq.mpr c103
      clear c103
      simp only [Option.some.injEq, Prod.mk.injEq] at H
      obtain ⟨rfl, rfl, rfl, rfl, rfl, rfl, rfl⟩ := H
      have p157 : 0 ≤ (0 : Int) := (by omega)
      have q157 : 0 < (t145.length : Int) := DT
      obtain ⟨ad157, e157, hx157_0⟩ := Kd.at_string (Kd.R_reads' HO_4.out).2.2 0 p157 q157
      obtain rfl : ad149 = ad157 := (by injection e157)
      have qi157 : (0 < t145.length) = True := eq_true (by omega)
      (try rw [show ((0 : Int)).toNat = 0 from rfl] at hx157_0)
      (try rw [Addr.add_zero'] at hx157_0)
      replace p157 := eq_true p157
      replace q157 := eq_true q157
      have p33 : 0 ≤ (0 : Int) := (by omega)
      have q33 : 0 < (rdOf ByteArray.empty t145 0).size := (by have : (0 : Int) < ((rdOf ByteArray.empty t145 0).size : Int) := DT; omega)
      have hx33 : ∀ h : 0 < (rdOf ByteArray.empty t145 0).size, (((rdOf ByteArray.empty t145 0)[0]'h).toNat : Int) = bt (rdOf ByteArray.empty t145 0) 0 := bt_at (rdOf ByteArray.empty t145 0) 0
      clear p33
      have qi33 : (0 < ((rdOf ByteArray.empty t145 0).size : Int)) = True := eq_true (DT)
      replace q33 := eq_true q33
      have hnb104 := NB150_144.out
      have hnc104 := NB144_150.out
      obtain ⟨hcz105_0, hcz105_1, hcz105_2, hcz105_3, hcz105_4, hcz105_5, hfz105_0, hfz105_1, hfz105_2, hfz105_3, hfz105_4, hfz105_5⟩ := bk6 BK150.out
      go_wp2_with (first | ((with_reducible refine gate_callee (f := 33) rfl ?_); refine goesL_ (some 95) rfl rfl Tryd.func33 (by kernel_rfl) rfl #[.agg #[.int .i64 5, .int .i64 (wrap64 ((wrap64 (bt (rdOf ByteArray.empty t145 0) 1)) - 48)), .int .i64 0, .int .i64 0, .int .i64 0, .int .i64 0]] rfl (by (try simp only [List.map_toArray, List.map_cons, List.map_nil]); first | done | rfl | (simp only [List.length_drop, List.length_take]; rfl)) ?_; (with_reducible refine (spec_FormatOp.calls k2 5 (wrap64 ((wrap64 (bt (rdOf ByteArray.empty t145 0) 1)) - 48)) 0 0 0 0 t169 _ A102.out).mono ?_); rintro e w106 ⟨rfl, hb⟩; refine ⟨_, rfl, ?_⟩; replace HO_4 := AM_ (Kd.R_below (RF HO_4.out BK150.out) hb); replace HO_6 := AM_ (Kd.R_below (RF HO_6.out BK150.out) hb); replace BK144 := AM_ (BF BK144.out NB144_150.out hb); replace BK150 := AM_ (BP #[.int .i64 5, .int .i64 (wrap64 ((wrap64 (bt (rdOf ByteArray.empty t145 0) 1)) - 48)), .int .i64 0, .int .i64 0, .int .i64 0, .int .i64 0] BK150.out hb); replace HB := AM_ (below_step (BT HB.out) hb); (try clear hb); (try clear hb2); (try clear hk); (try clear hi); obtain ⟨hcz107_0, hcz107_1, hcz107_2, hcz107_3, hcz107_4, hcz107_5, hfz107_0, hfz107_1, hfz107_2, hfz107_3, hfz107_4, hfz107_5⟩ := bk6 BK150.out; obtain ⟨hcz108_0, hcz108_1, hcz108_2, hcz108_3, hcz108_4, hcz108_5, hfz108_0, hfz108_1, hfz108_2, hfz108_3, hfz108_4, hfz108_5⟩ := bk6 BK144.out))
      refine bodyPost_ret (results_ct rfl _ _ gb144 36 #[.int .i64 5, .int .i64 (wrap64 ((wrap64 (bt (rdOf ByteArray.empty t145 0) 1)) - 48)), .int .i64 0, .int .i64 0, .int .i64 0, .int .i64 0] (0, 0) _ rfl (by (with_reducible repeat (first | refine blk_drewN ?_ _ | refine blk_drew ?_ | refine blk_alloc ?_ _)); refine blk_put (cs := #[.int .i64 5, .int .i64 (wrap64 ((wrap64 (bt (rdOf ByteArray.empty t145 0) 1)) - 48)), .int .i64 0, .int .i64 0, .int .i64 0, .int .i64 0]) ?_ 5 _ rfl; (with_reducible repeat (first | refine blk_drewN ?_ _ | refine blk_drew ?_ | refine blk_alloc ?_ _)); refine blk_put (cs := #[.int .i64 5, .int .i64 (wrap64 ((wrap64 (bt (rdOf ByteArray.empty t145 0) 1)) - 48)), .int .i64 0, .int .i64 0, .int .i64 0, .int .i64 0]) ?_ 4 _ rfl; (with_reducible repeat (first | refine blk_drewN ?_ _ | refine blk_drew ?_ | refine blk_alloc ?_ _)); refine blk_put (cs := #[.int .i64 5, .int .i64 (wrap64 ((wrap64 (bt (rdOf ByteArray.empty t145 0) 1)) - 48)), .int .i64 0, .int .i64 0, .int .i64 0, .int .i64 0]) ?_ 3 _ rfl; (with_reducible repeat (first | refine blk_drewN ?_ _ | refine blk_drew ?_ | refine blk_alloc ?_ _)); refine blk_put (cs := #[.int .i64 5, .int .i64 (wrap64 ((wrap64 (bt (rdOf ByteArray.empty t145 0) 1)) - 48)), .int .i64 0, .int .i64 0, .int .i64 0, .int .i64 0]) ?_ 2 _ rfl; (with_reducible repeat (first | refine blk_drewN ?_ _ | refine blk_drew ?_ | refine blk_alloc ?_ _)); refine blk_put (cs := #[.int .i64 5, .int .i64 0, .int .i64 0, .int .i64 0, .int .i64 0, .int .i64 0]) ?_ 1 _ rfl; (with_reducible repeat (first | refine blk_drewN ?_ _ | refine blk_drew ?_ | refine blk_alloc ?_ _)); refine blk_put (cs := #[.int .i64 0, .int .i64 0, .int .i64 0, .int .i64 0, .int .i64 0, .int .i64 0]) ?_ 0 _ rfl; (with_reducible repeat (first | refine blk_drewN ?_ _ | refine blk_drew ?_ | refine blk_alloc ?_ _)); exact BK144.out) Tryd.underlying36 rfl (by kernel_rfl)) rfl ?_
      exact QT (BT HB.out)
     rw [if_neg c101] at H
     have c101b0 : ((bt (rdOf ByteArray.empty t145 0) 0) == 99) = false := beq_eq_false_iff_ne.mpr c101
     have c101b1 : ((bt (rdOf ByteArray.empty t145 0) 0) != 99) = true := bne_iff_ne.mpr c101
     by_cases c113 : (bt (rdOf ByteArray.empty t145 0) 0) = 97
     rotate_left
     ·rw [if_neg c113] at H
      have c113b0 : ((bt (rdOf ByteArray.empty t145 0) 0) == 97) = false := beq_eq_false_iff_ne.mpr c113
      have c113b1 : ((bt (rdOf ByteArray.empty t145 0) 0) != 97) = true := bne_iff_ne.mpr c113
      replace H := Option.bind_eq_some_iff.mp H
      obtain ⟨t171, A1250, H⟩ := H
      replace H : (if t171.toList = a0.toList then (some (0, (wrap64 ((wrap64 (bt (rdOf ByteArray.empty t145 0) 1)) - 48)), 0, 0, 0, 0, true)) else (some (0, 0, 0, 0, 0, 0, false))) = some (r1, r2, r3, r4, r5, r6, r7) := H
      have A125 := AM_ A1250
      clear A1250
      by_cases c126 : t171.toList = a0.toList
      rotate_left
      ·rw [if_neg c126] at H
       have c126b0 : (t171.toList == a0.toList) = false := beq_eq_false_iff_ne.mpr c126
       have c126b1 : (t171.toList != a0.toList) = true := bne_iff_ne.mpr c126
       simp only [Option.some.injEq, Prod.mk.injEq] at H
       obtain ⟨rfl, rfl, rfl, rfl, rfl, rfl, rfl⟩ := H
       have p157 : 0 ≤ (0 : Int) := (by omega)
       have q157 : 0 < (t145.length : Int) := DT
       obtain ⟨ad157, e157, hx157_0⟩ := Kd.at_string (Kd.R_reads' HO_4.out).2.2 0 p157 q157
       obtain rfl : ad149 = ad157 := (by injection e157)
       have qi157 : (0 < t145.length) = True := eq_true (by omega)
       (try rw [show ((0 : Int)).toNat = 0 from rfl] at hx157_0)
       (try rw [Addr.add_zero'] at hx157_0)
       replace p157 := eq_true p157
       replace q157 := eq_true q157
       have p33 : 0 ≤ (0 : Int) := (by omega)
       have q33 : 0 < (rdOf ByteArray.empty t145 0).size := (by have : (0 : Int) < ((rdOf ByteArray.empty t145 0).size : Int) := DT; omega)
       have hx33 : ∀ h : 0 < (rdOf ByteArray.empty t145 0).size, (((rdOf ByteArray.empty t145 0)[0]'h).toNat : Int) = bt (rdOf ByteArray.empty t145 0) 0 := bt_at (rdOf ByteArray.empty t145 0) 0
       clear p33
       have qi33 : (0 < ((rdOf ByteArray.empty t145 0).size : Int)) = True := eq_true (DT)
       replace q33 := eq_true q33
       have hnb132 := NB150_144.out
       have hnc132 := NB144_150.out
       obtain ⟨hcz133_0, hcz133_1, hcz133_2, hcz133_3, hcz133_4, hcz133_5, hfz133_0, hfz133_1, hfz133_2, hfz133_3, hfz133_4, hfz133_5⟩ := bk6 BK150.out
       go_wp2_with (first | ((with_reducible refine gate_callee (f := 33) rfl ?_); refine goesL_ (some 95) rfl rfl Tryd.func33 (by kernel_rfl) rfl #[.agg #[.int .i64 0, .int .i64 (wrap64 ((wrap64 (bt (rdOf ByteArray.empty t145 0) 1)) - 48)), .int .i64 0, .int .i64 0, .int .i64 0, .int .i64 0]] rfl (by (try simp only [List.map_toArray, List.map_cons, List.map_nil]); first | done | rfl | (simp only [List.length_drop, List.length_take]; rfl)) ?_; (with_reducible refine (spec_FormatOp.calls k2 0 (wrap64 ((wrap64 (bt (rdOf ByteArray.empty t145 0) 1)) - 48)) 0 0 0 0 t171 _ A125.out).mono ?_); rintro e w134 ⟨rfl, hb⟩; refine ⟨_, rfl, ?_⟩; replace HO_4 := AM_ (Kd.R_below (RT HO_4.out) hb); replace HO_6 := AM_ (Kd.R_below (RT HO_6.out) hb); replace BK144 := AM_ (BB BK144.out hb); replace BK150 := AM_ (BB BK150.out hb); replace HB := AM_ (below_step (BT HB.out) hb); (try clear hb); (try clear hb2); (try clear hk); (try clear hi); obtain ⟨hcz135_0, hcz135_1, hcz135_2, hcz135_3, hcz135_4, hcz135_5, hfz135_0, hfz135_1, hfz135_2, hfz135_3, hfz135_4, hfz135_5⟩ := bk6 BK144.out))
       refine bodyPost_ret (results_ct rfl _ _ gb144 36 #[.int .i64 0, .int .i64 0, .int .i64 0, .int .i64 0, .int .i64 0, .int .i64 0] (0, 0) _ rfl (by (with_reducible repeat (first | refine blk_drewN ?_ _ | refine blk_drew ?_ | refine blk_alloc ?_ _)); refine blk_put (cs := #[.int .i64 0, .int .i64 0, .int .i64 0, .int .i64 0, .int .i64 0, .int .i64 0]) ?_ 5 _ rfl; (with_reducible repeat (first | refine blk_drewN ?_ _ | refine blk_drew ?_ | refine blk_alloc ?_ _)); refine blk_put (cs := #[.int .i64 0, .int .i64 0, .int .i64 0, .int .i64 0, .int .i64 0, .int .i64 0]) ?_ 4 _ rfl; (with_reducible repeat (first | refine blk_drewN ?_ _ | refine blk_drew ?_ | refine blk_alloc ?_ _)); refine blk_put (cs := #[.int .i64 0, .int .i64 0, .int .i64 0, .int .i64 0, .int .i64 0, .int .i64 0]) ?_ 3 _ rfl; (with_reducible repeat (first | refine blk_drewN ?_ _ | refine blk_drew ?_ | refine blk_alloc ?_ _)); refine blk_put (cs := #[.int .i64 0, .int .i64 0, .int .i64 0, .int .i64 0, .int .i64 0, .int .i64 0]) ?_ 2 _ rfl; (with_reducible repeat (first | refine blk_drewN ?_ _ | refine blk_drew ?_ | refine blk_alloc ?_ _)); refine blk_put (cs := #[.int .i64 0, .int .i64 0, .int .i64 0, .int .i64 0, .int .i64 0, .int .i64 0]) ?_ 1 _ rfl; (with_reducible repeat (first | refine blk_drewN ?_ _ | refine blk_drew ?_ | refine blk_alloc ?_ _)); refine blk_put (cs := #[.int .i64 0, .int .i64 0, .int .i64 0, .int .i64 0, .int .i64 0, .int .i64 0]) ?_ 0 _ rfl; (with_reducible repeat (first | refine blk_drewN ?_ _ | refine blk_drew ?_ | refine blk_alloc ?_ _)); exact BK144.out) Tryd.underlying36 rfl (by kernel_rfl)) rfl ?_
       exact QT (BT HB.out)
      rw [if_pos c126] at H
      have c126b0 : (t171.toList == a0.toList) = true := beq_iff_eq.mpr c126
      have c126b1 : (t171.toList != a0.toList) = false := bne_eq_false_iff_eq.mpr c126
      clear c126
      simp only [Option.some.injEq, Prod.mk.injEq] at H
      obtain ⟨rfl, rfl, rfl, rfl, rfl, rfl, rfl⟩ := H
      have p157 : 0 ≤ (0 : Int) := (by omega)
      have q157 : 0 < (t145.length : Int) := DT
      obtain ⟨ad157, e157, hx157_0⟩ := Kd.at_string (Kd.R_reads' HO_4.out).2.2 0 p157 q157
      obtain rfl : ad149 = ad157 := (by injection e157)
      have qi157 : (0 < t145.length) = True := eq_true (by omega)
      (try rw [show ((0 : Int)).toNat = 0 from rfl] at hx157_0)
      (try rw [Addr.add_zero'] at hx157_0)
      replace p157 := eq_true p157
      replace q157 := eq_true q157
      have p33 : 0 ≤ (0 : Int) := (by omega)
      have q33 : 0 < (rdOf ByteArray.empty t145 0).size := (by have : (0 : Int) < ((rdOf ByteArray.empty t145 0).size : Int) := DT; omega)
      have hx33 : ∀ h : 0 < (rdOf ByteArray.empty t145 0).size, (((rdOf ByteArray.empty t145 0)[0]'h).toNat : Int) = bt (rdOf ByteArray.empty t145 0) 0 := bt_at (rdOf ByteArray.empty t145 0) 0
      clear p33
      have qi33 : (0 < ((rdOf ByteArray.empty t145 0).size : Int)) = True := eq_true (DT)
      replace q33 := eq_true q33
      have hnb127 := NB150_144.out
      have hnc127 := NB144_150.out
      obtain ⟨hcz128_0, hcz128_1, hcz128_2, hcz128_3, hcz128_4, hcz128_5, hfz128_0, hfz128_1, hfz128_2, hfz128_3, hfz128_4, hfz128_5⟩ := bk6 BK150.out
      go_wp2_with (first | ((with_reducible refine gate_callee (f := 33) rfl ?_); refine goesL_ (some 95) rfl rfl Tryd.func33 (by kernel_rfl) rfl #[.agg #[.int .i64 0, .int .i64 (wrap64 ((wrap64 (bt (rdOf ByteArray.empty t145 0) 1)) - 48)), .int .i64 0, .int .i64 0, .int .i64 0, .int .i64 0]] rfl (by (try simp only [List.map_toArray, List.map_cons, List.map_nil]); first | done | rfl | (simp only [List.length_drop, List.length_take]; rfl)) ?_; (with_reducible refine (spec_FormatOp.calls k2 0 (wrap64 ((wrap64 (bt (rdOf ByteArray.empty t145 0) 1)) - 48)) 0 0 0 0 t171 _ A125.out).mono ?_); rintro e w129 ⟨rfl, hb⟩; refine ⟨_, rfl, ?_⟩; replace HO_4 := AM_ (Kd.R_below (RT HO_4.out) hb); replace HO_6 := AM_ (Kd.R_below (RT HO_6.out) hb); replace BK144 := AM_ (BB BK144.out hb); replace BK150 := AM_ (BB BK150.out hb); replace HB := AM_ (below_step (BT HB.out) hb); (try clear hb); (try clear hb2); (try clear hk); (try clear hi); obtain ⟨hcz130_0, hcz130_1, hcz130_2, hcz130_3, hcz130_4, hcz130_5, hfz130_0, hfz130_1, hfz130_2, hfz130_3, hfz130_4, hfz130_5⟩ := bk6 BK150.out; obtain ⟨hcz131_0, hcz131_1, hcz131_2, hcz131_3, hcz131_4, hcz131_5, hfz131_0, hfz131_1, hfz131_2, hfz131_3, hfz131_4, hfz131_5⟩ := bk6 BK144.out))
      refine bodyPost_ret (results_ct rfl _ _ gb144 36 #[.int .i64 0, .int .i64 (wrap64 ((wrap64 (bt (rdOf ByteArray.empty t145 0) 1)) - 48)), .int .i64 0, .int .i64 0, .int .i64 0, .int .i64 0] (0, 0) _ rfl (by (with_reducible repeat (first | refine blk_drewN ?_ _ | refine blk_drew ?_ | refine blk_alloc ?_ _)); refine blk_put (cs := #[.int .i64 0, .int .i64 (wrap64 ((wrap64 (bt (rdOf ByteArray.empty t145 0) 1)) - 48)), .int .i64 0, .int .i64 0, .int .i64 0, .int .i64 0]) ?_ 5 _ rfl; (with_reducible repeat (first | refine blk_drewN ?_ _ | refine blk_drew ?_ | refine blk_alloc ?_ _)); refine blk_put (cs := #[.int .i64 0, .int .i64 (wrap64 ((wrap64 (bt (rdOf ByteArray.empty t145 0) 1)) - 48)), .int .i64 0, .int .i64 0, .int .i64 0, .int .i64 0]) ?_ 4 _ rfl; (with_reducible repeat (first | refine blk_drewN ?_ _ | refine blk_drew ?_ | refine blk_alloc ?_ _)); refine blk_put (cs := #[.int .i64 0, .int .i64 (wrap64 ((wrap64 (bt (rdOf ByteArray.empty t145 0) 1)) - 48)), .int .i64 0, .int .i64 0, .int .i64 0, .int .i64 0]) ?_ 3 _ rfl; (with_reducible repeat (first | refine blk_drewN ?_ _ | refine blk_drew ?_ | refine blk_alloc ?_ _)); refine blk_put (cs := #[.int .i64 0, .int .i64 (wrap64 ((wrap64 (bt (rdOf ByteArray.empty t145 0) 1)) - 48)), .int .i64 0, .int .i64 0, .int .i64 0, .int .i64 0]) ?_ 2 _ rfl; (with_reducible repeat (first | refine blk_drewN ?_ _ | refine blk_drew ?_ | refine blk_alloc ?_ _)); refine blk_put (cs := #[.int .i64 0, .int .i64 0, .int .i64 0, .int .i64 0, .int .i64 0, .int .i64 0]) ?_ 1 _ rfl; (with_reducible repeat (first | refine blk_drewN ?_ _ | refine blk_drew ?_ | refine blk_alloc ?_ _)); refine blk_put (cs := #[.int .i64 0, .int .i64 0, .int .i64 0, .int .i64 0, .int .i64 0, .int .i64 0]) ?_ 0 _ rfl; (with_reducible repeat (first | refine blk_drewN ?_ _ | refine blk_drew ?_ | refine blk_alloc ?_ _)); exact BK144.out) Tryd.underlying36 rfl (by kernel_rfl)) rfl ?_
      exact QT (BT HB.out)
     rw [if_pos c113] at H
     have c113b0 : ((bt (rdOf ByteArray.empty t145 0) 0) == 97) = true := beq_iff_eq.mpr c113
     have c113b1 : ((bt (rdOf ByteArray.empty t145 0) 0) != 97) = false := bne_eq_false_iff_eq.mpr c113
     clear c113
     replace H := Option.bind_eq_some_iff.mp H
     obtain ⟨t170, A1140, H⟩ := H
     replace H : (if t170.toList = a0.toList then (some (6, (wrap64 ((wrap64 (bt (rdOf ByteArray.empty t145 0) 1)) - 48)), 0, 0, 0, 0, true)) else (some (0, 0, 0, 0, 0, 0, false))) = some (r1, r2, r3, r4, r5, r6, r7) := H
     have A114 := AM_ A1140
     clear A1140
     by_cases c115 : t170.toList = a0.toList
     rotate_left
     ·rw [if_neg c115] at H
      have c115b0 : (t170.toList == a0.toList) = false := beq_eq_false_iff_ne.mpr c115
      have c115b1 : (t170.toList != a0.toList) = true := bne_iff_ne.mpr c115
      simp only [Option.some.injEq, Prod.mk.injEq] at H
      obtain ⟨rfl, rfl, rfl, rfl, rfl, rfl, rfl⟩ := H
      have p157 : 0 ≤ (0 : Int) := (by omega)
      have q157 : 0 < (t145.length : Int) := DT
      obtain ⟨ad157, e157, hx157_0⟩ := Kd.at_string (Kd.R_reads' HO_4.out).2.2 0 p157 q157
      obtain rfl : ad149 = ad157 := (by injection e157)
      have qi157 : (0 < t145.length) = True := eq_true (by omega)
      (try rw [show ((0 : Int)).toNat = 0 from rfl] at hx157_0)
      (try rw [Addr.add_zero'] at hx157_0)
      replace p157 := eq_true p157
      replace q157 := eq_true q157
      have p33 : 0 ≤ (0 : Int) := (by omega)
      have q33 : 0 < (rdOf ByteArray.empty t145 0).size := (by have : (0 : Int) < ((rdOf ByteArray.empty t145 0).size : Int) := DT; omega)
      have hx33 : ∀ h : 0 < (rdOf ByteArray.empty t145 0).size, (((rdOf ByteArray.empty t145 0)[0]'h).toNat : Int) = bt (rdOf ByteArray.empty t145 0) 0 := bt_at (rdOf ByteArray.empty t145 0) 0
      clear p33
      have qi33 : (0 < ((rdOf ByteArray.empty t145 0).size : Int)) = True := eq_true (DT)
      replace q33 := eq_true q33
      have hnb121 := NB150_144.out
      have hnc121 := NB144_150.out
      obtain ⟨hcz122_0, hcz122_1, hcz122_2, hcz122_3, hcz122_4, hcz122_5, hfz122_0, hfz122_1, hfz122_2, hfz122_3, hfz122_4, hfz122_5⟩ := bk6 BK150.out
      go_wp2_with (first | ((with_reducible refine gate_callee (f := 33) rfl ?_); refine goesL_ (some 95) rfl rfl Tryd.func33 (by kernel_rfl) rfl #[.agg #[.int .i64 6, .int .i64 (wrap64 ((wrap64 (bt (rdOf ByteArray.empty t145 0) 1)) - 48)), .int .i64 0, .int .i64 0, .int .i64 0, .int .i64 0]] rfl (by (try simp only [List.map_toArray, List.map_cons, List.map_nil]); first | done | rfl | (simp only [List.length_drop, List.length_take]; rfl)) ?_; (with_reducible refine (spec_FormatOp.calls k2 6 (wrap64 ((wrap64 (bt (rdOf ByteArray.empty t145 0) 1)) - 48)) 0 0 0 0 t170 _ A114.out).mono ?_); rintro e w123 ⟨rfl, hb⟩; refine ⟨_, rfl, ?_⟩; replace HO_4 := AM_ (Kd.R_below (RF HO_4.out BK150.out) hb); replace HO_6 := AM_ (Kd.R_below (RF HO_6.out BK150.out) hb); replace BK144 := AM_ (BF BK144.out NB144_150.out hb); replace BK150 := AM_ (BP #[.int .i64 6, .int .i64 (wrap64 ((wrap64 (bt (rdOf ByteArray.empty t145 0) 1)) - 48)), .int .i64 0, .int .i64 0, .int .i64 0, .int .i64 0] BK150.out hb); replace HB := AM_ (below_step (BT HB.out) hb); (try clear hb); (try clear hb2); (try clear hk); (try clear hi); obtain ⟨hcz124_0, hcz124_1, hcz124_2, hcz124_3, hcz124_4, hcz124_5, hfz124_0, hfz124_1, hfz124_2, hfz124_3, hfz124_4, hfz124_5⟩ := bk6 BK144.out))
      refine bodyPost_ret (results_ct rfl _ _ gb144 36 #[.int .i64 0, .int .i64 0, .int .i64 0, .int .i64 0, .int .i64 0, .int .i64 0] (0, 0) _ rfl (by (with_reducible repeat (first | refine blk_drewN ?_ _ | refine blk_drew ?_ | refine blk_alloc ?_ _)); refine blk_put (cs := #[.int .i64 0, .int .i64 0, .int .i64 0, .int .i64 0, .int .i64 0, .int .i64 0]) ?_ 5 _ rfl; (with_reducible repeat (first | refine blk_drewN ?_ _ | refine blk_drew ?_ | refine blk_alloc ?_ _)); refine blk_put (cs := #[.int .i64 0, .int .i64 0, .int .i64 0, .int .i64 0, .int .i64 0, .int .i64 0]) ?_ 4 _ rfl; (with_reducible repeat (first | refine blk_drewN ?_ _ | refine blk_drew ?_ | refine blk_alloc ?_ _)); refine blk_put (cs := #[.int .i64 0, .int .i64 0, .int .i64 0, .int .i64 0, .int .i64 0, .int .i64 0]) ?_ 3 _ rfl; (with_reducible repeat (first | refine blk_drewN ?_ _ | refine blk_drew ?_ | refine blk_alloc ?_ _)); refine blk_put (cs := #[.int .i64 0, .int .i64 0, .int .i64 0, .int .i64 0, .int .i64 0, .int .i64 0]) ?_ 2 _ rfl; (with_reducible repeat (first | refine blk_drewN ?_ _ | refine blk_drew ?_ | refine blk_alloc ?_ _)); refine blk_put (cs := #[.int .i64 0, .int .i64 0, .int .i64 0, .int .i64 0, .int .i64 0, .int .i64 0]) ?_ 1 _ rfl; (with_reducible repeat (first | refine blk_drewN ?_ _ | refine blk_drew ?_ | refine blk_alloc ?_ _)); refine blk_put (cs := #[.int .i64 0, .int .i64 0, .int .i64 0, .int .i64 0, .int .i64 0, .int .i64 0]) ?_ 0 _ rfl; (with_reducible repeat (first | refine blk_drewN ?_ _ | refine blk_drew ?_ | refine blk_alloc ?_ _)); exact BK144.out) Tryd.underlying36 rfl (by kernel_rfl)) rfl ?_
      exact QT (BT HB.out)
     rw [if_pos c115] at H
     have c115b0 : (t170.toList == a0.toList) = true := beq_iff_eq.mpr c115
     have c115b1 : (t170.toList != a0.toList) = false := bne_eq_false_iff_eq.mpr c115
     clear c115
     simp only [Option.some.injEq, Prod.mk.injEq] at H
     obtain ⟨rfl, rfl, rfl, rfl, rfl, rfl, rfl⟩ := H
     have p157 : 0 ≤ (0 : Int) := (by omega)
     have q157 : 0 < (t145.length : Int) := DT
     obtain ⟨ad157, e157, hx157_0⟩ := Kd.at_string (Kd.R_reads' HO_4.out).2.2 0 p157 q157
     obtain rfl : ad149 = ad157 := (by injection e157)
     have qi157 : (0 < t145.length) = True := eq_true (by omega)
     (try rw [show ((0 : Int)).toNat = 0 from rfl] at hx157_0)
     (try rw [Addr.add_zero'] at hx157_0)
     replace p157 := eq_true p157
     replace q157 := eq_true q157
     have p33 : 0 ≤ (0 : Int) := (by omega)
     have q33 : 0 < (rdOf ByteArray.empty t145 0).size := (by have : (0 : Int) < ((rdOf ByteArray.empty t145 0).size : Int) := DT; omega)
     have hx33 : ∀ h : 0 < (rdOf ByteArray.empty t145 0).size, (((rdOf ByteArray.empty t145 0)[0]'h).toNat : Int) = bt (rdOf ByteArray.empty t145 0) 0 := bt_at (rdOf ByteArray.empty t145 0) 0
     clear p33
     have qi33 : (0 < ((rdOf ByteArray.empty t145 0).size : Int)) = True := eq_true (DT)
     replace q33 := eq_true q33
     have hnb116 := NB150_144.out
     have hnc116 := NB144_150.out
     obtain ⟨hcz117_0, hcz117_1, hcz117_2, hcz117_3, hcz117_4, hcz117_5, hfz117_0, hfz117_1, hfz117_2, hfz117_3, hfz117_4, hfz117_5⟩ := bk6 BK150.out
     go_wp2_with (first | ((with_reducible refine gate_callee (f := 33) rfl ?_); refine goesL_ (some 95) rfl rfl Tryd.func33 (by kernel_rfl) rfl #[.agg #[.int .i64 6, .int .i64 (wrap64 ((wrap64 (bt (rdOf ByteArray.empty t145 0) 1)) - 48)), .int .i64 0, .int .i64 0, .int .i64 0, .int .i64 0]] rfl (by (try simp only [List.map_toArray, List.map_cons, List.map_nil]); first | done | rfl | (simp only [List.length_drop, List.length_take]; rfl)) ?_; (with_reducible refine (spec_FormatOp.calls k2 6 (wrap64 ((wrap64 (bt (rdOf ByteArray.empty t145 0) 1)) - 48)) 0 0 0 0 t170 _ A114.out).mono ?_); rintro e w118 ⟨rfl, hb⟩; refine ⟨_, rfl, ?_⟩; replace HO_4 := AM_ (Kd.R_below (RF HO_4.out BK150.out) hb); replace HO_6 := AM_ (Kd.R_below (RF HO_6.out BK150.out) hb); replace BK144 := AM_ (BF BK144.out NB144_150.out hb); replace BK150 := AM_ (BP #[.int .i64 6, .int .i64 (wrap64 ((wrap64 (bt (rdOf ByteArray.empty t145 0) 1)) - 48)), .int .i64 0, .int .i64 0, .int .i64 0, .int .i64 0] BK150.out hb); replace HB := AM_ (below_step (BT HB.out) hb); (try clear hb); (try clear hb2); (try clear hk); (try clear hi); obtain ⟨hcz119_0, hcz119_1, hcz119_2, hcz119_3, hcz119_4, hcz119_5, hfz119_0, hfz119_1, hfz119_2, hfz119_3, hfz119_4, hfz119_5⟩ := bk6 BK150.out; obtain ⟨hcz120_0, hcz120_1, hcz120_2, hcz120_3, hcz120_4, hcz120_5, hfz120_0, hfz120_1, hfz120_2, hfz120_3, hfz120_4, hfz120_5⟩ := bk6 BK144.out))
     refine bodyPost_ret (results_ct rfl _ _ gb144 36 #[.int .i64 6, .int .i64 (wrap64 ((wrap64 (bt (rdOf ByteArray.empty t145 0) 1)) - 48)), .int .i64 0, .int .i64 0, .int .i64 0, .int .i64 0] (0, 0) _ rfl (by (with_reducible repeat (first | refine blk_drewN ?_ _ | refine blk_drew ?_ | refine blk_alloc ?_ _)); refine blk_put (cs := #[.int .i64 6, .int .i64 (wrap64 ((wrap64 (bt (rdOf ByteArray.empty t145 0) 1)) - 48)), .int .i64 0, .int .i64 0, .int .i64 0, .int .i64 0]) ?_ 5 _ rfl; (with_reducible repeat (first | refine blk_drewN ?_ _ | refine blk_drew ?_ | refine blk_alloc ?_ _)); refine blk_put (cs := #[.int .i64 6, .int .i64 (wrap64 ((wrap64 (bt (rdOf ByteArray.empty t145 0) 1)) - 48)), .int .i64 0, .int .i64 0, .int .i64 0, .int .i64 0]) ?_ 4 _ rfl; (with_reducible repeat (first | refine blk_drewN ?_ _ | refine blk_drew ?_ | refine blk_alloc ?_ _)); refine blk_put (cs := #[.int .i64 6, .int .i64 (wrap64 ((wrap64 (bt (rdOf ByteArray.empty t145 0) 1)) - 48)), .int .i64 0, .int .i64 0, .int .i64 0, .int .i64 0]) ?_ 3 _ rfl; (with_reducible repeat (first | refine blk_drewN ?_ _ | refine blk_drew ?_ | refine blk_alloc ?_ _)); refine blk_put (cs := #[.int .i64 6, .int .i64 (wrap64 ((wrap64 (bt (rdOf ByteArray.empty t145 0) 1)) - 48)), .int .i64 0, .int .i64 0, .int .i64 0, .int .i64 0]) ?_ 2 _ rfl; (with_reducible repeat (first | refine blk_drewN ?_ _ | refine blk_drew ?_ | refine blk_alloc ?_ _)); refine blk_put (cs := #[.int .i64 6, .int .i64 0, .int .i64 0, .int .i64 0, .int .i64 0, .int .i64 0]) ?_ 1 _ rfl; (with_reducible repeat (first | refine blk_drewN ?_ _ | refine blk_drew ?_ | refine blk_alloc ?_ _)); refine blk_put (cs := #[.int .i64 0, .int .i64 0, .int .i64 0, .int .i64 0, .int .i64 0, .int .i64 0]) ?_ 0 _ rfl; (with_reducible repeat (first | refine blk_drewN ?_ _ | refine blk_drew ?_ | refine blk_alloc ?_ _)); exact BK144.out) Tryd.underlying36 rfl (by kernel_rfl)) rfl ?_
     exact QT (BT HB.out)

end Go.Proofs.YtgpmfkmdchcagaaDoor.PFnExactParseOps
