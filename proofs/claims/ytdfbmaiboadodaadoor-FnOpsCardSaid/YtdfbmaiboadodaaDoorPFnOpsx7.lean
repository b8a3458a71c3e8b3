-- Printed by a program of mine (wip/myprint.py), which runs the printer of the kit with contracts of mine beside it.
import Derived.Test.YtdfbmaiboadodaaDoorPFnOpsx0
import Derived.Test.YtdfbmaiboadodaaDoorPFnOpsx6
namespace Go.Proofs.YtdfbmaiboadodaaDoor.PFnOps
open Go.RowKit Go.Proofs.YtdfbmaiboadodaaDoorW.PrintWords Go.Proofs.YtdfbmaiboadodaaDoorW.PrintLast Go.Proofs.YtdfbmaiboadodaaDoorW.PrintMore
attribute [local go_sem] max2_int min2_int max_two min_two max_three min_three max_four min_four   -- for this text's walks alone
set_option linter.unusedVariables false
set_option linter.unusedSimpArgs false

/-! ### impl_ParseOp: function 7 -/
def impl_ParseOp.j0 : Nat → ByteArray → List ByteArray → Int → Int → Int → Int → Int → Option (Int × Int × Int × Int × Int × Int × Bool)
 | 0, _, _, _, _, _, _, _ => none
 | k + 1, x0, x4, x16, x29, x248000, x259002, x259003 => if x16 = 3 then (if 2 < (x4.length : Int) then ((impl_parseValue.f (rdOf ByteArray.empty x4 2)).bind fun bt275 => ((impl_FormatOp.f k x16 x29 x259002 x259003 x248000 bt275.1).bind fun t277 => (if t277.toList = x0.toList then (some (x16, x29, x259002, x259003, x248000, bt275.1, true)) else (some (0, 0, 0, 0, 0, 0, false))))) else (none)) else (if x16 = 4 then (if 2 < (x4.length : Int) then ((impl_ParseInt.f (rdOf ByteArray.empty x4 2)).bind fun bt279 => ((impl_FormatOp.f k x16 x29 x259002 x259003 bt279.1 x248000).bind fun t281 => (if t281.toList = x0.toList then (some (x16, x29, x259002, x259003, bt279.1, x248000, true)) else (some (0, 0, 0, 0, 0, 0, false))))) else (none)) else ((impl_FormatOp.f k x16 x29 x259002 x259003 x248000 x248000).bind fun t282 => (if t282.toList = x0.toList then (some (x16, x29, x259002, x259003, x248000, x248000, true)) else (some (0, 0, 0, 0, 0, 0, false)))))
def impl_ParseOp.f (k : Nat) (a0 : ByteArray) : Option (Int × Int × Int × Int × Int × Int × Bool) := if a0.toList = ([] : List UInt8) then (some (0, 0, 0, 0, 0, 0, false)) else ((strings_Split.f a0 (⟨#[32]⟩ : ByteArray)).bind fun t248 => ((some (([(⟨#[]⟩ : ByteArray), (⟨#[]⟩ : ByteArray)] : List ByteArray) : List ByteArray)).bind fun y251 => (if t248.length + y251.length < 8796093022208 then ((some (t248 ++ y251 : List ByteArray)).bind fun y254 => (if 0 < (a0.size : Int) then ((strings_IndexByte.f (⟨#[98, 114, 119, 115, 99, 97]⟩ : ByteArray) (bt a0 0)).bind fun t257 => (if 0 < (y254.length : Int) then (if (rdOf ByteArray.empty y254 0).toList = ([] : List UInt8) then (some (0, 0, 0, 0, 0, 0, false)) else (if 1 ≤ ((rdOf ByteArray.empty y254 0).size : Int) then ((impl_ParseInt.f ((rdOf ByteArray.empty y254 0).extract 1 (rdOf ByteArray.empty y254 0).size)).bind fun bt261 => (if (wrap64 (t257 + 1)) = 1 then (if 1 < (y254.length : Int) then ((impl_parseScheme.f k (rdOf ByteArray.empty y254 1)).bind fun t264 => (impl_ParseOp.j0 k a0 y254 (wrap64 (t257 + 1)) bt261.1 0 t264 0)) else (none)) else (if (wrap64 (t257 + 1)) = 2 then (if 1 < (y254.length : Int) then ((impl_ParseInt.f (rdOf ByteArray.empty y254 1)).bind fun bt266 => (impl_ParseOp.j0 k a0 y254 (wrap64 (t257 + 1)) bt261.1 0 0 bt266.1)) else (none)) else (if (wrap64 (t257 + 1)) = 3 then (if 1 < (y254.length : Int) then ((impl_ParseInt.f (rdOf ByteArray.empty y254 1)).bind fun bt269 => (impl_ParseOp.j0 k a0 y254 (wrap64 (t257 + 1)) bt261.1 0 0 bt269.1)) else (none)) else (if (wrap64 (t257 + 1)) = 4 then (if 1 < (y254.length : Int) then ((impl_ParseInt.f (rdOf ByteArray.empty y254 1)).bind fun bt272 => (impl_ParseOp.j0 k a0 y254 (wrap64 (t257 + 1)) bt261.1 0 0 bt272.1)) else (none)) else (impl_ParseOp.j0 k a0 y254 (wrap64 (t257 + 1)) bt261.1 0 0 0)))))) else (none))) else (none))) else (none))) else (none))))
theorem impl_ParseOp.mono_l : ∀ k, (∀ y0 y1 y2 y3 y4 y5 y6, LeO (impl_ParseOp.j0 k y0 y1 y2 y3 y4 y5 y6) (impl_ParseOp.j0 (k + 1) y0 y1 y2 y3 y4 y5 y6))
 | 0 => fun _ _ _ _ _ _ _ r h => by simp [impl_ParseOp.j0] at h
 | k + 1 => by
  have ih0 := impl_ParseOp.mono_l k
  ·intro y0 y1 y2 y3 y4 y5 y6
   unfold impl_ParseOp.j0
   repeat' first
   | (with_reducible exact ih0 _ _ _ _ _ _ _)
   | (with_reducible exact impl_FormatOp.mono _ _ _ _ _ _ _)
   | (with_reducible exact impl_parseScheme.mono _ _)
   | (with_reducible exact LeO.refl _)
   | (with_reducible exact LeO.none _)
   | (with_reducible refine LeO.ite ?_ ?_)
   | (with_reducible refine LeO.bind ?_ (fun _ => ?_))
   | exact ih0 _ _ _ _ _ _ _
   | exact impl_FormatOp.mono _ _ _ _ _ _ _
   | exact impl_parseScheme.mono _ _
   | exact LeO.none _
   | refine LeO.ite ?_ ?_
   | refine LeO.bind ?_ (fun _ => ?_)
theorem impl_ParseOp.mono : ∀ a0 k, LeO (impl_ParseOp.f k a0) (impl_ParseOp.f (k + 1) a0) := by
 intro a0 k
 have ih0 := impl_ParseOp.mono_l k
 unfold impl_ParseOp.f
 repeat' first
   | (with_reducible exact ih0 _ _ _ _ _ _ _)
   | (with_reducible exact impl_FormatOp.mono _ _ _ _ _ _ _)
   | (with_reducible exact impl_parseScheme.mono _ _)
   | (with_reducible exact LeO.refl _)
   | (with_reducible exact LeO.none _)
   | (with_reducible refine LeO.ite ?_ ?_)
   | (with_reducible refine LeO.bind ?_ (fun _ => ?_))
   | exact ih0 _ _ _ _ _ _ _
   | exact impl_FormatOp.mono _ _ _ _ _ _ _
   | exact impl_parseScheme.mono _ _
   | exact LeO.none _
   | refine LeO.ite ?_ ?_
   | refine LeO.bind ?_ (fun _ => ?_)
set_option maxHeartbeats 8000000 in
set_option maxRecDepth 100000 in
theorem impl_ParseOp.calls (k : Nat) (a0 : ByteArray) (r1 : Int) (r2 : Int) (r3 : Int) (r4 : Int) (r5 : Int) (r6 : Int) (r7 : Bool) (w : World) (hTB : Tryd.TB w) (h : impl_ParseOp.f k a0 = some (r1, r2, r3, r4, r5, r6, r7)) :
  Calls Tryd.prog 7 #[.string a0] w fun e w' => e = .returned (.tuple #[.agg #[.int .i64 r1, .int .i64 r2, .int .i64 r3, .int .i64 r4, .int .i64 r5, .int .i64 r6], .bool r7]) ∧ Below w.heap.size w w' := by
 have hu25 := Tryd.underlying25
 have HB := AM_ (Below.refl w.heap.size w)
 have H : (if a0.toList = ([] : List UInt8) then (some (0, 0, 0, 0, 0, 0, false)) else ((strings_Split.f a0 (⟨#[32]⟩ : ByteArray)).bind fun t248 => ((some (([(⟨#[]⟩ : ByteArray), (⟨#[]⟩ : ByteArray)] : List ByteArray) : List ByteArray)).bind fun y251 => (if t248.length + y251.length < 8796093022208 then ((some (t248 ++ y251 : List ByteArray)).bind fun y254 => (if 0 < (a0.size : Int) then ((strings_IndexByte.f (⟨#[98, 114, 119, 115, 99, 97]⟩ : ByteArray) (bt a0 0)).bind fun t257 => (if 0 < (y254.length : Int) then (if (rdOf ByteArray.empty y254 0).toList = ([] : List UInt8) then (some (0, 0, 0, 0, 0, 0, false)) else (if 1 ≤ ((rdOf ByteArray.empty y254 0).size : Int) then ((impl_ParseInt.f ((rdOf ByteArray.empty y254 0).extract 1 (rdOf ByteArray.empty y254 0).size)).bind fun bt261 => (if (wrap64 (t257 + 1)) = 1 then (if 1 < (y254.length : Int) then ((impl_parseScheme.f k (rdOf ByteArray.empty y254 1)).bind fun t264 => (impl_ParseOp.j0 k a0 y254 (wrap64 (t257 + 1)) bt261.1 0 t264 0)) else (none)) else (if (wrap64 (t257 + 1)) = 2 then (if 1 < (y254.length : Int) then ((impl_ParseInt.f (rdOf ByteArray.empty y254 1)).bind fun bt266 => (impl_ParseOp.j0 k a0 y254 (wrap64 (t257 + 1)) bt261.1 0 0 bt266.1)) else (none)) else (if (wrap64 (t257 + 1)) = 3 then (if 1 < (y254.length : Int) then ((impl_ParseInt.f (rdOf ByteArray.empty y254 1)).bind fun bt269 => (impl_ParseOp.j0 k a0 y254 (wrap64 (t257 + 1)) bt261.1 0 0 bt269.1)) else (none)) else (if (wrap64 (t257 + 1)) = 4 then (if 1 < (y254.length : Int) then ((impl_ParseInt.f (rdOf ByteArray.empty y254 1)).bind fun bt272 => (impl_ParseOp.j0 k a0 y254 (wrap64 (t257 + 1)) bt261.1 0 0 bt272.1)) else (none)) else (impl_ParseOp.j0 k a0 y254 (wrap64 (t257 + 1)) bt261.1 0 0 0)))))) else (none))) else (none))) else (none))) else (none))))) = some (r1, r2, r3, r4, r5, r6, r7) := h
 clear h
 by_cases c2 : a0.toList = ([] : List UInt8)
 ·rw [if_pos c2] at H
  have c2b0 : (a0.toList == ([] : List UInt8)) = true := beq_iff_eq.mpr c2
  have c2b1 : (a0.toList != ([] : List UInt8)) = false := bne_eq_false_iff_eq.mpr c2
  clear c2
  simp only [Option.some.injEq, Prod.mk.injEq] at H
  obtain ⟨rfl, rfl, rfl, rfl, rfl, rfl, rfl⟩ := H
  go_enter Tryd.func7, Tryd.ntmps7
  go_wp2_with (first | ((with_reducible refine gate_dst (N := 2) rfl ?_); refine box_event ?hg (N := 2) ?hd (cs := #[.int .i64 0, .int .i64 0, .int .i64 0, .int .i64 0, .int .i64 0, .int .i64 0]) (t := 25) ?hr ?_; (case hd => rfl); (case hg => rfl); (case hr => first | (go_simp; done) | (go_simp; rfl)); intro gb247 hg w3 hbox hb; have BK247 := AM_ (hbox); have GW247 := AM_ ((GS HB.out hg)); have GE247 := AM_ ((GS HB.out hg)); replace HB := AM_ (below_step (BT HB.out) hb); clear hb hbox hg; obtain ⟨hcz4_0, hcz4_1, hcz4_2, hcz4_3, hcz4_4, hcz4_5, hfz4_0, hfz4_1, hfz4_2, hfz4_3, hfz4_4, hfz4_5⟩ := bk6 BK247.out))
  refine bodyPost_ret (results_ct rfl _ _ gb247 25 #[.int .i64 0, .int .i64 0, .int .i64 0, .int .i64 0, .int .i64 0, .int .i64 0] (0, 0) _ rfl (by (with_reducible repeat (first | refine blk_drewN ?_ _ | refine blk_drew ?_ | refine blk_alloc ?_ _)); refine blk_put (cs := #[.int .i64 0, .int .i64 0, .int .i64 0, .int .i64 0, .int .i64 0, .int .i64 0]) ?_ 5 _ rfl; (with_reducible repeat (first | refine blk_drewN ?_ _ | refine blk_drew ?_ | refine blk_alloc ?_ _)); refine blk_put (cs := #[.int .i64 0, .int .i64 0, .int .i64 0, .int .i64 0, .int .i64 0, .int .i64 0]) ?_ 4 _ rfl; (with_reducible repeat (first | refine blk_drewN ?_ _ | refine blk_drew ?_ | refine blk_alloc ?_ _)); refine blk_put (cs := #[.int .i64 0, .int .i64 0, .int .i64 0, .int .i64 0, .int .i64 0, .int .i64 0]) ?_ 3 _ rfl; (with_reducible repeat (first | refine blk_drewN ?_ _ | refine blk_drew ?_ | refine blk_alloc ?_ _)); refine blk_put (cs := #[.int .i64 0, .int .i64 0, .int .i64 0, .int .i64 0, .int .i64 0, .int .i64 0]) ?_ 2 _ rfl; (with_reducible repeat (first | refine blk_drewN ?_ _ | refine blk_drew ?_ | refine blk_alloc ?_ _)); refine blk_put (cs := #[.int .i64 0, .int .i64 0, .int .i64 0, .int .i64 0, .int .i64 0, .int .i64 0]) ?_ 1 _ rfl; (with_reducible repeat (first | refine blk_drewN ?_ _ | refine blk_drew ?_ | refine blk_alloc ?_ _)); refine blk_put (cs := #[.int .i64 0, .int .i64 0, .int .i64 0, .int .i64 0, .int .i64 0, .int .i64 0]) ?_ 0 _ rfl; (with_reducible repeat (first | refine blk_drewN ?_ _ | refine blk_drew ?_ | refine blk_alloc ?_ _)); exact BK247.out) Tryd.underlying25 rfl (by kernel_rfl)) rfl ?_
  exact QT (BT HB.out)
 rw [if_neg c2] at H
 have c2b0 : (a0.toList == ([] : List UInt8)) = false := beq_eq_false_iff_ne.mpr c2
 have c2b1 : (a0.toList != ([] : List UInt8)) = true := bne_iff_ne.mpr c2
 replace H := Option.bind_eq_some_iff.mp H
 obtain ⟨t248, A50, H⟩ := H
 replace H : ((some (([(⟨#[]⟩ : ByteArray), (⟨#[]⟩ : ByteArray)] : List ByteArray) : List ByteArray)).bind fun y251 => (if t248.length + y251.length < 8796093022208 then ((some (t248 ++ y251 : List ByteArray)).bind fun y254 => (if 0 < (a0.size : Int) then ((strings_IndexByte.f (⟨#[98, 114, 119, 115, 99, 97]⟩ : ByteArray) (bt a0 0)).bind fun t257 => (if 0 < (y254.length : Int) then (if (rdOf ByteArray.empty y254 0).toList = ([] : List UInt8) then (some (0, 0, 0, 0, 0, 0, false)) else (if 1 ≤ ((rdOf ByteArray.empty y254 0).size : Int) then ((impl_ParseInt.f ((rdOf ByteArray.empty y254 0).extract 1 (rdOf ByteArray.empty y254 0).size)).bind fun bt261 => (if (wrap64 (t257 + 1)) = 1 then (if 1 < (y254.length : Int) then ((impl_parseScheme.f k (rdOf ByteArray.empty y254 1)).bind fun t264 => (impl_ParseOp.j0 k a0 y254 (wrap64 (t257 + 1)) bt261.1 0 t264 0)) else (none)) else (if (wrap64 (t257 + 1)) = 2 then (if 1 < (y254.length : Int) then ((impl_ParseInt.f (rdOf ByteArray.empty y254 1)).bind fun bt266 => (impl_ParseOp.j0 k a0 y254 (wrap64 (t257 + 1)) bt261.1 0 0 bt266.1)) else (none)) else (if (wrap64 (t257 + 1)) = 3 then (if 1 < (y254.length : Int) then ((impl_ParseInt.f (rdOf ByteArray.empty y254 1)).bind fun bt269 => (impl_ParseOp.j0 k a0 y254 (wrap64 (t257 + 1)) bt261.1 0 0 bt269.1)) else (none)) else (if (wrap64 (t257 + 1)) = 4 then (if 1 < (y254.length : Int) then ((impl_ParseInt.f (rdOf ByteArray.empty y254 1)).bind fun bt272 => (impl_ParseOp.j0 k a0 y254 (wrap64 (t257 + 1)) bt261.1 0 0 bt272.1)) else (none)) else (impl_ParseOp.j0 k a0 y254 (wrap64 (t257 + 1)) bt261.1 0 0 0)))))) else (none))) else (none))) else (none))) else (none))) = some (r1, r2, r3, r4, r5, r6, r7) := H
 have A5 := AM_ A50
 clear A50
 obtain ⟨y251, hy251⟩ : ∃ y_ : List ByteArray, y_ = (([(⟨#[]⟩ : ByteArray), (⟨#[]⟩ : ByteArray)] : List ByteArray)) := ⟨_, rfl⟩
 replace H : (if t248.length + y251.length < 8796093022208 then ((some (t248 ++ y251 : List ByteArray)).bind fun y254 => (if 0 < (a0.size : Int) then ((strings_IndexByte.f (⟨#[98, 114, 119, 115, 99, 97]⟩ : ByteArray) (bt a0 0)).bind fun t257 => (if 0 < (y254.length : Int) then (if (rdOf ByteArray.empty y254 0).toList = ([] : List UInt8) then (some (0, 0, 0, 0, 0, 0, false)) else (if 1 ≤ ((rdOf ByteArray.empty y254 0).size : Int) then ((impl_ParseInt.f ((rdOf ByteArray.empty y254 0).extract 1 (rdOf ByteArray.empty y254 0).size)).bind fun bt261 => (if (wrap64 (t257 + 1)) = 1 then (if 1 < (y254.length : Int) then ((impl_parseScheme.f k (rdOf ByteArray.empty y254 1)).bind fun t264 => (impl_ParseOp.j0 k a0 y254 (wrap64 (t257 + 1)) bt261.1 0 t264 0)) else (none)) else (if (wrap64 (t257 + 1)) = 2 then (if 1 < (y254.length : Int) then ((impl_ParseInt.f (rdOf ByteArray.empty y254 1)).bind fun bt266 => (impl_ParseOp.j0 k a0 y254 (wrap64 (t257 + 1)) bt261.1 0 0 bt266.1)) else (none)) else (if (wrap64 (t257 + 1)) = 3 then (if 1 < (y254.length : Int) then ((impl_ParseInt.f (rdOf ByteArray.empty y254 1)).bind fun bt269 => (impl_ParseOp.j0 k a0 y254 (wrap64 (t257 + 1)) bt261.1 0 0 bt269.1)) else (none)) else (if (wrap64 (t257 + 1)) = 4 then (if 1 < (y254.length : Int) then ((impl_ParseInt.f (rdOf ByteArray.empty y254 1)).bind fun bt272 => (impl_ParseOp.j0 k a0 y254 (wrap64 (t257 + 1)) bt261.1 0 0 bt272.1)) else (none)) else (impl_ParseOp.j0 k a0 y254 (wrap64 (t257 + 1)) bt261.1 0 0 0)))))) else (none))) else (none))) else (none))) else (none)) = some (r1, r2, r3, r4, r5, r6, r7) := by first | (rw [hy251]; with_reducible exact H) | (have H2_ := (Option.bind_some _ _).symm.trans H; rw [hy251]; with_reducible exact H2_) | (have H2_ := (Option.bind_some _ _).symm.trans H; with_reducible exact H2_) | with_reducible exact H | (rw [hy251]; exact H) | exact H
 have Ny251 := AM_ hy251
 clear hy251
 by_cases c6 : t248.length + y251.length < 8796093022208
 rotate_left
 ·rw [if_neg c6] at H
  exact absurd H (by simp)
 rw [if_pos c6] at H
 have LMc6 := AM_ c6
 clear c6
 obtain ⟨y254, hy254⟩ : ∃ y_ : List ByteArray, y_ = (t248 ++ y251) := ⟨_, rfl⟩
 replace H : (if 0 < (a0.size : Int) then ((strings_IndexByte.f (⟨#[98, 114, 119, 115, 99, 97]⟩ : ByteArray) (bt a0 0)).bind fun t257 => (if 0 < (y254.length : Int) then (if (rdOf ByteArray.empty y254 0).toList = ([] : List UInt8) then (some (0, 0, 0, 0, 0, 0, false)) else (if 1 ≤ ((rdOf ByteArray.empty y254 0).size : Int) then ((impl_ParseInt.f ((rdOf ByteArray.empty y254 0).extract 1 (rdOf ByteArray.empty y254 0).size)).bind fun bt261 => (if (wrap64 (t257 + 1)) = 1 then (if 1 < (y254.length : Int) then ((impl_parseScheme.f k (rdOf ByteArray.empty y254 1)).bind fun t264 => (impl_ParseOp.j0 k a0 y254 (wrap64 (t257 + 1)) bt261.1 0 t264 0)) else (none)) else (if (wrap64 (t257 + 1)) = 2 then (if 1 < (y254.length : Int) then ((impl_ParseInt.f (rdOf ByteArray.empty y254 1)).bind fun bt266 => (impl_ParseOp.j0 k a0 y254 (wrap64 (t257 + 1)) bt261.1 0 0 bt266.1)) else (none)) else (if (wrap64 (t257 + 1)) = 3 then (if 1 < (y254.length : Int) then ((impl_ParseInt.f (rdOf ByteArray.empty y254 1)).bind fun bt269 => (impl_ParseOp.j0 k a0 y254 (wrap64 (t257 + 1)) bt261.1 0 0 bt269.1)) else (none)) else (if (wrap64 (t257 + 1)) = 4 then (if 1 < (y254.length : Int) then ((impl_ParseInt.f (rdOf ByteArray.empty y254 1)).bind fun bt272 => (impl_ParseOp.j0 k a0 y254 (wrap64 (t257 + 1)) bt261.1 0 0 bt272.1)) else (none)) else (impl_ParseOp.j0 k a0 y254 (wrap64 (t257 + 1)) bt261.1 0 0 0)))))) else (none))) else (none))) else (none)) = some (r1, r2, r3, r4, r5, r6, r7) := by first | (rw [hy254]; with_reducible exact H) | (have H2_ := (Option.bind_some _ _).symm.trans H; rw [hy254]; with_reducible exact H2_) | (have H2_ := (Option.bind_some _ _).symm.trans H; with_reducible exact H2_) | with_reducible exact H | (rw [hy254]; exact H) | exact H
 have Ny254 := AM_ hy254
 clear hy254
 by_cases c7 : 0 < (a0.size : Int)
 rotate_left
 ·rw [if_neg c7] at H
  exact absurd H (by simp)
 rw [if_pos c7] at H
 have c7b0 : decide (0 < (a0.size : Int)) = true := decide_eq_true c7
 have c7b1 : decide (0 < a0.size) = true := decide_eq_true (by omega)
 clear c7
 replace H := Option.bind_eq_some_iff.mp H
 obtain ⟨t257, A90, H⟩ := H
 replace H : (if 0 < (y254.length : Int) then (if (rdOf ByteArray.empty y254 0).toList = ([] : List UInt8) then (some (0, 0, 0, 0, 0, 0, false)) else (if 1 ≤ ((rdOf ByteArray.empty y254 0).size : Int) then ((impl_ParseInt.f ((rdOf ByteArray.empty y254 0).extract 1 (rdOf ByteArray.empty y254 0).size)).bind fun bt261 => (if (wrap64 (t257 + 1)) = 1 then (if 1 < (y254.length : Int) then ((impl_parseScheme.f k (rdOf ByteArray.empty y254 1)).bind fun t264 => (impl_ParseOp.j0 k a0 y254 (wrap64 (t257 + 1)) bt261.1 0 t264 0)) else (none)) else (if (wrap64 (t257 + 1)) = 2 then (if 1 < (y254.length : Int) then ((impl_ParseInt.f (rdOf ByteArray.empty y254 1)).bind fun bt266 => (impl_ParseOp.j0 k a0 y254 (wrap64 (t257 + 1)) bt261.1 0 0 bt266.1)) else (none)) else (if (wrap64 (t257 + 1)) = 3 then (if 1 < (y254.length : Int) then ((impl_ParseInt.f (rdOf ByteArray.empty y254 1)).bind fun bt269 => (impl_ParseOp.j0 k a0 y254 (wrap64 (t257 + 1)) bt261.1 0 0 bt269.1)) else (none)) else (if (wrap64 (t257 + 1)) = 4 then (if 1 < (y254.length : Int) then ((impl_ParseInt.f (rdOf ByteArray.empty y254 1)).bind fun bt272 => (impl_ParseOp.j0 k a0 y254 (wrap64 (t257 + 1)) bt261.1 0 0 bt272.1)) else (none)) else (impl_ParseOp.j0 k a0 y254 (wrap64 (t257 + 1)) bt261.1 0 0 0)))))) else (none))) else (none)) = some (r1, r2, r3, r4, r5, r6, r7) := H
 have A9 := AM_ A90
 clear A90
 by_cases c10 : 0 < (y254.length : Int)
 rotate_left
 ·rw [if_neg c10] at H
  exact absurd H (by simp)
 rw [if_pos c10] at H
 have c10b0 : decide (0 < (y254.length : Int)) = true := decide_eq_true c10
 have c10b1 : decide (0 < y254.length) = true := decide_eq_true (by omega)
 clear c10
 by_cases c11 : (rdOf ByteArray.empty y254 0).toList = ([] : List UInt8)
 ·rw [if_pos c11] at H
  have c11b0 : ((rdOf ByteArray.empty y254 0).toList == ([] : List UInt8)) = true := beq_iff_eq.mpr c11
  have c11b1 : ((rdOf ByteArray.empty y254 0).toList != ([] : List UInt8)) = false := bne_eq_false_iff_eq.mpr c11
  clear c11
  simp only [Option.some.injEq, Prod.mk.injEq] at H
  obtain ⟨rfl, rfl, rfl, rfl, rfl, rfl, rfl⟩ := H
  go_enter Tryd.func7, Tryd.ntmps7
  go_wp2_with (first | ((with_reducible refine gate_dst (N := 2) rfl ?_); refine box_event ?hg (N := 2) ?hd (cs := #[.int .i64 0, .int .i64 0, .int .i64 0, .int .i64 0, .int .i64 0, .int .i64 0]) (t := 25) ?hr ?_; (case hd => rfl); (case hg => rfl); (case hr => first | (go_simp; done) | (go_simp; rfl)); intro gb247 hg w12 hbox hb; have BK247 := AM_ (hbox); have GW247 := AM_ ((GS HB.out hg)); have GE247 := AM_ ((GS HB.out hg)); replace HB := AM_ (below_step (BT HB.out) hb); clear hb hbox hg) | ((with_reducible refine gate_callee (f := 20) rfl ?_); refine goesL_ (some 10) rfl rfl Tryd.func20 (by kernel_rfl) rfl #[.string a0, .string (⟨#[32]⟩ : ByteArray)] rfl (by (try simp only [List.map_toArray, List.map_cons, List.map_nil]); first | done | rfl | (simp only [List.length_drop, List.length_take]; rfl)) ?_; (with_reducible refine (strings_Split.calls a0 (⟨#[32]⟩ : ByteArray) t248 _ ?side1 A5.out).mono ?_); (case side1 => first | (with_reducible exact hTB) | exact Tryd.TB_below hTB (BT HB.out)); rintro e w13 ⟨v249, rfl, ho0, hb⟩; refine ⟨_, rfl, ?_⟩; have HO250 := AM_ (Kd.R_lower ho0 (below_size (BT HB.out))); replace BK247 := AM_ (BB BK247.out hb); replace HB := AM_ (below_step (BT HB.out) hb); (try clear hb); (try clear hb2); (try clear hk); (try clear hi); (try clear ho0)) | ((with_reducible refine gate_dst (N := 11) rfl ?_); refine Kd.R_lit Kd.string _ 9 ?hg (N := 11) ?hd (xs := ([(⟨#[]⟩ : ByteArray), (⟨#[]⟩ : ByteArray)] : List ByteArray)) (inner := [.string (⟨#[]⟩ : ByteArray), .string (⟨#[]⟩ : ByteArray)]) (ok := fun _ => True) (okp := fun _ => True) ?hr ?hp (fun _ hk => hk) trivial (Below.refl _ _) (Nat.le_refl _) (by simp) ?_; (case hd => rfl); (case hg => rfl); (case hr => first | (go_simp; done) | (go_simp; rfl)); (case hp => exact (Reps.one (show Kd.M Kd.string _ _ _ (⟨#[]⟩ : ByteArray) [.string (⟨#[]⟩ : ByteArray)] from rfl) (Reps.one (show Kd.M Kd.string _ _ _ (⟨#[]⟩ : ByteArray) [.string (⟨#[]⟩ : ByteArray)] from rfl) (Reps.none _ _)))); intro v252 w14 ho15 hb hg_ hnew_; clear hg_ hnew_; (first | rw [← Ny251.out] at ho15 | (simp only [Int.reduceToNat] at ho15; rw [← Ny251.out] at ho15)); have HO253 := AM_ (Kd.R_lower (Kd.R_new' ho15 (Kd.R_lt (RT HO250.out))) (below_size (BT HB.out))); replace HO250 := AM_ (Kd.R_elder' (RT HO250.out) (Kd.R_base ho15) hb); replace BK247 := AM_ (BB BK247.out hb); replace HB := AM_ (below_step (BT HB.out) hb); clear hb ho15; obtain ⟨Ao17, co17, eo17⟩ := Kd.R_slice HO253.out; subst eo17) | ((with_reducible refine gate_builtin (b := .append) (xs := #[.tmp 10, .tmp 11]) rfl ?_); at_builtin; refine Kd.R_append_rows Kd.string (w0 := w) w.heap.size rfl (.tmp 10) (.tmp 11) 41 9 (.string ⟨#[]⟩) 16 rfl Tryd.underlying41 info9 rfl (by decide) (by omega) v249 t248 y251 _ _ _ (fun k_ => some k_ ≠ (.slice Ao17 y251.length co17 : Value).ownBlock) (fun _ => False) rfl rfl ?aO ?aR (fun _ _ h => h) (fun _ h => h.elim) ?aF ?aB ?aS ?aL ?_; (case aR => exact Kd.C_below (Kd.R_reads' HO253.out).2.2 (BL (Below.refl _ _) rfl rfl rfl rfl)); (case aB => exact (BT HB.out)); (case aF => exact (fun k_ hk => Kd.fresh' (Kd.R_lt (RT HO253.out)) k_ hk)); (case aO => exact (by (with_reducible repeat (first | apply Kd.R_alloc | apply Kd.R_drewN | apply Kd.R_drew)); exact Kd.R_mono HO250.out (fun _ hk => hk.2))); (case aS => exact (below_size (BT HB.out))); (case aL => have := LMc6.out; omega); intro v255 w16 ho hb hg hat; rw [← Ny254.out] at ho; have n0_ := AM_ (blk_grown (g := gb247) (o := .cells #[.int .i64 0, .int .i64 0, .int .i64 0, .int .i64 0, .int .i64 0, .int .i64 0] 25 (0, 0)) (by (with_reducible repeat (first | refine blk_drewN ?_ _ | refine blk_drew ?_ | refine blk_alloc ?_ _)); exact BK247.out) hg (Kd.R_ne HO250.out BK247.out (by decide))); have n1_ := AM_ (Kd.R_after (ok := (fun _ => True)) (RT HO253.out) hg hat); have n2_ := AM_ (hb); have n3_ := AM_ (ho); clear BK247; clear HO253; clear HB; clear HO250; have BK247 := n0_; have HO253 := n1_; have HB := n2_; have HO256 := n3_; clear n0_ n1_ n2_ n3_; clear ho hb hg hat; have p8 : 0 ≤ (0 : Int) := (by omega); have q8 : 0 < a0.size := (by have : (0 : Int) < (a0.size : Int) := DT; omega); have hx8 : ∀ h : 0 < a0.size, ((a0[0]'h).toNat : Int) = bt a0 0 := bt_at a0 0; clear p8; have qi8 : (0 < (a0.size : Int)) = True := eq_true (DT); replace q8 := eq_true q8) | ((with_reducible refine gate_callee (f := 21) rfl ?_); refine goesL_ (some 15) rfl rfl Tryd.func21 (by kernel_rfl) rfl #[.string (⟨#[98, 114, 119, 115, 99, 97]⟩ : ByteArray), .int .u8 (bt a0 0)] rfl (by (try simp only [List.map_toArray, List.map_cons, List.map_nil]); first | done | rfl | (simp only [List.length_drop, List.length_take]; rfl)) ?_; (with_reducible refine (strings_IndexByte.calls (⟨#[98, 114, 119, 115, 99, 97]⟩ : ByteArray) (bt a0 0) t257 _ A9.out).mono ?_); rintro e w18 ⟨rfl, hb⟩; refine ⟨_, rfl, ?_⟩; replace HO253 := AM_ (Kd.R_below (RT HO253.out) hb); replace HO256 := AM_ (Kd.R_below (RT HO256.out) hb); replace BK247 := AM_ (BB BK247.out hb); replace HB := AM_ (below_step (BT HB.out) hb); (try clear hb); (try clear hb2); (try clear hk); (try clear hi)) | ((with_reducible refine gate_dst (N := 5) rfl ?_); refine box_event ?hg (N := 5) ?hd (cs := #[.int .i64 0, .int .i64 0, .int .i64 0, .int .i64 0, .int .i64 0, .int .i64 0]) (t := 25) ?hr ?_; (case hd => rfl); (case hg => rfl); (case hr => first | (go_simp; done) | (go_simp; rfl)); intro gb258 hg w19 hbox hb; replace HO253 := AM_ (Kd.R_below (RT HO253.out) hb); replace HO256 := AM_ (Kd.R_below (RT HO256.out) hb); have BK258 := AM_ (hbox); have GW258 := AM_ ((GS HB.out hg)); have GE258 := AM_ ((GS HB.out hg)); replace HB := AM_ (below_step (BT HB.out) hb); have NB247_258 := AM_ ((NL BK247.out hg)); have NB258_247 := AM_ ((NG BK247.out hg)); replace BK247 := AM_ (BB BK247.out hb); clear hb hbox hg; have hnb20 := NB258_247.out; have hnc20 := NB247_258.out; obtain ⟨hcz21_0, hcz21_1, hcz21_2, hcz21_3, hcz21_4, hcz21_5, hfz21_0, hfz21_1, hfz21_2, hfz21_3, hfz21_4, hfz21_5⟩ := bk6 BK258.out; obtain ⟨Ao22, co22, eo22⟩ := Kd.R_slice HO256.out; subst eo22; have p259 : 0 ≤ (0 : Int) := (by omega); have q259 : 0 < (y254.length : Int) := DT; obtain ⟨ad259, e259, hx259_0⟩ := Kd.at_string (Kd.R_reads' HO256.out).2.2 0 p259 q259; cases e259; have qi259 : (0 < y254.length) = True := eq_true (by omega); (try rw [show ((0 : Int)).toNat = 0 from rfl] at hx259_0); (try rw [Addr.add_zero'] at hx259_0); have hn259_0 : ad259.block ≠ gb258 := Kd.own_blk (Kd.R_ne HO256.out BK258.out (by decide)); have hn259_1 : ad259.block ≠ gb258 := Kd.own_blk (Kd.R_ne HO256.out BK258.out (by decide)); have hn259_2 : ad259.block ≠ gb258 := Kd.own_blk (Kd.R_ne HO256.out BK258.out (by decide)); have hn259_3 : ad259.block ≠ gb258 := Kd.own_blk (Kd.R_ne HO256.out BK258.out (by decide)); have hn259_4 : ad259.block ≠ gb258 := Kd.own_blk (Kd.R_ne HO256.out BK258.out (by decide)); have hn259_5 : ad259.block ≠ gb258 := Kd.own_blk (Kd.R_ne HO256.out BK258.out (by decide)); replace hx259_0 := (cell_far (p := ⟨gb258, 0, none⟩) (by first | (rw [add_block]; exact hn259_0) | (show (Addr.add _ _).block ≠ _; rw [add_block]; exact hn259_0) | exact hn259_0) (.int .i64 (wrap64 (t257 + 1)))).trans hx259_0; replace hx259_0 := (cell_far (p := ⟨gb258, 1, none⟩) (by first | (rw [add_block]; exact hn259_1) | (show (Addr.add _ _).block ≠ _; rw [add_block]; exact hn259_1) | exact hn259_1) (.int .i64 0)).trans hx259_0; replace hx259_0 := (cell_far (p := ⟨gb258, 2, none⟩) (by first | (rw [add_block]; exact hn259_2) | (show (Addr.add _ _).block ≠ _; rw [add_block]; exact hn259_2) | exact hn259_2) (.int .i64 0)).trans hx259_0; replace hx259_0 := (cell_far (p := ⟨gb258, 3, none⟩) (by first | (rw [add_block]; exact hn259_3) | (show (Addr.add _ _).block ≠ _; rw [add_block]; exact hn259_3) | exact hn259_3) (.int .i64 0)).trans hx259_0; replace hx259_0 := (cell_far (p := ⟨gb258, 4, none⟩) (by first | (rw [add_block]; exact hn259_4) | (show (Addr.add _ _).block ≠ _; rw [add_block]; exact hn259_4) | exact hn259_4) (.int .i64 0)).trans hx259_0; replace hx259_0 := (cell_far (p := ⟨gb258, 5, none⟩) (by first | (rw [add_block]; exact hn259_5) | (show (Addr.add _ _).block ≠ _; rw [add_block]; exact hn259_5) | exact hn259_5) (.int .i64 0)).trans hx259_0; clear hn259_0; clear hn259_1; clear hn259_2; clear hn259_3; clear hn259_4; clear hn259_5; replace p259 := eq_true p259; replace q259 := eq_true q259; obtain ⟨hcz23_0, hcz23_1, hcz23_2, hcz23_3, hcz23_4, hcz23_5, hfz23_0, hfz23_1, hfz23_2, hfz23_3, hfz23_4, hfz23_5⟩ := bk6 BK247.out))
  refine bodyPost_ret (results_ct rfl _ _ gb247 25 #[.int .i64 0, .int .i64 0, .int .i64 0, .int .i64 0, .int .i64 0, .int .i64 0] (0, 0) _ rfl (by (with_reducible repeat (first | refine blk_drewN ?_ _ | refine blk_drew ?_ | refine blk_alloc ?_ _)); refine blk_put (cs := #[.int .i64 0, .int .i64 0, .int .i64 0, .int .i64 0, .int .i64 0, .int .i64 0]) ?_ 5 _ rfl; (with_reducible repeat (first | refine blk_drewN ?_ _ | refine blk_drew ?_ | refine blk_alloc ?_ _)); refine blk_put (cs := #[.int .i64 0, .int .i64 0, .int .i64 0, .int .i64 0, .int .i64 0, .int .i64 0]) ?_ 4 _ rfl; (with_reducible repeat (first | refine blk_drewN ?_ _ | refine blk_drew ?_ | refine blk_alloc ?_ _)); refine blk_put (cs := #[.int .i64 0, .int .i64 0, .int .i64 0, .int .i64 0, .int .i64 0, .int .i64 0]) ?_ 3 _ rfl; (with_reducible repeat (first | refine blk_drewN ?_ _ | refine blk_drew ?_ | refine blk_alloc ?_ _)); refine blk_put (cs := #[.int .i64 0, .int .i64 0, .int .i64 0, .int .i64 0, .int .i64 0, .int .i64 0]) ?_ 2 _ rfl; (with_reducible repeat (first | refine blk_drewN ?_ _ | refine blk_drew ?_ | refine blk_alloc ?_ _)); refine blk_put (cs := #[.int .i64 0, .int .i64 0, .int .i64 0, .int .i64 0, .int .i64 0, .int .i64 0]) ?_ 1 _ rfl; (with_reducible repeat (first | refine blk_drewN ?_ _ | refine blk_drew ?_ | refine blk_alloc ?_ _)); refine blk_put (cs := #[.int .i64 0, .int .i64 0, .int .i64 0, .int .i64 0, .int .i64 0, .int .i64 0]) ?_ 0 _ rfl; (with_reducible repeat (first | refine blk_drewN ?_ _ | refine blk_drew ?_ | refine blk_alloc ?_ _)); refine blk_far ?_ NB247_258.out _; (with_reducible repeat (first | refine blk_drewN ?_ _ | refine blk_drew ?_ | refine blk_alloc ?_ _)); refine blk_far ?_ NB247_258.out _; (with_reducible repeat (first | refine blk_drewN ?_ _ | refine blk_drew ?_ | refine blk_alloc ?_ _)); refine blk_far ?_ NB247_258.out _; (with_reducible repeat (first | refine blk_drewN ?_ _ | refine blk_drew ?_ | refine blk_alloc ?_ _)); refine blk_far ?_ NB247_258.out _; (with_reducible repeat (first | refine blk_drewN ?_ _ | refine blk_drew ?_ | refine blk_alloc ?_ _)); refine blk_far ?_ NB247_258.out _; (with_reducible repeat (first | refine blk_drewN ?_ _ | refine blk_drew ?_ | refine blk_alloc ?_ _)); refine blk_far ?_ NB247_258.out _; (with_reducible repeat (first | refine blk_drewN ?_ _ | refine blk_drew ?_ | refine blk_alloc ?_ _)); exact BK247.out) Tryd.underlying25 rfl (by kernel_rfl)) rfl ?_
  exact QT (BT HB.out)
 rw [if_neg c11] at H
 have c11b0 : ((rdOf ByteArray.empty y254 0).toList == ([] : List UInt8)) = false := beq_eq_false_iff_ne.mpr c11
 have c11b1 : ((rdOf ByteArray.empty y254 0).toList != ([] : List UInt8)) = true := bne_iff_ne.mpr c11
 by_cases c24 : 1 ≤ ((rdOf ByteArray.empty y254 0).size : Int)
 rotate_left
 ·rw [if_neg c24] at H
  exact absurd H (by simp)
 rw [if_pos c24] at H
 have c24b0 := eq_true c24
 have c24b1 : decide (1 ≤ ((rdOf ByteArray.empty y254 0).size : Int)) = true := decide_eq_true c24
 clear c24
 replace H := Option.bind_eq_some_iff.mp H
 obtain ⟨⟨t261, t262⟩, A250, H⟩ := H
 replace H : (if (wrap64 (t257 + 1)) = 1 then (if 1 < (y254.length : Int) then ((impl_parseScheme.f k (rdOf ByteArray.empty y254 1)).bind fun t264 => (impl_ParseOp.j0 k a0 y254 (wrap64 (t257 + 1)) t261 0 t264 0)) else (none)) else (if (wrap64 (t257 + 1)) = 2 then (if 1 < (y254.length : Int) then ((impl_ParseInt.f (rdOf ByteArray.empty y254 1)).bind fun bt266 => (impl_ParseOp.j0 k a0 y254 (wrap64 (t257 + 1)) t261 0 0 bt266.1)) else (none)) else (if (wrap64 (t257 + 1)) = 3 then (if 1 < (y254.length : Int) then ((impl_ParseInt.f (rdOf ByteArray.empty y254 1)).bind fun bt269 => (impl_ParseOp.j0 k a0 y254 (wrap64 (t257 + 1)) t261 0 0 bt269.1)) else (none)) else (if (wrap64 (t257 + 1)) = 4 then (if 1 < (y254.length : Int) then ((impl_ParseInt.f (rdOf ByteArray.empty y254 1)).bind fun bt272 => (impl_ParseOp.j0 k a0 y254 (wrap64 (t257 + 1)) t261 0 0 bt272.1)) else (none)) else (impl_ParseOp.j0 k a0 y254 (wrap64 (t257 + 1)) t261 0 0 0))))) = some (r1, r2, r3, r4, r5, r6, r7) := H
 have A25 := AM_ A250
 clear A250
 have HC26 := AM_ H
 clear H
 go_enter Tryd.func7, Tryd.ntmps7
 go_upto_block 0 with (first | ((with_reducible refine gate_dst (N := 2) rfl ?_); refine box_event ?hg (N := 2) ?hd (cs := #[.int .i64 0, .int .i64 0, .int .i64 0, .int .i64 0, .int .i64 0, .int .i64 0]) (t := 25) ?hr ?_; (case hd => rfl); (case hg => rfl); (case hr => first | (go_simp; done) | (go_simp; rfl)); intro gb247 hg w27 hbox hb; have BK247 := AM_ (hbox); have GW247 := AM_ ((GS HB.out hg)); have GE247 := AM_ ((GS HB.out hg)); replace HB := AM_ (below_step (BT HB.out) hb); clear hb hbox hg) | ((with_reducible refine gate_callee (f := 20) rfl ?_); refine goesL_ (some 10) rfl rfl Tryd.func20 (by kernel_rfl) rfl #[.string a0, .string (⟨#[32]⟩ : ByteArray)] rfl (by (try simp only [List.map_toArray, List.map_cons, List.map_nil]); first | done | rfl | (simp only [List.length_drop, List.length_take]; rfl)) ?_; (with_reducible refine (strings_Split.calls a0 (⟨#[32]⟩ : ByteArray) t248 _ ?side1 A5.out).mono ?_); (case side1 => first | (with_reducible exact hTB) | exact Tryd.TB_below hTB (BT HB.out)); rintro e w28 ⟨v249, rfl, ho0, hb⟩; refine ⟨_, rfl, ?_⟩; have HO250 := AM_ (Kd.R_lower ho0 (below_size (BT HB.out))); replace BK247 := AM_ (BB BK247.out hb); replace HB := AM_ (below_step (BT HB.out) hb); (try clear hb); (try clear hb2); (try clear hk); (try clear hi); (try clear ho0)) | ((with_reducible refine gate_dst (N := 11) rfl ?_); refine Kd.R_lit Kd.string _ 9 ?hg (N := 11) ?hd (xs := ([(⟨#[]⟩ : ByteArray), (⟨#[]⟩ : ByteArray)] : List ByteArray)) (inner := [.string (⟨#[]⟩ : ByteArray), .string (⟨#[]⟩ : ByteArray)]) (ok := fun _ => True) (okp := fun _ => True) ?hr ?hp (fun _ hk => hk) trivial (Below.refl _ _) (Nat.le_refl _) (by simp) ?_; (case hd => rfl); (case hg => rfl); (case hr => first | (go_simp; done) | (go_simp; rfl)); (case hp => exact (Reps.one (show Kd.M Kd.string _ _ _ (⟨#[]⟩ : ByteArray) [.string (⟨#[]⟩ : ByteArray)] from rfl) (Reps.one (show Kd.M Kd.string _ _ _ (⟨#[]⟩ : ByteArray) [.string (⟨#[]⟩ : ByteArray)] from rfl) (Reps.none _ _)))); intro v252 w29 ho30 hb hg_ hnew_; clear hg_ hnew_; (first | rw [← Ny251.out] at ho30 | (simp only [Int.reduceToNat] at ho30; rw [← Ny251.out] at ho30)); have HO253 := AM_ (Kd.R_lower (Kd.R_new' ho30 (Kd.R_lt (RT HO250.out))) (below_size (BT HB.out))); replace HO250 := AM_ (Kd.R_elder' (RT HO250.out) (Kd.R_base ho30) hb); replace BK247 := AM_ (BB BK247.out hb); replace HB := AM_ (below_step (BT HB.out) hb); clear hb ho30; obtain ⟨Ao32, co32, eo32⟩ := Kd.R_slice HO253.out; subst eo32) | ((with_reducible refine gate_builtin (b := .append) (xs := #[.tmp 10, .tmp 11]) rfl ?_); at_builtin; refine Kd.R_append_rows Kd.string (w0 := w) w.heap.size rfl (.tmp 10) (.tmp 11) 41 9 (.string ⟨#[]⟩) 16 rfl Tryd.underlying41 info9 rfl (by decide) (by omega) v249 t248 y251 _ _ _ (fun k_ => some k_ ≠ (.slice Ao32 y251.length co32 : Value).ownBlock) (fun _ => False) rfl rfl ?aO ?aR (fun _ _ h => h) (fun _ h => h.elim) ?aF ?aB ?aS ?aL ?_; (case aR => exact Kd.C_below (Kd.R_reads' HO253.out).2.2 (BL (Below.refl _ _) rfl rfl rfl rfl)); (case aB => exact (BT HB.out)); (case aF => exact (fun k_ hk => Kd.fresh' (Kd.R_lt (RT HO253.out)) k_ hk)); (case aO => exact (by (with_reducible repeat (first | apply Kd.R_alloc | apply Kd.R_drewN | apply Kd.R_drew)); exact Kd.R_mono HO250.out (fun _ hk => hk.2))); (case aS => exact (below_size (BT HB.out))); (case aL => have := LMc6.out; omega); intro v255 w31 ho hb hg hat; rw [← Ny254.out] at ho; have n0_ := AM_ (blk_grown (g := gb247) (o := .cells #[.int .i64 0, .int .i64 0, .int .i64 0, .int .i64 0, .int .i64 0, .int .i64 0] 25 (0, 0)) (by (with_reducible repeat (first | refine blk_drewN ?_ _ | refine blk_drew ?_ | refine blk_alloc ?_ _)); exact BK247.out) hg (Kd.R_ne HO250.out BK247.out (by decide))); have n1_ := AM_ (Kd.R_after (ok := (fun _ => True)) (RT HO253.out) hg hat); have n2_ := AM_ (hb); have n3_ := AM_ (ho); clear BK247; clear HO253; clear HB; clear HO250; have BK247 := n0_; have HO253 := n1_; have HB := n2_; have HO256 := n3_; clear n0_ n1_ n2_ n3_; clear ho hb hg hat; have p8 : 0 ≤ (0 : Int) := (by omega); have q8 : 0 < a0.size := (by have : (0 : Int) < (a0.size : Int) := DT; omega); have hx8 : ∀ h : 0 < a0.size, ((a0[0]'h).toNat : Int) = bt a0 0 := bt_at a0 0; clear p8; have qi8 : (0 < (a0.size : Int)) = True := eq_true (DT); replace q8 := eq_true q8) | ((with_reducible refine gate_callee (f := 21) rfl ?_); refine goesL_ (some 15) rfl rfl Tryd.func21 (by kernel_rfl) rfl #[.string (⟨#[98, 114, 119, 115, 99, 97]⟩ : ByteArray), .int .u8 (bt a0 0)] rfl (by (try simp only [List.map_toArray, List.map_cons, List.map_nil]); first | done | rfl | (simp only [List.length_drop, List.length_take]; rfl)) ?_; (with_reducible refine (strings_IndexByte.calls (⟨#[98, 114, 119, 115, 99, 97]⟩ : ByteArray) (bt a0 0) t257 _ A9.out).mono ?_); rintro e w33 ⟨rfl, hb⟩; refine ⟨_, rfl, ?_⟩; replace HO253 := AM_ (Kd.R_below (RT HO253.out) hb); replace HO256 := AM_ (Kd.R_below (RT HO256.out) hb); replace BK247 := AM_ (BB BK247.out hb); replace HB := AM_ (below_step (BT HB.out) hb); (try clear hb); (try clear hb2); (try clear hk); (try clear hi)) | ((with_reducible refine gate_dst (N := 5) rfl ?_); refine box_event ?hg (N := 5) ?hd (cs := #[.int .i64 0, .int .i64 0, .int .i64 0, .int .i64 0, .int .i64 0, .int .i64 0]) (t := 25) ?hr ?_; (case hd => rfl); (case hg => rfl); (case hr => first | (go_simp; done) | (go_simp; rfl)); intro gb258 hg w34 hbox hb; replace HO253 := AM_ (Kd.R_below (RT HO253.out) hb); replace HO256 := AM_ (Kd.R_below (RT HO256.out) hb); have BK258 := AM_ (hbox); have GW258 := AM_ ((GS HB.out hg)); have GE258 := AM_ ((GS HB.out hg)); replace HB := AM_ (below_step (BT HB.out) hb); have NB247_258 := AM_ ((NL BK247.out hg)); have NB258_247 := AM_ ((NG BK247.out hg)); replace BK247 := AM_ (BB BK247.out hb); clear hb hbox hg; have hnb35 := NB258_247.out; have hnc35 := NB247_258.out; obtain ⟨hcz36_0, hcz36_1, hcz36_2, hcz36_3, hcz36_4, hcz36_5, hfz36_0, hfz36_1, hfz36_2, hfz36_3, hfz36_4, hfz36_5⟩ := bk6 BK258.out; obtain ⟨Ao37, co37, eo37⟩ := Kd.R_slice HO256.out; subst eo37; have p259 : 0 ≤ (0 : Int) := (by omega); have q259 : 0 < (y254.length : Int) := DT; obtain ⟨ad259, e259, hx259_0⟩ := Kd.at_string (Kd.R_reads' HO256.out).2.2 0 p259 q259; cases e259; have qi259 : (0 < y254.length) = True := eq_true (by omega); (try rw [show ((0 : Int)).toNat = 0 from rfl] at hx259_0); (try rw [Addr.add_zero'] at hx259_0); have hn259_0 : ad259.block ≠ gb258 := Kd.own_blk (Kd.R_ne HO256.out BK258.out (by decide)); have hn259_1 : ad259.block ≠ gb258 := Kd.own_blk (Kd.R_ne HO256.out BK258.out (by decide)); have hn259_2 : ad259.block ≠ gb258 := Kd.own_blk (Kd.R_ne HO256.out BK258.out (by decide)); have hn259_3 : ad259.block ≠ gb258 := Kd.own_blk (Kd.R_ne HO256.out BK258.out (by decide)); have hn259_4 : ad259.block ≠ gb258 := Kd.own_blk (Kd.R_ne HO256.out BK258.out (by decide)); have hn259_5 : ad259.block ≠ gb258 := Kd.own_blk (Kd.R_ne HO256.out BK258.out (by decide)); replace hx259_0 := (cell_far (p := ⟨gb258, 0, none⟩) (by first | (rw [add_block]; exact hn259_0) | (show (Addr.add _ _).block ≠ _; rw [add_block]; exact hn259_0) | exact hn259_0) (.int .i64 (wrap64 (t257 + 1)))).trans hx259_0; replace hx259_0 := (cell_far (p := ⟨gb258, 1, none⟩) (by first | (rw [add_block]; exact hn259_1) | (show (Addr.add _ _).block ≠ _; rw [add_block]; exact hn259_1) | exact hn259_1) (.int .i64 0)).trans hx259_0; replace hx259_0 := (cell_far (p := ⟨gb258, 2, none⟩) (by first | (rw [add_block]; exact hn259_2) | (show (Addr.add _ _).block ≠ _; rw [add_block]; exact hn259_2) | exact hn259_2) (.int .i64 0)).trans hx259_0; replace hx259_0 := (cell_far (p := ⟨gb258, 3, none⟩) (by first | (rw [add_block]; exact hn259_3) | (show (Addr.add _ _).block ≠ _; rw [add_block]; exact hn259_3) | exact hn259_3) (.int .i64 0)).trans hx259_0; replace hx259_0 := (cell_far (p := ⟨gb258, 4, none⟩) (by first | (rw [add_block]; exact hn259_4) | (show (Addr.add _ _).block ≠ _; rw [add_block]; exact hn259_4) | exact hn259_4) (.int .i64 0)).trans hx259_0; replace hx259_0 := (cell_far (p := ⟨gb258, 5, none⟩) (by first | (rw [add_block]; exact hn259_5) | (show (Addr.add _ _).block ≠ _; rw [add_block]; exact hn259_5) | exact hn259_5) (.int .i64 0)).trans hx259_0; clear hn259_0; clear hn259_1; clear hn259_2; clear hn259_3; clear hn259_4; clear hn259_5; replace p259 := eq_true p259; replace q259 := eq_true q259; have p260 : 0 ≤ (0 : Int) := (by omega); have q260 : 0 < (y254.length : Int) := DT; obtain ⟨ad260, e260, hx260_0⟩ := Kd.at_string (Kd.R_reads' HO256.out).2.2 0 p260 q260; obtain rfl : ad259 = ad260 := (by injection e260); have qi260 : (0 < y254.length) = True := eq_true (by omega); (try rw [show ((0 : Int)).toNat = 0 from rfl] at hx260_0); (try rw [Addr.add_zero'] at hx260_0); have hn260_0 : ad259.block ≠ gb258 := Kd.own_blk (Kd.R_ne HO256.out BK258.out (by decide)); have hn260_1 : ad259.block ≠ gb258 := Kd.own_blk (Kd.R_ne HO256.out BK258.out (by decide)); have hn260_2 : ad259.block ≠ gb258 := Kd.own_blk (Kd.R_ne HO256.out BK258.out (by decide)); have hn260_3 : ad259.block ≠ gb258 := Kd.own_blk (Kd.R_ne HO256.out BK258.out (by decide)); have hn260_4 : ad259.block ≠ gb258 := Kd.own_blk (Kd.R_ne HO256.out BK258.out (by decide)); have hn260_5 : ad259.block ≠ gb258 := Kd.own_blk (Kd.R_ne HO256.out BK258.out (by decide)); replace hx260_0 := (cell_far (p := ⟨gb258, 0, none⟩) (by first | (rw [add_block]; exact hn260_0) | (show (Addr.add _ _).block ≠ _; rw [add_block]; exact hn260_0) | exact hn260_0) (.int .i64 (wrap64 (t257 + 1)))).trans hx260_0; replace hx260_0 := (cell_far (p := ⟨gb258, 1, none⟩) (by first | (rw [add_block]; exact hn260_1) | (show (Addr.add _ _).block ≠ _; rw [add_block]; exact hn260_1) | exact hn260_1) (.int .i64 0)).trans hx260_0; replace hx260_0 := (cell_far (p := ⟨gb258, 2, none⟩) (by first | (rw [add_block]; exact hn260_2) | (show (Addr.add _ _).block ≠ _; rw [add_block]; exact hn260_2) | exact hn260_2) (.int .i64 0)).trans hx260_0; replace hx260_0 := (cell_far (p := ⟨gb258, 3, none⟩) (by first | (rw [add_block]; exact hn260_3) | (show (Addr.add _ _).block ≠ _; rw [add_block]; exact hn260_3) | exact hn260_3) (.int .i64 0)).trans hx260_0; replace hx260_0 := (cell_far (p := ⟨gb258, 4, none⟩) (by first | (rw [add_block]; exact hn260_4) | (show (Addr.add _ _).block ≠ _; rw [add_block]; exact hn260_4) | exact hn260_4) (.int .i64 0)).trans hx260_0; replace hx260_0 := (cell_far (p := ⟨gb258, 5, none⟩) (by first | (rw [add_block]; exact hn260_5) | (show (Addr.add _ _).block ≠ _; rw [add_block]; exact hn260_5) | exact hn260_5) (.int .i64 0)).trans hx260_0; clear hn260_0; clear hn260_1; clear hn260_2; clear hn260_3; clear hn260_4; clear hn260_5; replace p260 := eq_true p260; replace q260 := eq_true q260) | ((with_reducible refine gate_callee (f := 22) rfl ?_); refine goesL_ (some 28) rfl rfl Tryd.func22 (by kernel_rfl) rfl #[.string ((rdOf ByteArray.empty y254 0).extract 1 (rdOf ByteArray.empty y254 0).size)] rfl (by (try simp only [List.map_toArray, List.map_cons, List.map_nil]); first | done | rfl | (simp only [List.length_drop, List.length_take]; rfl)) ?_; (with_reducible refine (impl_ParseInt.calls ((rdOf ByteArray.empty y254 0).extract 1 (rdOf ByteArray.empty y254 0).size) t261 t262 _ ?side1 A25.out).mono ?_); (case side1 => first | (with_reducible exact hTB) | exact Tryd.TB_below hTB (BT HB.out)); rintro e w38 ⟨rfl, hb⟩; refine ⟨_, rfl, ?_⟩; replace HO253 := AM_ (Kd.R_below (RF HO253.out BK258.out) hb); replace HO256 := AM_ (Kd.R_below (RF HO256.out BK258.out) hb); replace BK247 := AM_ (BF BK247.out NB247_258.out hb); replace BK258 := AM_ (BP #[.int .i64 (wrap64 (t257 + 1)), .int .i64 0, .int .i64 0, .int .i64 0, .int .i64 0, .int .i64 0] BK258.out hb); replace HB := AM_ (below_step (BT HB.out) hb); (try clear hb); (try clear hb2); (try clear hk); (try clear hi); obtain ⟨hcz39_0, hcz39_1, hcz39_2, hcz39_3, hcz39_4, hcz39_5, hfz39_0, hfz39_1, hfz39_2, hfz39_3, hfz39_4, hfz39_5⟩ := bk6 BK258.out))
 (try simp only [pA, pS, pZ, pK])
 go_cut [] (fun wc => ∃ (kq : Nat) (x259002_25 : Int) (x259003_25 : Int), Aside0 (impl_ParseOp.j0 kq a0 y254 (wrap64 (t257 + 1)) t261 0 x259002_25 x259003_25 = some (r1, r2, r3, r4, r5, r6, r7)) ∧ Aside0 (kq ≤ k) ∧ Aside0 (Kd.R Kd.string 9 wc w.heap.size (fun _ => True) (.slice (some ad259) y254.length co37) y254) ∧ Aside0 (wc.heap[gb247]? = some (.cells #[.int .i64 0, .int .i64 0, .int .i64 0, .int .i64 0, .int .i64 0, .int .i64 0] 25 (0, 0))) ∧ Aside0 (wc.heap[gb258]? = some (.cells #[.int .i64 (wrap64 (t257 + 1)), .int .i64 t261, .int .i64 x259002_25, .int .i64 x259003_25, .int .i64 0, .int .i64 0] 25 (0, 0))) ∧ Aside0 (Below w.heap.size w wc))
 case first =>
  have H := HC26.out
  clear HC26
  by_cases c40 : (wrap64 (t257 + 1)) = 1
  ·rw [if_pos c40] at H
   have c40b0 : ((wrap64 (t257 + 1)) == 1) = true := beq_iff_eq.mpr c40
   have c40b1 : ((wrap64 (t257 + 1)) != 1) = false := bne_eq_false_iff_eq.mpr c40
   clear c40
   (first | rw [c40b0] | (simp only [i64_w, i32_w]; rw [c40b0]) | skip)
   by_cases c41 : 1 < (y254.length : Int)
   rotate_left
   ·rw [if_neg c41] at H
    exact absurd H (by simp)
   rw [if_pos c41] at H
   have c41b0 : decide (1 < (y254.length : Int)) = true := decide_eq_true c41
   have c41b1 : decide (1 < y254.length) = true := decide_eq_true (by omega)
   clear c41
   replace H := Option.bind_eq_some_iff.mp H
   obtain ⟨t264, A420, H⟩ := H
   replace H : (impl_ParseOp.j0 k a0 y254 (wrap64 (t257 + 1)) t261 0 t264 0) = some (r1, r2, r3, r4, r5, r6, r7) := H
   have A42 := AM_ A420
   clear A420
   have H' := AM_ H
   clear H
   have p263 : 0 ≤ (1 : Int) := (by omega)
   have q263 : 1 < (y254.length : Int) := DT
   obtain ⟨ad263, e263, hx263_0⟩ := Kd.at_string (Kd.R_reads' HO256.out).2.2 1 p263 q263
   obtain rfl : ad259 = ad263 := (by injection e263)
   (try simp only [show (1 : Int).toNat = 1 from rfl, Nat.reduceMul, Nat.reduceEqDiff, Go.Addr.add, ↓reduceIte] at hx263_0)
   have qi263 : (1 < y254.length) = True := eq_true (by omega)
   (try rw [show ((1 : Int)).toNat = 1 from rfl] at hx263_0)
   have hn263_0 : ad259.block ≠ gb258 := Kd.own_blk (Kd.R_ne HO256.out BK258.out (by decide))
   replace hx263_0 := (cell_far (p := ⟨gb258, 1, none⟩) (by first | (rw [add_block]; exact hn263_0) | (show (Addr.add _ _).block ≠ _; rw [add_block]; exact hn263_0) | exact hn263_0) (.int .i64 t261)).trans hx263_0
   clear hn263_0
   replace p263 := eq_true p263
   replace q263 := eq_true q263
   go_wp2_with (first | ((with_reducible refine gate_callee (f := 23) rfl ?_); refine goesL_ (some 39) rfl rfl Tryd.func23 (by kernel_rfl) rfl #[.string (rdOf ByteArray.empty y254 1)] rfl (by (try simp only [List.map_toArray, List.map_cons, List.map_nil]); first | done | rfl | (simp only [List.length_drop, List.length_take]; rfl)) ?_; (with_reducible refine (impl_parseScheme.calls k (rdOf ByteArray.empty y254 1) t264 _ A42.out).mono ?_); rintro e w43 ⟨rfl, hb⟩; refine ⟨_, rfl, ?_⟩; replace HO253 := AM_ (Kd.R_below (RF HO253.out BK258.out) hb); replace HO256 := AM_ (Kd.R_below (RF HO256.out BK258.out) hb); replace BK247 := AM_ (BF BK247.out NB247_258.out hb); replace BK258 := AM_ (BP #[.int .i64 (wrap64 (t257 + 1)), .int .i64 t261, .int .i64 0, .int .i64 0, .int .i64 0, .int .i64 0] BK258.out hb); replace HB := AM_ (below_step (BT HB.out) hb); (try clear hb); (try clear hb2); (try clear hk); (try clear hi); have hnb44 := NB258_247.out; have hnc44 := NB247_258.out; obtain ⟨hcz45_0, hcz45_1, hcz45_2, hcz45_3, hcz45_4, hcz45_5, hfz45_0, hfz45_1, hfz45_2, hfz45_3, hfz45_4, hfz45_5⟩ := bk6 BK258.out))
   go_meet
   case rel => exact ⟨_, (t264), (0), H', ⟨by first | omega | exact Nat.le_refl _⟩, ⟨by (with_reducible repeat (first | apply Kd.R_alloc | apply Kd.R_drewN | apply Kd.R_drew)); exact Kd.R_mono (Kd.R_far (p := ⟨gb258, 2, none⟩) (Kd.R_types HO256.out BK258.out (by decide)) (fun _ hk => hk.2) (.int .i64 t264)) (fun _ hk => trivial)⟩, ⟨BG BK247.out NB247_258.out⟩, ⟨BQ BK258.out⟩, ⟨BT HB.out⟩⟩
  rw [if_neg c40] at H
  have c40b0 : ((wrap64 (t257 + 1)) == 1) = false := beq_eq_false_iff_ne.mpr c40
  have c40b1 : ((wrap64 (t257 + 1)) != 1) = true := bne_iff_ne.mpr c40
  (first | rw [c40b0] | (simp only [i64_w, i32_w]; rw [c40b0]) | skip)
  by_cases c46 : (wrap64 (t257 + 1)) = 2
  ·rw [if_pos c46] at H
   have c46b0 : ((wrap64 (t257 + 1)) == 2) = true := beq_iff_eq.mpr c46
   have c46b1 : ((wrap64 (t257 + 1)) != 2) = false := bne_eq_false_iff_eq.mpr c46
   clear c46
   by_cases c47 : 1 < (y254.length : Int)
   rotate_left
   ·rw [if_neg c47] at H
    exact absurd H (by simp)
   rw [if_pos c47] at H
   have c47b0 : decide (1 < (y254.length : Int)) = true := decide_eq_true c47
   have c47b1 : decide (1 < y254.length) = true := decide_eq_true (by omega)
   clear c47
   replace H := Option.bind_eq_some_iff.mp H
   obtain ⟨⟨t266, t267⟩, A480, H⟩ := H
   replace H : (impl_ParseOp.j0 k a0 y254 (wrap64 (t257 + 1)) t261 0 0 t266) = some (r1, r2, r3, r4, r5, r6, r7) := H
   have A48 := AM_ A480
   clear A480
   have H' := AM_ H
   clear H
   have p265 : 0 ≤ (1 : Int) := (by omega)
   have q265 : 1 < (y254.length : Int) := DT
   obtain ⟨ad265, e265, hx265_0⟩ := Kd.at_string (Kd.R_reads' HO256.out).2.2 1 p265 q265
   obtain rfl : ad259 = ad265 := (by injection e265)
   (try simp only [show (1 : Int).toNat = 1 from rfl, Nat.reduceMul, Nat.reduceEqDiff, Go.Addr.add, ↓reduceIte] at hx265_0)
   have qi265 : (1 < y254.length) = True := eq_true (by omega)
   (try rw [show ((1 : Int)).toNat = 1 from rfl] at hx265_0)
   have hn265_0 : ad259.block ≠ gb258 := Kd.own_blk (Kd.R_ne HO256.out BK258.out (by decide))
   replace hx265_0 := (cell_far (p := ⟨gb258, 1, none⟩) (by first | (rw [add_block]; exact hn265_0) | (show (Addr.add _ _).block ≠ _; rw [add_block]; exact hn265_0) | exact hn265_0) (.int .i64 t261)).trans hx265_0
   clear hn265_0
   replace p265 := eq_true p265
   replace q265 := eq_true q265
   go_wp2_with (first | ((with_reducible refine gate_callee (f := 22) rfl ?_); refine goesL_ (some 49) rfl rfl Tryd.func22 (by kernel_rfl) rfl #[.string (rdOf ByteArray.empty y254 1)] rfl (by (try simp only [List.map_toArray, List.map_cons, List.map_nil]); first | done | rfl | (simp only [List.length_drop, List.length_take]; rfl)) ?_; (with_reducible refine (impl_ParseInt.calls (rdOf ByteArray.empty y254 1) t266 t267 _ ?side1 A48.out).mono ?_); (case side1 => first | (with_reducible exact hTB) | exact Tryd.TB_below hTB (BT HB.out)); rintro e w49 ⟨rfl, hb⟩; refine ⟨_, rfl, ?_⟩; replace HO253 := AM_ (Kd.R_below (RF HO253.out BK258.out) hb); replace HO256 := AM_ (Kd.R_below (RF HO256.out BK258.out) hb); replace BK247 := AM_ (BF BK247.out NB247_258.out hb); replace BK258 := AM_ (BP #[.int .i64 (wrap64 (t257 + 1)), .int .i64 t261, .int .i64 0, .int .i64 0, .int .i64 0, .int .i64 0] BK258.out hb); replace HB := AM_ (below_step (BT HB.out) hb); (try clear hb); (try clear hb2); (try clear hk); (try clear hi); have hnb50 := NB258_247.out; have hnc50 := NB247_258.out; obtain ⟨hcz51_0, hcz51_1, hcz51_2, hcz51_3, hcz51_4, hcz51_5, hfz51_0, hfz51_1, hfz51_2, hfz51_3, hfz51_4, hfz51_5⟩ := bk6 BK258.out))
   go_meet
   case rel => exact ⟨_, (0), (t266), H', ⟨by first | omega | exact Nat.le_refl _⟩, ⟨by (with_reducible repeat (first | apply Kd.R_alloc | apply Kd.R_drewN | apply Kd.R_drew)); exact Kd.R_mono (Kd.R_far (p := ⟨gb258, 3, none⟩) (Kd.R_types HO256.out BK258.out (by decide)) (fun _ hk => hk.2) (.int .i64 t266)) (fun _ hk => trivial)⟩, ⟨BG BK247.out NB247_258.out⟩, ⟨BQ BK258.out⟩, ⟨BT HB.out⟩⟩
  rw [if_neg c46] at H
  have c46b0 : ((wrap64 (t257 + 1)) == 2) = false := beq_eq_false_iff_ne.mpr c46
  have c46b1 : ((wrap64 (t257 + 1)) != 2) = true := bne_iff_ne.mpr c46
  by_cases c52 : (wrap64 (t257 + 1)) = 3
  ·rw [if_pos c52] at H
   have c52b0 : ((wrap64 (t257 + 1)) == 3) = true := beq_iff_eq.mpr c52
   have c52b1 : ((wrap64 (t257 + 1)) != 3) = false := bne_eq_false_iff_eq.mpr c52
   clear c52
   by_cases c53 : 1 < (y254.length : Int)
   rotate_left
   ·rw [if_neg c53] at H
    exact absurd H (by simp)
   rw [if_pos c53] at H
   have c53b0 : decide (1 < (y254.length : Int)) = true := decide_eq_true c53
   have c53b1 : decide (1 < y254.length) = true := decide_eq_true (by omega)
   clear c53
   replace H := Option.bind_eq_some_iff.mp H
   obtain ⟨⟨t269, t270⟩, A540, H⟩ := H
   replace H : (impl_ParseOp.j0 k a0 y254 (wrap64 (t257 + 1)) t261 0 0 t269) = some (r1, r2, r3, r4, r5, r6, r7) := H
   have A54 := AM_ A540
   clear A540
   have H' := AM_ H
   clear H
   have p268 : 0 ≤ (1 : Int) := (by omega)
   have q268 : 1 < (y254.length : Int) := DT
   obtain ⟨ad268, e268, hx268_0⟩ := Kd.at_string (Kd.R_reads' HO256.out).2.2 1 p268 q268
   obtain rfl : ad259 = ad268 := (by injection e268)
   (try simp only [show (1 : Int).toNat = 1 from rfl, Nat.reduceMul, Nat.reduceEqDiff, Go.Addr.add, ↓reduceIte] at hx268_0)
   have qi268 : (1 < y254.length) = True := eq_true (by omega)
   (try rw [show ((1 : Int)).toNat = 1 from rfl] at hx268_0)
   have hn268_0 : ad259.block ≠ gb258 := Kd.own_blk (Kd.R_ne HO256.out BK258.out (by decide))
   replace hx268_0 := (cell_far (p := ⟨gb258, 1, none⟩) (by first | (rw [add_block]; exact hn268_0) | (show (Addr.add _ _).block ≠ _; rw [add_block]; exact hn268_0) | exact hn268_0) (.int .i64 t261)).trans hx268_0
   clear hn268_0
   replace p268 := eq_true p268
   replace q268 := eq_true q268
   go_wp2_with (first | ((with_reducible refine gate_callee (f := 22) rfl ?_); refine goesL_ (some 49) rfl rfl Tryd.func22 (by kernel_rfl) rfl #[.string (rdOf ByteArray.empty y254 1)] rfl (by (try simp only [List.map_toArray, List.map_cons, List.map_nil]); first | done | rfl | (simp only [List.length_drop, List.length_take]; rfl)) ?_; (with_reducible refine (impl_ParseInt.calls (rdOf ByteArray.empty y254 1) t269 t270 _ ?side1 A54.out).mono ?_); (case side1 => first | (with_reducible exact hTB) | exact Tryd.TB_below hTB (BT HB.out)); rintro e w55 ⟨rfl, hb⟩; refine ⟨_, rfl, ?_⟩; replace HO253 := AM_ (Kd.R_below (RF HO253.out BK258.out) hb); replace HO256 := AM_ (Kd.R_below (RF HO256.out BK258.out) hb); replace BK247 := AM_ (BF BK247.out NB247_258.out hb); replace BK258 := AM_ (BP #[.int .i64 (wrap64 (t257 + 1)), .int .i64 t261, .int .i64 0, .int .i64 0, .int .i64 0, .int .i64 0] BK258.out hb); replace HB := AM_ (below_step (BT HB.out) hb); (try clear hb); (try clear hb2); (try clear hk); (try clear hi); have hnb56 := NB258_247.out; have hnc56 := NB247_258.out; obtain ⟨hcz57_0, hcz57_1, hcz57_2, hcz57_3, hcz57_4, hcz57_5, hfz57_0, hfz57_1, hfz57_2, hfz57_3, hfz57_4, hfz57_5⟩ := bk6 BK258.out))
   go_meet
   case rel => exact ⟨_, (0), (t269), H', ⟨by first | omega | exact Nat.le_refl _⟩, ⟨by (with_reducible repeat (first | apply Kd.R_alloc | apply Kd.R_drewN | apply Kd.R_drew)); exact Kd.R_mono (Kd.R_far (p := ⟨gb258, 3, none⟩) (Kd.R_types HO256.out BK258.out (by decide)) (fun _ hk => hk.2) (.int .i64 t269)) (fun _ hk => trivial)⟩, ⟨BG BK247.out NB247_258.out⟩, ⟨BQ BK258.out⟩, ⟨BT HB.out⟩⟩
  rw [if_neg c52] at H
  have c52b0 : ((wrap64 (t257 + 1)) == 3) = false := beq_eq_false_iff_ne.mpr c52
  have c52b1 : ((wrap64 (t257 + 1)) != 3) = true := bne_iff_ne.mpr c52
  by_cases c58 : (wrap64 (t257 + 1)) = 4
  rotate_left
  ·rw [if_neg c58] at H
   have c58b0 : ((wrap64 (t257 + 1)) == 4) = false := beq_eq_false_iff_ne.mpr c58
   have c58b1 : ((wrap64 (t257 + 1)) != 4) = true := bne_iff_ne.mpr c58
   have H' := AM_ H
   clear H
   go_wp2
   go_meet
   case rel => exact ⟨_, (0), (0), H', ⟨by first | omega | exact Nat.le_refl _⟩, ⟨by (with_reducible repeat (first | apply Kd.R_alloc | apply Kd.R_drewN | apply Kd.R_drew)); exact Kd.R_mono (Kd.R_far (p := ⟨gb258, 1, none⟩) (Kd.R_types HO256.out BK258.out (by decide)) (fun _ hk => hk.2) (.int .i64 t261)) (fun _ hk => trivial)⟩, ⟨BG BK247.out NB247_258.out⟩, ⟨BQ BK258.out⟩, ⟨BT HB.out⟩⟩
  rw [if_pos c58] at H
  have c58b0 : ((wrap64 (t257 + 1)) == 4) = true := beq_iff_eq.mpr c58
  have c58b1 : ((wrap64 (t257 + 1)) != 4) = false := bne_eq_false_iff_eq.mpr c58
  clear c58
  by_cases c59 : 1 < (y254.length : Int)
  rotate_left
  ·rw [if_neg c59] at H
   exact absurd H (by simp)
  rw [if_pos c59] at H
  have c59b0 : decide (1 < (y254.length : Int)) = true := decide_eq_true c59
  have c59b1 : decide (1 < y254.length) = true := decide_eq_true (by omega)
  clear c59
  replace H := Option.bind_eq_some_iff.mp H
  obtain ⟨⟨t272, t273⟩, A600, H⟩ := H
  replace H : (impl_ParseOp.j0 k a0 y254 (wrap64 (t257 + 1)) t261 0 0 t272) = some (r1, r2, r3, r4, r5, r6, r7) := H
  have A60 := AM_ A600
  clear A600
  have H' := AM_ H
  clear H
  have p271 : 0 ≤ (1 : Int) := (by omega)
  have q271 : 1 < (y254.length : Int) := DT
  obtain ⟨ad271, e271, hx271_0⟩ := Kd.at_string (Kd.R_reads' HO256.out).2.2 1 p271 q271
  obtain rfl : ad259 = ad271 := (by injection e271)
  (try simp only [show (1 : Int).toNat = 1 from rfl, Nat.reduceMul, Nat.reduceEqDiff, Go.Addr.add, ↓reduceIte] at hx271_0)
  have qi271 : (1 < y254.length) = True := eq_true (by omega)
  (try rw [show ((1 : Int)).toNat = 1 from rfl] at hx271_0)
  have hn271_0 : ad259.block ≠ gb258 := Kd.own_blk (Kd.R_ne HO256.out BK258.out (by decide))
  replace hx271_0 := (cell_far (p := ⟨gb258, 1, none⟩) (by first | (rw [add_block]; exact hn271_0) | (show (Addr.add _ _).block ≠ _; rw [add_block]; exact hn271_0) | exact hn271_0) (.int .i64 t261)).trans hx271_0
  clear hn271_0
  replace p271 := eq_true p271
  replace q271 := eq_true q271
  go_wp2_with (first | ((with_reducible refine gate_callee (f := 22) rfl ?_); refine goesL_ (some 49) rfl rfl Tryd.func22 (by kernel_rfl) rfl #[.string (rdOf ByteArray.empty y254 1)] rfl (by (try simp only [List.map_toArray, List.map_cons, List.map_nil]); first | done | rfl | (simp only [List.length_drop, List.length_take]; rfl)) ?_; (with_reducible refine (impl_ParseInt.calls (rdOf ByteArray.empty y254 1) t272 t273 _ ?side1 A60.out).mono ?_); (case side1 => first | (with_reducible exact hTB) | exact Tryd.TB_below hTB (BT HB.out)); rintro e w61 ⟨rfl, hb⟩; refine ⟨_, rfl, ?_⟩; replace HO253 := AM_ (Kd.R_below (RF HO253.out BK258.out) hb); replace HO256 := AM_ (Kd.R_below (RF HO256.out BK258.out) hb); replace BK247 := AM_ (BF BK247.out NB247_258.out hb); replace BK258 := AM_ (BP #[.int .i64 (wrap64 (t257 + 1)), .int .i64 t261, .int .i64 0, .int .i64 0, .int .i64 0, .int .i64 0] BK258.out hb); replace HB := AM_ (below_step (BT HB.out) hb); (try clear hb); (try clear hb2); (try clear hk); (try clear hi); have hnb62 := NB258_247.out; have hnc62 := NB247_258.out; obtain ⟨hcz63_0, hcz63_1, hcz63_2, hcz63_3, hcz63_4, hcz63_5, hfz63_0, hfz63_1, hfz63_2, hfz63_3, hfz63_4, hfz63_5⟩ := bk6 BK258.out))
  go_meet
  case rel => exact ⟨_, (0), (t272), H', ⟨by first | omega | exact Nat.le_refl _⟩, ⟨by (with_reducible repeat (first | apply Kd.R_alloc | apply Kd.R_drewN | apply Kd.R_drew)); exact Kd.R_mono (Kd.R_far (p := ⟨gb258, 3, none⟩) (Kd.R_types HO256.out BK258.out (by decide)) (fun _ hk => hk.2) (.int .i64 t272)) (fun _ hk => trivial)⟩, ⟨BG BK247.out NB247_258.out⟩, ⟨BQ BK258.out⟩, ⟨BT HB.out⟩⟩
 case rest =>
  clear HC26
  try clear c1
  try clear c2
  try clear c2b0
  try clear c2b1
  try clear p2
  try clear q2
  try clear hx2
  try clear qi2
  try clear c3
  try clear c4
  try clear c5
  try clear c6
  try clear p6
  try clear c7
  try clear c7b0
  try clear c7b1
  try clear p8
  try clear q8
  try clear hx8
  try clear qi8
  try clear c10
  try clear c10b0
  try clear c10b1
  try clear c11
  try clear c11b0
  try clear c11b1
  try clear c20
  try clear c21
  try clear c22
  try clear c23
  try clear c24
  try clear c24b0
  try clear c24b1
  try clear p25
  try clear q25
  try clear hx25
  try clear qi25
  try clear p26
  try clear q26
  try clear hx26
  try clear qi26
  try clear p27
  try clear q27
  try clear hx27
  try clear qi27
  try clear c35
  try clear c40
  try clear c40b0
  try clear c40b1
  try clear c41
  try clear c41b0
  try clear c41b1
  try clear c44
  try clear c46
  try clear c46b0
  try clear c46b1
  try clear c47
  try clear c47b0
  try clear c47b1
  try clear c50
  try clear c52
  try clear c52b0
  try clear c52b1
  try clear c53
  try clear c53b0
  try clear c53b1
  try clear c56
  try clear c58
  try clear c58b0
  try clear c58b1
  try clear c59
  try clear c59b0
  try clear c59b1
  try clear c62
  try clear hcz21_0
  try clear hcz21_1
  try clear hcz21_2
  try clear hcz21_3
  try clear hcz21_4
  try clear hcz21_5
  try clear hcz23_0
  try clear hcz23_1
  try clear hcz23_2
  try clear hcz23_3
  try clear hcz23_4
  try clear hcz23_5
  try clear hcz36_0
  try clear hcz36_1
  try clear hcz36_2
  try clear hcz36_3
  try clear hcz36_4
  try clear hcz36_5
  try clear hcz39_0
  try clear hcz39_1
  try clear hcz39_2
  try clear hcz39_3
  try clear hcz39_4
  try clear hcz39_5
  try clear hcz45_0
  try clear hcz45_1
  try clear hcz45_2
  try clear hcz45_3
  try clear hcz45_4
  try clear hcz45_5
  try clear hcz4_0
  try clear hcz4_1
  try clear hcz4_2
  try clear hcz4_3
  try clear hcz4_4
  try clear hcz4_5
  try clear hcz51_0
  try clear hcz51_1
  try clear hcz51_2
  try clear hcz51_3
  try clear hcz51_4
  try clear hcz51_5
  try clear hcz57_0
  try clear hcz57_1
  try clear hcz57_2
  try clear hcz57_3
  try clear hcz57_4
  try clear hcz57_5
  try clear hcz63_0
  try clear hcz63_1
  try clear hcz63_2
  try clear hcz63_3
  try clear hcz63_4
  try clear hcz63_5
  try clear hfz21_0
  try clear hfz21_1
  try clear hfz21_2
  try clear hfz21_3
  try clear hfz21_4
  try clear hfz21_5
  try clear hfz23_0
  try clear hfz23_1
  try clear hfz23_2
  try clear hfz23_3
  try clear hfz23_4
  try clear hfz23_5
  try clear hfz36_0
  try clear hfz36_1
  try clear hfz36_2
  try clear hfz36_3
  try clear hfz36_4
  try clear hfz36_5
  try clear hfz39_0
  try clear hfz39_1
  try clear hfz39_2
  try clear hfz39_3
  try clear hfz39_4
  try clear hfz39_5
  try clear hfz45_0
  try clear hfz45_1
  try clear hfz45_2
  try clear hfz45_3
  try clear hfz45_4
  try clear hfz45_5
  try clear hfz4_0
  try clear hfz4_1
  try clear hfz4_2
  try clear hfz4_3
  try clear hfz4_4
  try clear hfz4_5
  try clear hfz51_0
  try clear hfz51_1
  try clear hfz51_2
  try clear hfz51_3
  try clear hfz51_4
  try clear hfz51_5
  try clear hfz57_0
  try clear hfz57_1
  try clear hfz57_2
  try clear hfz57_3
  try clear hfz57_4
  try clear hfz57_5
  try clear hfz63_0
  try clear hfz63_1
  try clear hfz63_2
  try clear hfz63_3
  try clear hfz63_4
  try clear hfz63_5
  try clear hx259_0
  try clear hx260_0
  try clear hx263_0
  try clear hx265_0
  try clear hx268_0
  try clear hx271_0
  try clear p259
  try clear p260
  try clear p263
  try clear p265
  try clear p268
  try clear p271
  try clear p8
  try clear q259
  try clear q260
  try clear q263
  try clear q265
  try clear q268
  try clear q271
  try clear q8
  obtain ⟨kq, x259002_25, x259003_25, HA, HJ25, HO_4, BK247, BK258, HB⟩ := hcut
  cases kq with
  | zero => exact absurd HA.out (by simp [impl_ParseOp.j0])
  | succ kj25 =>
   have H := HA.out
   clear HA
   simp only [impl_ParseOp.j0] at H
   by_cases c64 : (wrap64 (t257 + 1)) = 3
   ·rw [if_pos c64] at H
    have c64b0 : ((wrap64 (t257 + 1)) == 3) = true := beq_iff_eq.mpr c64
    have c64b1 : ((wrap64 (t257 + 1)) != 3) = false := bne_eq_false_iff_eq.mpr c64
    clear c64
    by_cases c65 : 2 < (y254.length : Int)
    rotate_left
    ·rw [if_neg c65] at H
     exact absurd H (by simp)
    rw [if_pos c65] at H
    have c65b0 : decide (2 < (y254.length : Int)) = true := decide_eq_true c65
    have c65b1 : decide (2 < y254.length) = true := decide_eq_true (by omega)
    clear c65
    replace H := Option.bind_eq_some_iff.mp H
    obtain ⟨⟨t275, t276⟩, A660, H⟩ := H
    replace H : ((impl_FormatOp.f kj25 (wrap64 (t257 + 1)) t261 x259002_25 x259003_25 0 t275).bind fun t277 => (if t277.toList = a0.toList then (some ((wrap64 (t257 + 1)), t261, x259002_25, x259003_25, 0, t275, true)) else (some (0, 0, 0, 0, 0, 0, false)))) = some (r1, r2, r3, r4, r5, r6, r7) := H
    have A66 := AM_ A660
    clear A660
    replace H := Option.bind_eq_some_iff.mp H
    obtain ⟨t277, A670, H⟩ := H
    replace H : (if t277.toList = a0.toList then (some ((wrap64 (t257 + 1)), t261, x259002_25, x259003_25, 0, t275, true)) else (some (0, 0, 0, 0, 0, 0, false))) = some (r1, r2, r3, r4, r5, r6, r7) := H
    have A67 := AM_ A670
    clear A670
    by_cases c68 : t277.toList = a0.toList
    rotate_left
    ·rw [if_neg c68] at H
     have c68b0 : (t277.toList == a0.toList) = false := beq_eq_false_iff_ne.mpr c68
     have c68b1 : (t277.toList != a0.toList) = true := bne_iff_ne.mpr c68
     simp only [Option.some.injEq, Prod.mk.injEq] at H
     obtain ⟨rfl, rfl, rfl, rfl, rfl, rfl, rfl⟩ := H
     have hnb76 := NB258_247.out
     have hnc76 := NB247_258.out
     obtain ⟨hcz77_0, hcz77_1, hcz77_2, hcz77_3, hcz77_4, hcz77_5, hfz77_0, hfz77_1, hfz77_2, hfz77_3, hfz77_4, hfz77_5⟩ := bk6 BK258.out
     have p274 : 0 ≤ (2 : Int) := (by omega)
     have q274 : 2 < (y254.length : Int) := DT
     obtain ⟨ad274, e274, hx274_0⟩ := Kd.at_string (Kd.R_reads' HO_4.out).2.2 2 p274 q274
     obtain rfl : ad259 = ad274 := (by injection e274)
     (try simp only [show (2 : Int).toNat = 2 from rfl, Nat.reduceMul, Nat.reduceEqDiff, Go.Addr.add, ↓reduceIte] at hx274_0)
     have qi274 : (2 < y254.length) = True := eq_true (by omega)
     (try rw [show ((2 : Int)).toNat = 2 from rfl] at hx274_0)
     replace p274 := eq_true p274
     replace q274 := eq_true q274
     go_wp2_with (first | ((with_reducible refine gate_callee (f := 24) rfl ?_); refine goesL_ (some 61) rfl rfl Tryd.func24 (by kernel_rfl) rfl #[.string (rdOf ByteArray.empty y254 2)] rfl (by (try simp only [List.map_toArray, List.map_cons, List.map_nil]); first | done | rfl | (simp only [List.length_drop, List.length_take]; rfl)) ?_; (with_reducible refine (impl_parseValue.calls (rdOf ByteArray.empty y254 2) t275 t276 _ ?side1 A66.out).mono ?_); (case side1 => first | (with_reducible exact hTB) | exact Tryd.TB_below hTB (BT HB.out)); rintro e w78 ⟨rfl, hb⟩; refine ⟨_, rfl, ?_⟩; replace HO_4 := AM_ (Kd.R_below (RT HO_4.out) hb); replace BK247 := AM_ (BB BK247.out hb); replace BK258 := AM_ (BB BK258.out hb); replace HB := AM_ (below_step (BT HB.out) hb); (try clear hb); (try clear hb2); (try clear hk); (try clear hi); obtain ⟨hcz79_0, hcz79_1, hcz79_2, hcz79_3, hcz79_4, hcz79_5, hfz79_0, hfz79_1, hfz79_2, hfz79_3, hfz79_4, hfz79_5⟩ := bk6 BK258.out) | ((with_reducible refine gate_callee (f := 6) rfl ?_); refine goesL_ (some 76) rfl rfl Tryd.func6 (by kernel_rfl) rfl #[.agg #[.int .i64 (wrap64 (t257 + 1)), .int .i64 t261, .int .i64 x259002_25, .int .i64 x259003_25, .int .i64 0, .int .i64 t275]] rfl (by (try simp only [List.map_toArray, List.map_cons, List.map_nil]); first | done | rfl | (simp only [List.length_drop, List.length_take]; rfl)) ?_; (with_reducible refine (impl_FormatOp.calls kj25 (wrap64 (t257 + 1)) t261 x259002_25 x259003_25 0 t275 t277 _ ?side1 A67.out).mono ?_); (case side1 => first | (with_reducible exact hTB) | exact Tryd.TB_below hTB (BT HB.out)); rintro e w80 ⟨rfl, hb⟩; refine ⟨_, rfl, ?_⟩; replace HO_4 := AM_ (Kd.R_below (RF HO_4.out BK258.out) hb); replace BK247 := AM_ (BF BK247.out NB247_258.out hb); replace BK258 := AM_ (BP #[.int .i64 (wrap64 (t257 + 1)), .int .i64 t261, .int .i64 x259002_25, .int .i64 x259003_25, .int .i64 0, .int .i64 t275] BK258.out hb); replace HB := AM_ (below_step (BT HB.out) hb); (try clear hb); (try clear hb2); (try clear hk); (try clear hi); obtain ⟨hcz81_0, hcz81_1, hcz81_2, hcz81_3, hcz81_4, hcz81_5, hfz81_0, hfz81_1, hfz81_2, hfz81_3, hfz81_4, hfz81_5⟩ := bk6 BK247.out))
     refine bodyPost_ret (results_ct rfl _ _ gb247 25 #[.int .i64 0, .int .i64 0, .int .i64 0, .int .i64 0, .int .i64 0, .int .i64 0] (0, 0) _ rfl (by (with_reducible repeat (first | refine blk_drewN ?_ _ | refine blk_drew ?_ | refine blk_alloc ?_ _)); refine blk_put (cs := #[.int .i64 0, .int .i64 0, .int .i64 0, .int .i64 0, .int .i64 0, .int .i64 0]) ?_ 5 _ rfl; (with_reducible repeat (first | refine blk_drewN ?_ _ | refine blk_drew ?_ | refine blk_alloc ?_ _)); refine blk_put (cs := #[.int .i64 0, .int .i64 0, .int .i64 0, .int .i64 0, .int .i64 0, .int .i64 0]) ?_ 4 _ rfl; (with_reducible repeat (first | refine blk_drewN ?_ _ | refine blk_drew ?_ | refine blk_alloc ?_ _)); refine blk_put (cs := #[.int .i64 0, .int .i64 0, .int .i64 0, .int .i64 0, .int .i64 0, .int .i64 0]) ?_ 3 _ rfl; (with_reducible repeat (first | refine blk_drewN ?_ _ | refine blk_drew ?_ | refine blk_alloc ?_ _)); refine blk_put (cs := #[.int .i64 0, .int .i64 0, .int .i64 0, .int .i64 0, .int .i64 0, .int .i64 0]) ?_ 2 _ rfl; (with_reducible repeat (first | refine blk_drewN ?_ _ | refine blk_drew ?_ | refine blk_alloc ?_ _)); refine blk_put (cs := #[.int .i64 0, .int .i64 0, .int .i64 0, .int .i64 0, .int .i64 0, .int .i64 0]) ?_ 1 _ rfl; (with_reducible repeat (first | refine blk_drewN ?_ _ | refine blk_drew ?_ | refine blk_alloc ?_ _)); refine blk_put (cs := #[.int .i64 0, .int .i64 0, .int .i64 0, .int .i64 0, .int .i64 0, .int .i64 0]) ?_ 0 _ rfl; (with_reducible repeat (first | refine blk_drewN ?_ _ | refine blk_drew ?_ | refine blk_alloc ?_ _)); exact BK247.out) Tryd.underlying25 rfl (by kernel_rfl)) rfl ?_
     exact QT (BT HB.out)
    rw [if_pos c68] at H
    have c68b0 : (t277.toList == a0.toList) = true := beq_iff_eq.mpr c68
    have c68b1 : (t277.toList != a0.toList) = false := bne_eq_false_iff_eq.mpr c68
    clear c68
    simp only [Option.some.injEq, Prod.mk.injEq] at H
    obtain ⟨rfl, rfl, rfl, rfl, rfl, rfl, rfl⟩ := H
    have hnb69 := NB258_247.out
    have hnc69 := NB247_258.out
    obtain ⟨hcz70_0, hcz70_1, hcz70_2, hcz70_3, hcz70_4, hcz70_5, hfz70_0, hfz70_1, hfz70_2, hfz70_3, hfz70_4, hfz70_5⟩ := bk6 BK258.out
    have p274 : 0 ≤ (2 : Int) := (by omega)
    have q274 : 2 < (y254.length : Int) := DT
    obtain ⟨ad274, e274, hx274_0⟩ := Kd.at_string (Kd.R_reads' HO_4.out).2.2 2 p274 q274
    obtain rfl : ad259 = ad274 := (by injection e274)
    (try simp only [show (2 : Int).toNat = 2 from rfl, Nat.reduceMul, Nat.reduceEqDiff, Go.Addr.add, ↓reduceIte] at hx274_0)
    have qi274 : (2 < y254.length) = True := eq_true (by omega)
    (try rw [show ((2 : Int)).toNat = 2 from rfl] at hx274_0)
    replace p274 := eq_true p274
    replace q274 := eq_true q274
    go_wp2_with (first | ((with_reducible refine gate_callee (f := 24) rfl ?_); refine goesL_ (some 61) rfl rfl Tryd.func24 (by kernel_rfl) rfl #[.string (rdOf ByteArray.empty y254 2)] rfl (by (try simp only [List.map_toArray, List.map_cons, List.map_nil]); first | done | rfl | (simp only [List.length_drop, List.length_take]; rfl)) ?_; (with_reducible refine (impl_parseValue.calls (rdOf ByteArray.empty y254 2) t275 t276 _ ?side1 A66.out).mono ?_); (case side1 => first | (with_reducible exact hTB) | exact Tryd.TB_below hTB (BT HB.out)); rintro e w71 ⟨rfl, hb⟩; refine ⟨_, rfl, ?_⟩; replace HO_4 := AM_ (Kd.R_below (RT HO_4.out) hb); replace BK247 := AM_ (BB BK247.out hb); replace BK258 := AM_ (BB BK258.out hb); replace HB := AM_ (below_step (BT HB.out) hb); (try clear hb); (try clear hb2); (try clear hk); (try clear hi); obtain ⟨hcz72_0, hcz72_1, hcz72_2, hcz72_3, hcz72_4, hcz72_5, hfz72_0, hfz72_1, hfz72_2, hfz72_3, hfz72_4, hfz72_5⟩ := bk6 BK258.out) | ((with_reducible refine gate_callee (f := 6) rfl ?_); refine goesL_ (some 76) rfl rfl Tryd.func6 (by kernel_rfl) rfl #[.agg #[.int .i64 (wrap64 (t257 + 1)), .int .i64 t261, .int .i64 x259002_25, .int .i64 x259003_25, .int .i64 0, .int .i64 t275]] rfl (by (try simp only [List.map_toArray, List.map_cons, List.map_nil]); first | done | rfl | (simp only [List.length_drop, List.length_take]; rfl)) ?_; (with_reducible refine (impl_FormatOp.calls kj25 (wrap64 (t257 + 1)) t261 x259002_25 x259003_25 0 t275 t277 _ ?side1 A67.out).mono ?_); (case side1 => first | (with_reducible exact hTB) | exact Tryd.TB_below hTB (BT HB.out)); rintro e w73 ⟨rfl, hb⟩; refine ⟨_, rfl, ?_⟩; replace HO_4 := AM_ (Kd.R_below (RF HO_4.out BK258.out) hb); replace BK247 := AM_ (BF BK247.out NB247_258.out hb); replace BK258 := AM_ (BP #[.int .i64 (wrap64 (t257 + 1)), .int .i64 t261, .int .i64 x259002_25, .int .i64 x259003_25, .int .i64 0, .int .i64 t275] BK258.out hb); replace HB := AM_ (below_step (BT HB.out) hb); (try clear hb); (try clear hb2); (try clear hk); (try clear hi); obtain ⟨hcz74_0, hcz74_1, hcz74_2, hcz74_3, hcz74_4, hcz74_5, hfz74_0, hfz74_1, hfz74_2, hfz74_3, hfz74_4, hfz74_5⟩ := bk6 BK258.out; obtain ⟨hcz75_0, hcz75_1, hcz75_2, hcz75_3, hcz75_4, hcz75_5, hfz75_0, hfz75_1, hfz75_2, hfz75_3, hfz75_4, hfz75_5⟩ := bk6 BK247.out))
    refine bodyPost_ret (results_ct rfl _ _ gb247 25 #[.int .i64 (wrap64 (t257 + 1)), .int .i64 t261, .int .i64 x259002_25, .int .i64 x259003_25, .int .i64 0, .int .i64 t275] (0, 0) _ rfl (by (with_reducible repeat (first | refine blk_drewN ?_ _ | refine blk_drew ?_ | refine blk_alloc ?_ _)); refine blk_put (cs := #[.int .i64 (wrap64 (t257 + 1)), .int .i64 t261, .int .i64 x259002_25, .int .i64 x259003_25, .int .i64 0, .int .i64 0]) ?_ 5 _ rfl; (with_reducible repeat (first | refine blk_drewN ?_ _ | refine blk_drew ?_ | refine blk_alloc ?_ _)); refine blk_put (cs := #[.int .i64 (wrap64 (t257 + 1)), .int .i64 t261, .int .i64 x259002_25, .int .i64 x259003_25, .int .i64 0, .int .i64 0]) ?_ 4 _ rfl; (with_reducible repeat (first | refine blk_drewN ?_ _ | refine blk_drew ?_ | refine blk_alloc ?_ _)); refine blk_put (cs := #[.int .i64 (wrap64 (t257 + 1)), .int .i64 t261, .int .i64 x259002_25, .int .i64 0, .int .i64 0, .int .i64 0]) ?_ 3 _ rfl; (with_reducible repeat (first | refine blk_drewN ?_ _ | refine blk_drew ?_ | refine blk_alloc ?_ _)); refine blk_put (cs := #[.int .i64 (wrap64 (t257 + 1)), .int .i64 t261, .int .i64 0, .int .i64 0, .int .i64 0, .int .i64 0]) ?_ 2 _ rfl; (with_reducible repeat (first | refine blk_drewN ?_ _ | refine blk_drew ?_ | refine blk_alloc ?_ _)); refine blk_put (cs := #[.int .i64 (wrap64 (t257 + 1)), .int .i64 0, .int .i64 0, .int .i64 0, .int .i64 0, .int .i64 0]) ?_ 1 _ rfl; (with_reducible repeat (first | refine blk_drewN ?_ _ | refine blk_drew ?_ | refine blk_alloc ?_ _)); refine blk_put (cs := #[.int .i64 0, .int .i64 0, .int .i64 0, .int .i64 0, .int .i64 0, .int .i64 0]) ?_ 0 _ rfl; (with_reducible repeat (first | refine blk_drewN ?_ _ | refine blk_drew ?_ | refine blk_alloc ?_ _)); exact BK247.out) Tryd.underlying25 rfl (by kernel_rfl)) rfl ?_
    exact QT (BT HB.out)
   rw [if_neg c64] at H
   have c64b0 : ((wrap64 (t257 + 1)) == 3) = false := beq_eq_false_iff_ne.mpr c64
   have c64b1 : ((wrap64 (t257 + 1)) != 3) = true := bne_iff_ne.mpr c64
   by_cases c82 : (wrap64 (t257 + 1)) = 4
   rotate_left
   ·rw [if_neg c82] at H
    have c82b0 : ((wrap64 (t257 + 1)) == 4) = false := beq_eq_false_iff_ne.mpr c82
    have c82b1 : ((wrap64 (t257 + 1)) != 4) = true := bne_iff_ne.mpr c82
    replace H := Option.bind_eq_some_iff.mp H
    obtain ⟨t282, A1000, H⟩ := H
    replace H : (if t282.toList = a0.toList then (some ((wrap64 (t257 + 1)), t261, x259002_25, x259003_25, 0, 0, true)) else (some (0, 0, 0, 0, 0, 0, false))) = some (r1, r2, r3, r4, r5, r6, r7) := H
    have A100 := AM_ A1000
    clear A1000
    by_cases c101 : t282.toList = a0.toList
    rotate_left
    ·rw [if_neg c101] at H
     have c101b0 : (t282.toList == a0.toList) = false := beq_eq_false_iff_ne.mpr c101
     have c101b1 : (t282.toList != a0.toList) = true := bne_iff_ne.mpr c101
     simp only [Option.some.injEq, Prod.mk.injEq] at H
     obtain ⟨rfl, rfl, rfl, rfl, rfl, rfl, rfl⟩ := H
     have hnb107 := NB258_247.out
     have hnc107 := NB247_258.out
     obtain ⟨hcz108_0, hcz108_1, hcz108_2, hcz108_3, hcz108_4, hcz108_5, hfz108_0, hfz108_1, hfz108_2, hfz108_3, hfz108_4, hfz108_5⟩ := bk6 BK258.out
     go_wp2_with (first | ((with_reducible refine gate_callee (f := 6) rfl ?_); refine goesL_ (some 76) rfl rfl Tryd.func6 (by kernel_rfl) rfl #[.agg #[.int .i64 (wrap64 (t257 + 1)), .int .i64 t261, .int .i64 x259002_25, .int .i64 x259003_25, .int .i64 0, .int .i64 0]] rfl (by (try simp only [List.map_toArray, List.map_cons, List.map_nil]); first | done | rfl | (simp only [List.length_drop, List.length_take]; rfl)) ?_; (with_reducible refine (impl_FormatOp.calls kj25 (wrap64 (t257 + 1)) t261 x259002_25 x259003_25 0 0 t282 _ ?side1 A100.out).mono ?_); (case side1 => first | (with_reducible exact hTB) | exact Tryd.TB_below hTB (BT HB.out)); rintro e w109 ⟨rfl, hb⟩; refine ⟨_, rfl, ?_⟩; replace HO_4 := AM_ (Kd.R_below (RT HO_4.out) hb); replace BK247 := AM_ (BB BK247.out hb); replace BK258 := AM_ (BB BK258.out hb); replace HB := AM_ (below_step (BT HB.out) hb); (try clear hb); (try clear hb2); (try clear hk); (try clear hi); obtain ⟨hcz110_0, hcz110_1, hcz110_2, hcz110_3, hcz110_4, hcz110_5, hfz110_0, hfz110_1, hfz110_2, hfz110_3, hfz110_4, hfz110_5⟩ := bk6 BK247.out))
     refine bodyPost_ret (results_ct rfl _ _ gb247 25 #[.int .i64 0, .int .i64 0, .int .i64 0, .int .i64 0, .int .i64 0, .int .i64 0] (0, 0) _ rfl (by (with_reducible repeat (first | refine blk_drewN ?_ _ | refine blk_drew ?_ | refine blk_alloc ?_ _)); refine blk_put (cs := #[.int .i64 0, .int .i64 0, .int .i64 0, .int .i64 0, .int .i64 0, .int .i64 0]) ?_ 5 _ rfl; (with_reducible repeat (first | refine blk_drewN ?_ _ | refine blk_drew ?_ | refine blk_alloc ?_ _)); refine blk_put (cs := #[.int .i64 0, .int .i64 0, .int .i64 0, .int .i64 0, .int .i64 0, .int .i64 0]) ?_ 4 _ rfl; (with_reducible repeat (first | refine blk_drewN ?_ _ | refine blk_drew ?_ | refine blk_alloc ?_ _)); refine blk_put (cs := #[.int .i64 0, .int .i64 0, .int .i64 0, .int .i64 0, .int .i64 0, .int .i64 0]) ?_ 3 _ rfl; (with_reducible repeat (first | refine blk_drewN ?_ _ | refine blk_drew ?_ | refine blk_alloc ?_ _)); refine blk_put (cs := #[.int .i64 0, .int .i64 0, .int .i64 0, .int .i64 0, .int .i64 0, .int .i64 0]) ?_ 2 _ rfl; (with_reducible repeat (first | refine blk_drewN ?_ _ | refine blk_drew ?_ | refine blk_alloc ?_ _)); refine blk_put (cs := #[.int .i64 0, .int .i64 0, .int .i64 0, .int .i64 0, .int .i64 0, .int .i64 0]) ?_ 1 _ rfl; (with_reducible repeat (first | refine blk_drewN ?_ _ | refine blk_drew ?_ | refine blk_alloc ?_ _)); refine blk_put (cs := #[.int .i64 0, .int .i64 0, .int .i64 0, .int .i64 0, .int .i64 0, .int .i64 0]) ?_ 0 _ rfl; (with_reducible repeat (first | refine blk_drewN ?_ _ | refine blk_drew ?_ | refine blk_alloc ?_ _)); exact BK247.out) Tryd.underlying25 rfl (by kernel_rfl)) rfl ?_
     exact QT (BT HB.out)
    rw [if_pos c101] at H
    have c101b0 : (t282.toList == a0.toList) = true := beq_iff_eq.mpr c101
    have c101b1 : (t282.toList != a0.toList) = false := bne_eq_false_iff_eq.mpr c101
    clear c101
    simp only [Option.some.injEq, Prod.mk.injEq] at H
    obtain ⟨rfl, rfl, rfl, rfl, rfl, rfl, rfl⟩ := H
    have hnb102 := NB258_247.out
    have hnc102 := NB247_258.out
    obtain ⟨hcz103_0, hcz103_1, hcz103_2, hcz103_3, hcz103_4, hcz103_5, hfz103_0, hfz103_1, hfz103_2, hfz103_3, hfz103_4, hfz103_5⟩ := bk6 BK258.out
    go_wp2_with (first | ((with_reducible refine gate_callee (f := 6) rfl ?_); refine goesL_ (some 76) rfl rfl Tryd.func6 (by kernel_rfl) rfl #[.agg #[.int .i64 (wrap64 (t257 + 1)), .int .i64 t261, .int .i64 x259002_25, .int .i64 x259003_25, .int .i64 0, .int .i64 0]] rfl (by (try simp only [List.map_toArray, List.map_cons, List.map_nil]); first | done | rfl | (simp only [List.length_drop, List.length_take]; rfl)) ?_; (with_reducible refine (impl_FormatOp.calls kj25 (wrap64 (t257 + 1)) t261 x259002_25 x259003_25 0 0 t282 _ ?side1 A100.out).mono ?_); (case side1 => first | (with_reducible exact hTB) | exact Tryd.TB_below hTB (BT HB.out)); rintro e w104 ⟨rfl, hb⟩; refine ⟨_, rfl, ?_⟩; replace HO_4 := AM_ (Kd.R_below (RT HO_4.out) hb); replace BK247 := AM_ (BB BK247.out hb); replace BK258 := AM_ (BB BK258.out hb); replace HB := AM_ (below_step (BT HB.out) hb); (try clear hb); (try clear hb2); (try clear hk); (try clear hi); obtain ⟨hcz105_0, hcz105_1, hcz105_2, hcz105_3, hcz105_4, hcz105_5, hfz105_0, hfz105_1, hfz105_2, hfz105_3, hfz105_4, hfz105_5⟩ := bk6 BK258.out; obtain ⟨hcz106_0, hcz106_1, hcz106_2, hcz106_3, hcz106_4, hcz106_5, hfz106_0, hfz106_1, hfz106_2, hfz106_3, hfz106_4, hfz106_5⟩ := bk6 BK247.out))
    refine bodyPost_ret (results_ct rfl _ _ gb247 25 #[.int .i64 (wrap64 (t257 + 1)), .int .i64 t261, .int .i64 x259002_25, .int .i64 x259003_25, .int .i64 0, .int .i64 0] (0, 0) _ rfl (by (with_reducible repeat (first | refine blk_drewN ?_ _ | refine blk_drew ?_ | refine blk_alloc ?_ _)); refine blk_put (cs := #[.int .i64 (wrap64 (t257 + 1)), .int .i64 t261, .int .i64 x259002_25, .int .i64 x259003_25, .int .i64 0, .int .i64 0]) ?_ 5 _ rfl; (with_reducible repeat (first | refine blk_drewN ?_ _ | refine blk_drew ?_ | refine blk_alloc ?_ _)); refine blk_put (cs := #[.int .i64 (wrap64 (t257 + 1)), .int .i64 t261, .int .i64 x259002_25, .int .i64 x259003_25, .int .i64 0, .int .i64 0]) ?_ 4 _ rfl; (with_reducible repeat (first | refine blk_drewN ?_ _ | refine blk_drew ?_ | refine blk_alloc ?_ _)); refine blk_put (cs := #[.int .i64 (wrap64 (t257 + 1)), .int .i64 t261, .int .i64 x259002_25, .int .i64 0, .int .i64 0, .int .i64 0]) ?_ 3 _ rfl; (with_reducible repeat (first | refine blk_drewN ?_ _ | refine blk_drew ?_ | refine blk_alloc ?_ _)); refine blk_put (cs := #[.int .i64 (wrap64 (t257 + 1)), .int .i64 t261, .int .i64 0, .int .i64 0, .int .i64 0, .int .i64 0]) ?_ 2 _ rfl; (with_reducible repeat (first | refine blk_drewN ?_ _ | refine blk_drew ?_ | refine blk_alloc ?_ _)); refine blk_put (cs := #[.int .i64 (wrap64 (t257 + 1)), .int .i64 0, .int .i64 0, .int .i64 0, .int .i64 0, .int .i64 0]) ?_ 1 _ rfl; (with_reducible repeat (first | refine blk_drewN ?_ _ | refine blk_drew ?_ | refine blk_alloc ?_ _)); refine blk_put (cs := #[.int .i64 0, .int .i64 0, .int .i64 0, .int .i64 0, .int .i64 0, .int .i64 0]) ?_ 0 _ rfl; (with_reducible repeat (first | refine blk_drewN ?_ _ | refine blk_drew ?_ | refine blk_alloc ?_ _)); exact BK247.out) Tryd.underlying25 rfl (by kernel_rfl)) rfl ?_
    exact QT (BT HB.out)
   rw [if_pos c82] at H
   have c82b0 : ((wrap64 (t257 + 1)) == 4) = true := beq_iff_eq.mpr c82
   have c82b1 : ((wrap64 (t257 + 1)) != 4) = false := bne_eq_false_iff_eq.mpr c82
   clear c82
   by_cases c83 : 2 < (y254.length : Int)
   rotate_left
   ·rw [if_neg c83] at H
    exact absurd H (by simp)
   rw [if_pos c83] at H
   have c83b0 : decide (2 < (y254.length : Int)) = true := decide_eq_true c83
   have c83b1 : decide (2 < y254.length) = true := decide_eq_true (by omega)
   clear c83
   replace H := Option.bind_eq_some_iff.mp H
   obtain ⟨⟨t279, t280⟩, A840, H⟩ := H
   replace H : ((impl_FormatOp.f kj25 (wrap64 (t257 + 1)) t261 x259002_25 x259003_25 t279 0).bind fun t281 => (if t281.toList = a0.toList then (some ((wrap64 (t257 + 1)), t261, x259002_25, x259003_25, t279, 0, true)) else (some (0, 0, 0, 0, 0, 0, false)))) = some (r1, r2, r3, r4, r5, r6, r7) := H
   have A84 := AM_ A840
   clear A840
   replace H := Option.bind_eq_some_iff.mp H
   obtain ⟨t281, A850, H⟩ := H
   replace H : (if t281.toList = a0.toList then (some ((wrap64 (t257 + 1)), t261, x259002_25, x259003_25, t279, 0, true)) else (some (0, 0, 0, 0, 0, 0, false))) = some (r1, r2, r3, r4, r5, r6, r7) := H
   have A85 := AM_ A850
   clear A850
   by_cases c86 : t281.toList = a0.toList
   rotate_left
   ·rw [if_neg c86] at H
    have c86b0 : (t281.toList == a0.toList) = false := beq_eq_false_iff_ne.mpr c86
    have c86b1 : (t281.toList != a0.toList) = true := bne_iff_ne.mpr c86
    simp only [Option.some.injEq, Prod.mk.injEq] at H
    obtain ⟨rfl, rfl, rfl, rfl, rfl, rfl, rfl⟩ := H
    have hnb94 := NB258_247.out
    have hnc94 := NB247_258.out
    obtain ⟨hcz95_0, hcz95_1, hcz95_2, hcz95_3, hcz95_4, hcz95_5, hfz95_0, hfz95_1, hfz95_2, hfz95_3, hfz95_4, hfz95_5⟩ := bk6 BK258.out
    have p278 : 0 ≤ (2 : Int) := (by omega)
    have q278 : 2 < (y254.length : Int) := DT
    obtain ⟨ad278, e278, hx278_0⟩ := Kd.at_string (Kd.R_reads' HO_4.out).2.2 2 p278 q278
    obtain rfl : ad259 = ad278 := (by injection e278)
    (try simp only [show (2 : Int).toNat = 2 from rfl, Nat.reduceMul, Nat.reduceEqDiff, Go.Addr.add, ↓reduceIte] at hx278_0)
    have qi278 : (2 < y254.length) = True := eq_true (by omega)
    (try rw [show ((2 : Int)).toNat = 2 from rfl] at hx278_0)
    replace p278 := eq_true p278
    replace q278 := eq_true q278
    go_wp2_with (first | ((with_reducible refine gate_callee (f := 22) rfl ?_); refine goesL_ (some 71) rfl rfl Tryd.func22 (by kernel_rfl) rfl #[.string (rdOf ByteArray.empty y254 2)] rfl (by (try simp only [List.map_toArray, List.map_cons, List.map_nil]); first | done | rfl | (simp only [List.length_drop, List.length_take]; rfl)) ?_; (with_reducible refine (impl_ParseInt.calls (rdOf ByteArray.empty y254 2) t279 t280 _ ?side1 A84.out).mono ?_); (case side1 => first | (with_reducible exact hTB) | exact Tryd.TB_below hTB (BT HB.out)); rintro e w96 ⟨rfl, hb⟩; refine ⟨_, rfl, ?_⟩; replace HO_4 := AM_ (Kd.R_below (RT HO_4.out) hb); replace BK247 := AM_ (BB BK247.out hb); replace BK258 := AM_ (BB BK258.out hb); replace HB := AM_ (below_step (BT HB.out) hb); (try clear hb); (try clear hb2); (try clear hk); (try clear hi); obtain ⟨hcz97_0, hcz97_1, hcz97_2, hcz97_3, hcz97_4, hcz97_5, hfz97_0, hfz97_1, hfz97_2, hfz97_3, hfz97_4, hfz97_5⟩ := bk6 BK258.out) | ((with_reducible refine gate_callee (f := 6) rfl ?_); refine goesL_ (some 76) rfl rfl Tryd.func6 (by kernel_rfl) rfl #[.agg #[.int .i64 (wrap64 (t257 + 1)), .int .i64 t261, .int .i64 x259002_25, .int .i64 x259003_25, .int .i64 t279, .int .i64 0]] rfl (by (try simp only [List.map_toArray, List.map_cons, List.map_nil]); first | done | rfl | (simp only [List.length_drop, List.length_take]; rfl)) ?_; (with_reducible refine (impl_FormatOp.calls kj25 (wrap64 (t257 + 1)) t261 x259002_25 x259003_25 t279 0 t281 _ ?side1 A85.out).mono ?_); (case side1 => first | (with_reducible exact hTB) | exact Tryd.TB_below hTB (BT HB.out)); rintro e w98 ⟨rfl, hb⟩; refine ⟨_, rfl, ?_⟩; replace HO_4 := AM_ (Kd.R_below (RF HO_4.out BK258.out) hb); replace BK247 := AM_ (BF BK247.out NB247_258.out hb); replace BK258 := AM_ (BP #[.int .i64 (wrap64 (t257 + 1)), .int .i64 t261, .int .i64 x259002_25, .int .i64 x259003_25, .int .i64 t279, .int .i64 0] BK258.out hb); replace HB := AM_ (below_step (BT HB.out) hb); (try clear hb); (try clear hb2); (try clear hk); (try clear hi); obtain ⟨hcz99_0, hcz99_1, hcz99_2, hcz99_3, hcz99_4, hcz99_5, hfz99_0, hfz99_1, hfz99_2, hfz99_3, hfz99_4, hfz99_5⟩ := bk6 BK247.out))
    refine bodyPost_ret (results_ct rfl _ _ gb247 25 #[.int .i64 0, .int .i64 0, .int .i64 0, .int .i64 0, .int .i64 0, .int .i64 0] (0, 0) _ rfl (by (with_reducible repeat (first | refine blk_drewN ?_ _ | refine blk_drew ?_ | refine blk_alloc ?_ _)); refine blk_put (cs := #[.int .i64 0, .int .i64 0, .int .i64 0, .int .i64 0, .int .i64 0, .int .i64 0]) ?_ 5 _ rfl; (with_reducible repeat (first | refine blk_drewN ?_ _ | refine blk_drew ?_ | refine blk_alloc ?_ _)); refine blk_put (cs := #[.int .i64 0, .int .i64 0, .int .i64 0, .int .i64 0, .int .i64 0, .int .i64 0]) ?_ 4 _ rfl; (with_reducible repeat (first | refine blk_drewN ?_ _ | refine blk_drew ?_ | refine blk_alloc ?_ _)); refine blk_put (cs := #[.int .i64 0, .int .i64 0, .int .i64 0, .int .i64 0, .int .i64 0, .int .i64 0]) ?_ 3 _ rfl; (with_reducible repeat (first | refine blk_drewN ?_ _ | refine blk_drew ?_ | refine blk_alloc ?_ _)); refine blk_put (cs := #[.int .i64 0, .int .i64 0, .int .i64 0, .int .i64 0, .int .i64 0, .int .i64 0]) ?_ 2 _ rfl; (with_reducible repeat (first | refine blk_drewN ?_ _ | refine blk_drew ?_ | refine blk_alloc ?_ _)); refine blk_put (cs := #[.int .i64 0, .int .i64 0, .int .i64 0, .int .i64 0, .int .i64 0, .int .i64 0]) ?_ 1 _ rfl; (with_reducible repeat (first | refine blk_drewN ?_ _ | refine blk_drew ?_ | refine blk_alloc ?_ _)); refine blk_put (cs := #[.int .i64 0, .int .i64 0, .int .i64 0, .int .i64 0, .int .i64 0, .int .i64 0]) ?_ 0 _ rfl; (with_reducible repeat (first | refine blk_drewN ?_ _ | refine blk_drew ?_ | refine blk_alloc ?_ _)); exact BK247.out) Tryd.underlying25 rfl (by kernel_rfl)) rfl ?_
    exact QT (BT HB.out)
   rw [if_pos c86] at H
   have c86b0 : (t281.toList == a0.toList) = true := beq_iff_eq.mpr c86
   have c86b1 : (t281.toList != a0.toList) = false := bne_eq_false_iff_eq.mpr c86
   clear c86
   simp only [Option.some.injEq, Prod.mk.injEq] at H
   obtain ⟨rfl, rfl, rfl, rfl, rfl, rfl, rfl⟩ := H
   have hnb87 := NB258_247.out
   have hnc87 := NB247_258.out
   obtain ⟨hcz88_0, hcz88_1, hcz88_2, hcz88_3, hcz88_4, hcz88_5, hfz88_0, hfz88_1, hfz88_2, hfz88_3, hfz88_4, hfz88_5⟩ := bk6 BK258.out
   have p278 : 0 ≤ (2 : Int) := (by omega)
   have q278 : 2 < (y254.length : Int) := DT
   obtain ⟨ad278, e278, hx278_0⟩ := Kd.at_string (Kd.R_reads' HO_4.out).2.2 2 p278 q278
   obtain rfl : ad259 = ad278 := (by injection e278)
   (try simp only [show (2 : Int).toNat = 2 from rfl, Nat.reduceMul, Nat.reduceEqDiff, Go.Addr.add, ↓reduceIte] at hx278_0)
   have qi278 : (2 < y254.length) = True := eq_true (by omega)
   (try rw [show ((2 : Int)).toNat = 2 from rfl] at hx278_0)
   replace p278 := eq_true p278
   replace q278 := eq_true q278
   go_wp2_with (first | ((with_reducible refine gate_callee (f := 22) rfl ?_); refine goesL_ (some 71) rfl rfl Tryd.func22 (by kernel_rfl) rfl #[.string (rdOf ByteArray.empty y254 2)] rfl (by (try simp only [List.map_toArray, List.map_cons, List.map_nil]); first | done | rfl | (simp only [List.length_drop, List.length_take]; rfl)) ?_; (with_reducible refine (impl_ParseInt.calls (rdOf ByteArray.empty y254 2) t279 t280 _ ?side1 A84.out).mono ?_); (case side1 => first | (with_reducible exact hTB) | exact Tryd.TB_below hTB (BT HB.out)); rintro e w89 ⟨rfl, hb⟩; refine ⟨_, rfl, ?_⟩; replace HO_4 := AM_ (Kd.R_below (RT HO_4.out) hb); replace BK247 := AM_ (BB BK247.out hb); replace BK258 := AM_ (BB BK258.out hb); replace HB := AM_ (below_step (BT HB.out) hb); (try clear hb); (try clear hb2); (try clear hk); (try clear hi); obtain ⟨hcz90_0, hcz90_1, hcz90_2, hcz90_3, hcz90_4, hcz90_5, hfz90_0, hfz90_1, hfz90_2, hfz90_3, hfz90_4, hfz90_5⟩ := bk6 BK258.out) | ((with_reducible refine gate_callee (f := 6) rfl ?_); refine goesL_ (some 76) rfl rfl Tryd.func6 (by kernel_rfl) rfl #[.agg #[.int .i64 (wrap64 (t257 + 1)), .int .i64 t261, .int .i64 x259002_25, .int .i64 x259003_25, .int .i64 t279, .int .i64 0]] rfl (by (try simp only [List.map_toArray, List.map_cons, List.map_nil]); first | done | rfl | (simp only [List.length_drop, List.length_take]; rfl)) ?_; (with_reducible refine (impl_FormatOp.calls kj25 (wrap64 (t257 + 1)) t261 x259002_25 x259003_25 t279 0 t281 _ ?side1 A85.out).mono ?_); (case side1 => first | (with_reducible exact hTB) | exact Tryd.TB_below hTB (BT HB.out)); rintro e w91 ⟨rfl, hb⟩; refine ⟨_, rfl, ?_⟩; replace HO_4 := AM_ (Kd.R_below (RF HO_4.out BK258.out) hb); replace BK247 := AM_ (BF BK247.out NB247_258.out hb); replace BK258 := AM_ (BP #[.int .i64 (wrap64 (t257 + 1)), .int .i64 t261, .int .i64 x259002_25, .int .i64 x259003_25, .int .i64 t279, .int .i64 0] BK258.out hb); replace HB := AM_ (below_step (BT HB.out) hb); (try clear hb); (try clear hb2); (try clear hk); (try clear hi); obtain ⟨hcz92_0, hcz92_1, hcz92_2, hcz92_3, hcz92_4, hcz92_5, hfz92_0, hfz92_1, hfz92_2, hfz92_3, hfz92_4, hfz92_5⟩ := bk6 BK258.out; obtain ⟨hcz93_0, hcz93_1, hcz93_2, hcz93_3, hcz93_4, hcz93_5, hfz93_0, hfz93_1, hfz93_2, hfz93_3, hfz93_4, hfz93_5⟩ := bk6 BK247.out))
   refine bodyPost_ret (results_ct rfl _ _ gb247 25 #[.int .i64 (wrap64 (t257 + 1)), .int .i64 t261, .int .i64 x259002_25, .int .i64 x259003_25, .int .i64 t279, .int .i64 0] (0, 0) _ rfl (by (with_reducible repeat (first | refine blk_drewN ?_ _ | refine blk_drew ?_ | refine blk_alloc ?_ _)); refine blk_put (cs := #[.int .i64 (wrap64 (t257 + 1)), .int .i64 t261, .int .i64 x259002_25, .int .i64 x259003_25, .int .i64 t279, .int .i64 0]) ?_ 5 _ rfl; (with_reducible repeat (first | refine blk_drewN ?_ _ | refine blk_drew ?_ | refine blk_alloc ?_ _)); refine blk_put (cs := #[.int .i64 (wrap64 (t257 + 1)), .int .i64 t261, .int .i64 x259002_25, .int .i64 x259003_25, .int .i64 0, .int .i64 0]) ?_ 4 _ rfl; (with_reducible repeat (first | refine blk_drewN ?_ _ | refine blk_drew ?_ | refine blk_alloc ?_ _)); refine blk_put (cs := #[.int .i64 (wrap64 (t257 + 1)), .int .i64 t261, .int .i64 x259002_25, .int .i64 0, .int .i64 0, .int .i64 0]) ?_ 3 _ rfl; (with_reducible repeat (first | refine blk_drewN ?_ _ | refine blk_drew ?_ | refine blk_alloc ?_ _)); refine blk_put (cs := #[.int .i64 (wrap64 (t257 + 1)), .int .i64 t261, .int .i64 0, .int .i64 0, .int .i64 0, .int .i64 0]) ?_ 2 _ rfl; (with_reducible repeat (first | refine blk_drewN ?_ _ | refine blk_drew ?_ | refine blk_alloc ?_ _)); refine blk_put (cs := #[.int .i64 (wrap64 (t257 + 1)), .int .i64 0, .int .i64 0, .int .i64 0, .int .i64 0, .int .i64 0]) ?_ 1 _ rfl; (with_reducible repeat (first | refine blk_drewN ?_ _ | refine blk_drew ?_ | refine blk_alloc ?_ _)); refine blk_put (cs := #[.int .i64 0, .int .i64 0, .int .i64 0, .int .i64 0, .int .i64 0, .int .i64 0]) ?_ 0 _ rfl; (with_reducible repeat (first | refine blk_drewN ?_ _ | refine blk_drew ?_ | refine blk_alloc ?_ _)); exact BK247.out) Tryd.underlying25 rfl (by kernel_rfl)) rfl ?_
   exact QT (BT HB.out)

/-! ### spec_l1In: function 28 -/
def spec_l1In.f (a0 : Int) (a1 : Int) (a2 : Int) : Option (Bool) := if a0 ≥ a1 then (some (decide (a0 ≤ a2))) else (some false)
set_option maxHeartbeats 8000000 in
set_option maxRecDepth 100000 in
theorem spec_l1In.calls (a0 : Int) (a1 : Int) (a2 : Int) (r : Bool) (w : World) (h : spec_l1In.f a0 a1 a2 = some r) :
  Calls Tryd.prog 28 #[.int .i64 a0, .int .i64 a1, .int .i64 a2] w fun e w' => e = .returned (.bool r) ∧ Drawn0 w w' := by
 have H : (if a0 ≥ a1 then (some (decide (a0 ≤ a2))) else (some false)) = some r := h
 clear h
 by_cases c4 : a0 ≥ a1
 ·rw [if_pos c4] at H
  have c4b0 : decide (a1 ≤ a0) = true := decide_eq_true c4
  clear c4
  obtain rfl := Option.some.inj H
  go_enter Tryd.func28, Tryd.ntmps28
  go_wp2
  go_ret
  exact ⟨by first | rfl | (simp; done) | (simp [*]; done), by repeat (first | exact Drawn0.refl _ | apply Drawn0.step)⟩
 rw [if_neg c4] at H
 have c4b0 : decide (a1 ≤ a0) = false := decide_eq_false c4
 clear c4
 obtain rfl := Option.some.inj H
 go_enter Tryd.func28, Tryd.ntmps28
 go_wp2
 go_ret
 exact ⟨by first | rfl | (simp; done) | (simp [*]; done), by repeat (first | exact Drawn0.refl _ | apply Drawn0.step)⟩

end Go.Proofs.YtdfbmaiboadodaaDoor.PFnOps
