-- Printed by a program of mine (wip/myprint.py), which runs the printer of the kit with contracts of mine beside it.
import Derived.Test.YtgpmfkmdchcagaaDoorPFnExactParseOpx0
import Derived.Test.YtgpmfkmdchcagaaDoorPFnExactParseOpx7
import Derived.Test.YtgpmfkmdchcagaaDoorPFnExactParseOpx8
import Derived.Test.YtgpmfkmdchcagaaDoorPFnExactParseOpx9
namespace Go.Proofs.YtgpmfkmdchcagaaDoor.PFnExactParseOp
open Go.RowKit Go.Proofs.YtgpmfkmdchcagaaDoorW.PrintWords Go.Proofs.YtgpmfkmdchcagaaDoorW.PrintLast Go.Proofs.YtgpmfkmdchcagaaDoorW.PrintMore
attribute [local go_sem] max2_int min2_int max_two min_two max_three min_three max_four min_four   -- for this text's walks alone
set_option linter.unusedVariables false
set_option linter.unusedSimpArgs false

/-! ### impl_FormatOp: function 38 -/
def impl_FormatOp.f (k : Nat) (a0_0 : Int) (a0_1 : Int) (a0_2 : Int) (a0_3 : Int) (a0_4 : Int) (a0_5 : Int) : Option (ByteArray) := (impl_IsValidOp.f k a0_0 a0_1 a0_2 a0_3 a0_4 a0_5).bind fun t206 => (if t206 = true then ((impl_formatOp.f a0_0 a0_1 a0_2 a0_3 a0_4 a0_5).bind fun t207 => (some t207)) else (some (⟨#[]⟩ : ByteArray)))
theorem impl_FormatOp.mono : ∀ a0 a1 a2 a3 a4 a5 k, LeO (impl_FormatOp.f k a0 a1 a2 a3 a4 a5) (impl_FormatOp.f (k + 1) a0 a1 a2 a3 a4 a5) := by
 intro a0 a1 a2 a3 a4 a5 k
 unfold impl_FormatOp.f
 repeat' first
   | (with_reducible exact impl_IsValidOp.mono _ _ _ _ _ _ _)
   | (with_reducible exact LeO.refl _)
   | (with_reducible exact LeO.none _)
   | (with_reducible refine LeO.ite ?_ ?_)
   | (with_reducible refine LeO.bind ?_ (fun _ => ?_))
   | exact impl_IsValidOp.mono _ _ _ _ _ _ _
   | exact LeO.none _
   | refine LeO.ite ?_ ?_
   | refine LeO.bind ?_ (fun _ => ?_)
set_option maxHeartbeats 8000000 in
set_option maxRecDepth 100000 in
theorem impl_FormatOp.calls (k : Nat) (a0_0 : Int) (a0_1 : Int) (a0_2 : Int) (a0_3 : Int) (a0_4 : Int) (a0_5 : Int) (r : ByteArray) (w : World) (hTB : Tryd.TB w) (h : impl_FormatOp.f k a0_0 a0_1 a0_2 a0_3 a0_4 a0_5 = some r) :
  Calls Tryd.prog 38 #[.agg #[.int .i64 a0_0, .int .i64 a0_1, .int .i64 a0_2, .int .i64 a0_3, .int .i64 a0_4, .int .i64 a0_5]] w fun e w' => e = .returned (.string r) ∧ Below w.heap.size w w' := by
 have hu36 := Tryd.underlying36
 have HB := AM_ (Below.refl w.heap.size w)
 have H : ((impl_IsValidOp.f k a0_0 a0_1 a0_2 a0_3 a0_4 a0_5).bind fun t206 => (if t206 = true then ((impl_formatOp.f a0_0 a0_1 a0_2 a0_3 a0_4 a0_5).bind fun t207 => (some t207)) else (some (⟨#[]⟩ : ByteArray)))) = some r := h
 clear h
 replace H := Option.bind_eq_some_iff.mp H
 obtain ⟨t206, A20, H⟩ := H
 replace H : (if t206 = true then ((impl_formatOp.f a0_0 a0_1 a0_2 a0_3 a0_4 a0_5).bind fun t207 => (some t207)) else (some (⟨#[]⟩ : ByteArray))) = some r := H
 have A2 := AM_ A20
 clear A20
 by_cases c3 : t206 = true
 rotate_left
 ·replace c3 := Bool.eq_false_iff.mpr c3
  subst c3
  have H1 : (some (⟨#[]⟩ : ByteArray)) = some r := by rw [if_neg (show ¬ (false = true) by decide)] at H; exact H
  clear H
  have H := H1
  clear H1
  obtain rfl := Option.some.inj H
  go_enter Tryd.func38, Tryd.ntmps38
  go_wp2_with (first | ((with_reducible refine gate_dst (N := 1) rfl ?_); refine box_event ?hg (N := 1) ?hd (cs := #[.int .i64 a0_0, .int .i64 a0_1, .int .i64 a0_2, .int .i64 a0_3, .int .i64 a0_4, .int .i64 a0_5]) (t := 36) ?hr ?_; (case hd => rfl); (case hg => rfl); (case hr => first | (go_simp; done) | (go_simp; rfl)); intro gb205 hg w10 hbox hb; have BK205 := AM_ (hbox); have GW205 := AM_ ((GS HB.out hg)); have GE205 := AM_ ((GS HB.out hg)); replace HB := AM_ (below_step (BT HB.out) hb); clear hb hbox hg; obtain ⟨hcz11_0, hcz11_1, hcz11_2, hcz11_3, hcz11_4, hcz11_5, hfz11_0, hfz11_1, hfz11_2, hfz11_3, hfz11_4, hfz11_5⟩ := bk6 BK205.out) | ((with_reducible refine gate_callee (f := 65) rfl ?_); refine goesL_ (some 4) rfl rfl Tryd.func65 (by kernel_rfl) rfl #[.agg #[.int .i64 a0_0, .int .i64 a0_1, .int .i64 a0_2, .int .i64 a0_3, .int .i64 a0_4, .int .i64 a0_5]] rfl (by (try simp only [List.map_toArray, List.map_cons, List.map_nil]); first | done | rfl | (simp only [List.length_drop, List.length_take]; rfl)) ?_; (with_reducible refine (impl_IsValidOp.calls k a0_0 a0_1 a0_2 a0_3 a0_4 a0_5 false _ A2.out).mono ?_); rintro e w12 ⟨rfl, hb⟩; refine ⟨_, rfl, ?_⟩; replace BK205 := AM_ (BB BK205.out hb); replace HB := AM_ (below_step (BT HB.out) hb); (try clear hb); (try clear hb2); (try clear hk); (try clear hi)))
  go_ret
  exact QT (BT HB.out)
 subst c3
 have H1 : ((impl_formatOp.f a0_0 a0_1 a0_2 a0_3 a0_4 a0_5).bind fun t207 => (some t207)) = some r := by rw [if_pos rfl] at H; exact H
 clear H
 have H := H1
 clear H1
 replace H := Option.bind_eq_some_iff.mp H
 obtain ⟨t207, A40, H⟩ := H
 replace H : (some t207) = some r := H
 have A4 := AM_ A40
 clear A40
 obtain rfl := Option.some.inj H
 go_enter Tryd.func38, Tryd.ntmps38
 go_wp2_with (first | ((with_reducible refine gate_dst (N := 1) rfl ?_); refine box_event ?hg (N := 1) ?hd (cs := #[.int .i64 a0_0, .int .i64 a0_1, .int .i64 a0_2, .int .i64 a0_3, .int .i64 a0_4, .int .i64 a0_5]) (t := 36) ?hr ?_; (case hd => rfl); (case hg => rfl); (case hr => first | (go_simp; done) | (go_simp; rfl)); intro gb205 hg w5 hbox hb; have BK205 := AM_ (hbox); have GW205 := AM_ ((GS HB.out hg)); have GE205 := AM_ ((GS HB.out hg)); replace HB := AM_ (below_step (BT HB.out) hb); clear hb hbox hg; obtain ⟨hcz6_0, hcz6_1, hcz6_2, hcz6_3, hcz6_4, hcz6_5, hfz6_0, hfz6_1, hfz6_2, hfz6_3, hfz6_4, hfz6_5⟩ := bk6 BK205.out) | ((with_reducible refine gate_callee (f := 65) rfl ?_); refine goesL_ (some 4) rfl rfl Tryd.func65 (by kernel_rfl) rfl #[.agg #[.int .i64 a0_0, .int .i64 a0_1, .int .i64 a0_2, .int .i64 a0_3, .int .i64 a0_4, .int .i64 a0_5]] rfl (by (try simp only [List.map_toArray, List.map_cons, List.map_nil]); first | done | rfl | (simp only [List.length_drop, List.length_take]; rfl)) ?_; (with_reducible refine (impl_IsValidOp.calls k a0_0 a0_1 a0_2 a0_3 a0_4 a0_5 true _ A2.out).mono ?_); rintro e w7 ⟨rfl, hb⟩; refine ⟨_, rfl, ?_⟩; replace BK205 := AM_ (BB BK205.out hb); replace HB := AM_ (below_step (BT HB.out) hb); (try clear hb); (try clear hb2); (try clear hk); (try clear hi); obtain ⟨hcz8_0, hcz8_1, hcz8_2, hcz8_3, hcz8_4, hcz8_5, hfz8_0, hfz8_1, hfz8_2, hfz8_3, hfz8_4, hfz8_5⟩ := bk6 BK205.out) | ((with_reducible refine gate_callee (f := 66) rfl ?_); refine goesL_ (some 7) rfl rfl Tryd.func66 (by kernel_rfl) rfl #[.agg #[.int .i64 a0_0, .int .i64 a0_1, .int .i64 a0_2, .int .i64 a0_3, .int .i64 a0_4, .int .i64 a0_5]] rfl (by (try simp only [List.map_toArray, List.map_cons, List.map_nil]); first | done | rfl | (simp only [List.length_drop, List.length_take]; rfl)) ?_; (with_reducible refine (impl_formatOp.calls a0_0 a0_1 a0_2 a0_3 a0_4 a0_5 t207 _ ?side1 A4.out).mono ?_); (case side1 => first | (with_reducible exact hTB) | exact Tryd.TB_below hTB (BT HB.out)); rintro e w9 ⟨rfl, hb⟩; refine ⟨_, rfl, ?_⟩; replace BK205 := AM_ (BB BK205.out hb); replace HB := AM_ (below_step (BT HB.out) hb); (try clear hb); (try clear hb2); (try clear hk); (try clear hi)))
 go_ret
 exact QT (BT HB.out)

/-! ### impl_ParseOp: function 17 -/
def impl_ParseOp.j0 : Nat → ByteArray → List ByteArray → Int → Int → Int → Int → Int → Option (Int × Int × Int × Int × Int × Int × Bool)
 | 0, _, _, _, _, _, _, _ => none
 | k + 1, x0, x4, x16, x29, x209000, x220002, x220003 => if x16 = 3 then (if 2 < (x4.length : Int) then ((impl_parseValue.f (rdOf ByteArray.empty x4 2)).bind fun bt236 => ((impl_FormatOp.f k x16 x29 x220002 x220003 x209000 bt236.1).bind fun t238 => (if t238.toList = x0.toList then (some (x16, x29, x220002, x220003, x209000, bt236.1, true)) else (some (0, 0, 0, 0, 0, 0, false))))) else (none)) else (if x16 = 4 then (if 2 < (x4.length : Int) then ((impl_ParseInt.f (rdOf ByteArray.empty x4 2)).bind fun bt240 => ((impl_FormatOp.f k x16 x29 x220002 x220003 bt240.1 x209000).bind fun t242 => (if t242.toList = x0.toList then (some (x16, x29, x220002, x220003, bt240.1, x209000, true)) else (some (0, 0, 0, 0, 0, 0, false))))) else (none)) else ((impl_FormatOp.f k x16 x29 x220002 x220003 x209000 x209000).bind fun t243 => (if t243.toList = x0.toList then (some (x16, x29, x220002, x220003, x209000, x209000, true)) else (some (0, 0, 0, 0, 0, 0, false)))))
def impl_ParseOp.f (k : Nat) (a0 : ByteArray) : Option (Int × Int × Int × Int × Int × Int × Bool) := if a0.toList = ([] : List UInt8) then (some (0, 0, 0, 0, 0, 0, false)) else ((strings_Split.f a0 (⟨#[32]⟩ : ByteArray)).bind fun t209 => ((some (([(⟨#[]⟩ : ByteArray), (⟨#[]⟩ : ByteArray)] : List ByteArray) : List ByteArray)).bind fun y212 => (if t209.length + y212.length < 8796093022208 then ((some (t209 ++ y212 : List ByteArray)).bind fun y215 => (if 0 < (a0.size : Int) then ((strings_IndexByte.f (⟨#[98, 114, 119, 115, 99, 97]⟩ : ByteArray) (bt a0 0)).bind fun t218 => (if 0 < (y215.length : Int) then (if (rdOf ByteArray.empty y215 0).toList = ([] : List UInt8) then (some (0, 0, 0, 0, 0, 0, false)) else (if 1 ≤ ((rdOf ByteArray.empty y215 0).size : Int) then ((impl_ParseInt.f ((rdOf ByteArray.empty y215 0).extract 1 (rdOf ByteArray.empty y215 0).size)).bind fun bt222 => (if (wrap64 (t218 + 1)) = 1 then (if 1 < (y215.length : Int) then ((impl_parseScheme.f k (rdOf ByteArray.empty y215 1)).bind fun t225 => (impl_ParseOp.j0 k a0 y215 (wrap64 (t218 + 1)) bt222.1 0 t225 0)) else (none)) else (if (wrap64 (t218 + 1)) = 2 then (if 1 < (y215.length : Int) then ((impl_ParseInt.f (rdOf ByteArray.empty y215 1)).bind fun bt227 => (impl_ParseOp.j0 k a0 y215 (wrap64 (t218 + 1)) bt222.1 0 0 bt227.1)) else (none)) else (if (wrap64 (t218 + 1)) = 3 then (if 1 < (y215.length : Int) then ((impl_ParseInt.f (rdOf ByteArray.empty y215 1)).bind fun bt230 => (impl_ParseOp.j0 k a0 y215 (wrap64 (t218 + 1)) bt222.1 0 0 bt230.1)) else (none)) else (if (wrap64 (t218 + 1)) = 4 then (if 1 < (y215.length : Int) then ((impl_ParseInt.f (rdOf ByteArray.empty y215 1)).bind fun bt233 => (impl_ParseOp.j0 k a0 y215 (wrap64 (t218 + 1)) bt222.1 0 0 bt233.1)) else (none)) else (impl_ParseOp.j0 k a0 y215 (wrap64 (t218 + 1)) bt222.1 0 0 0)))))) else (none))) else (none))) else (none))) else (none))))
theorem impl_ParseOp.mono_l : ∀ k, (∀ y0 y1 y2 y3 y4 y5 y6, LeO (impl_ParseOp.j0 k y0 y1 y2 y3 y4 y5 y6) (impl_ParseOp.j0 (k + 1) y0 y1 y2 y3 y4 y5 y6))
 | 0 => fun _ _ _ _ _ _ _ r h => by simp [impl_ParseOp.j0] at h
 | k + 1 => by
  have ih0 := impl_ParseOp.mono_l k
  ·intro y0 y1 y2 y3 y4 y5 y6
   unfold impl_ParseOp.j0
   repeat' first
   | (with_reducible exact ih0 _ _ _ _ _ _ _)
   | (with_reducible exact impl_FormatOp.mono _ _ _ _ _ _ _)
   | (with_reducible exact impl_parseScheme.mono _ _)
   | (with_reducible exact LeO.refl _)
   | (with_reducible exact LeO.none _)
   | (with_reducible refine LeO.ite ?_ ?_)
   | (with_reducible refine LeO.bind ?_ (fun _ => ?_))
   | exact ih0 _ _ _ _ _ _ _
   | exact impl_FormatOp.mono _ _ _ _ _ _ _
   | exact impl_parseScheme.mono _ _
   | exact LeO.none _
   | refine LeO.ite ?_ ?_
   | refine LeO.bind ?_ (fun _ => ?_)
theorem impl_ParseOp.mono : ∀ a0 k, LeO (impl_ParseOp.f k a0) (impl_ParseOp.f (k + 1) a0) := by
 intro a0 k
 have ih0 := impl_ParseOp.mono_l k
 unfold impl_ParseOp.f
 repeat' first
   | (with_reducible exact ih0 _ _ _ _ _ _ _)
   | (with_reducible exact impl_FormatOp.mono _ _ _ _ _ _ _)
   | (with_reducible exact impl_parseScheme.mono _ _)
   | (with_reducible exact LeO.refl _)
   | (with_reducible exact LeO.none _)
   | (with_reducible refine LeO.ite ?_ ?_)
   | (with_reducible refine LeO.bind ?_ (fun _ => ?_))
   | exact ih0 _ _ _ _ _ _ _
   | exact impl_FormatOp.mono _ _ _ _ _ _ _
   | exact impl_parseScheme.mono _ _
   | exact LeO.none _
   | refine LeO.ite ?_ ?_
   | refine LeO.bind ?_ (fun _ => ?_)
set_option maxHeartbeats 8000000 in
set_option maxRecDepth 100000 in
theorem impl_ParseOp.calls (k : Nat) (a0 : ByteArray) (r1 : Int) (r2 : Int) (r3 : Int) (r4 : Int) (r5 : Int) (r6 : Int) (r7 : Bool) (w : World) (hTB : Tryd.TB w) (h : impl_ParseOp.f k a0 = some (r1, r2, r3, r4, r5, r6, r7)) :
  Calls Tryd.prog 17 #[.string a0] w fun e w' => e = .returned (.tuple #[.agg #[.int .i64 r1, .int .i64 r2, .int .i64 r3, .int .i64 r4, .int .i64 r5, .int .i64 r6], .bool r7]) ∧ Below w.heap.size w w' := by
 have hu36 := Tryd.underlying36
 have HB := AM_ (Below.refl w.heap.size w)
 have H : (if a0.toList = ([] : List UInt8) then (some (0, 0, 0, 0, 0, 0, false)) else ((strings_Split.f a0 (⟨#[32]⟩ : ByteArray)).bind fun t209 => ((some (([(⟨#[]⟩ : ByteArray), (⟨#[]⟩ : ByteArray)] : List ByteArray) : List ByteArray)).bind fun y212 => (if t209.length + y212.length < 8796093022208 then ((some (t209 ++ y212 : List ByteArray)).bind fun y215 => (if 0 < (a0.size : Int) then ((strings_IndexByte.f (⟨#[98, 114, 119, 115, 99, 97]⟩ : ByteArray) (bt a0 0)).bind fun t218 => (if 0 < (y215.length : Int) then (if (rdOf ByteArray.empty y215 0).toList = ([] : List UInt8) then (some (0, 0, 0, 0, 0, 0, false)) else (if 1 ≤ ((rdOf ByteArray.empty y215 0).size : Int) then ((impl_ParseInt.f ((rdOf ByteArray.empty y215 0).extract 1 (rdOf ByteArray.empty y215 0).size)).bind fun bt222 => (if (wrap64 (t218 + 1)) = 1 then (if 1 < (y215.length : Int) then ((impl_parseScheme.f k (rdOf ByteArray.empty y215 1)).bind fun t225 => (impl_ParseOp.j0 k a0 y215 (wrap64 (t218 + 1)) bt222.1 0 t225 0)) else (none)) else (if (wrap64 (t218 + 1)) = 2 then (if 1 < (y215.length : Int) then ((impl_ParseInt.f (rdOf ByteArray.empty y215 1)).bind fun bt227 => (impl_ParseOp.j0 k a0 y215 (wrap64 (t218 + 1)) bt222.1 0 0 bt227.1)) else (none)) else (if (wrap64 (t218 + 1)) = 3 then (if 1 < (y215.length : Int) then ((impl_ParseInt.f (rdOf ByteArray.empty y215 1)).bind fun bt230 => (impl_ParseOp.j0 k a0 y215 (wrap64 (t218 + 1)) bt222.1 0 0 bt230.1)) else (none)) else (if (wrap64 (t218 + 1)) = 4 then (if 1 < (y215.length : Int) then ((impl_ParseInt.f (rdOf ByteArray.empty y215 1)).bind fun bt233 => (impl_ParseOp.j0 k a0 y215 (wrap64 (t218 + 1)) bt222.1 0 0 bt233.1)) else (none)) else (impl_ParseOp.j0 k a0 y215 (wrap64 (t218 + 1)) bt222.1 0 0 0)))))) else (none))) else (none))) else (none))) else (none))))) = some (r1, r2, r3, r4, r5, r6, r7) := h
 clear h
 by_cases c2 : a0.toList = ([] : List UInt8)
 ·rw [if_pos c2] at H
  have c2b0 : (a0.toList == ([] : List UInt8)) = true := beq_iff_eq.mpr c2
  have c2b1 : (a0.toList != ([] : List UInt8)) = false := bne_eq_false_iff_eq.mpr c2
  clear c2
  simp only [Option.some.injEq, Prod.mk.injEq] at H
  obtain ⟨rfl, rfl, rfl, rfl, rfl, rfl, rfl⟩ := H
  go_enter Tryd.func17, Tryd.ntmps17
  go_wp2_with (first | ((with_reducible refine gate_dst (N := 2) rfl ?_); refine box_event ?hg (N := 2) ?hd (cs := #[.int .i64 0, .int .i64 0, .int .i64 0, .int .i64 0, .int .i64 0, .int .i64 0]) (t := 36) ?hr ?_; (case hd => rfl); (case hg => rfl); (case hr => first | (go_simp; done) | (go_simp; rfl)); intro gb208 hg w3 hbox hb; have BK208 := AM_ (hbox); have GW208 := AM_ ((GS HB.out hg)); have GE208 := AM_ ((GS HB.out hg)); replace HB := AM_ (below_step (BT HB.out) hb); clear hb hbox hg; obtain ⟨hcz4_0, hcz4_1, hcz4_2, hcz4_3, hcz4_4, hcz4_5, hfz4_0, hfz4_1, hfz4_2, hfz4_3, hfz4_4, hfz4_5⟩ := bk6 BK208.out))
  refine bodyPost_ret (results_ct rfl _ _ gb208 36 #[.int .i64 0, .int .i64 0, .int .i64 0, .int .i64 0, .int .i64 0, .int .i64 0] (0, 0) _ rfl (by (with_reducible repeat (first | refine blk_drewN ?_ _ | refine blk_drew ?_ | refine blk_alloc ?_ _)); refine blk_put (cs := #[.int .i64 0, .int .i64 0, .int .i64 0, .int .i64 0, .int .i64 0, .int .i64 0]) ?_ 5 _ rfl; (with_reducible repeat (first | refine blk_drewN ?_ _ | refine blk_drew ?_ | refine blk_alloc ?_ _)); refine blk_put (cs := #[.int .i64 0, .int .i64 0, .int .i64 0, .int .i64 0, .int .i64 0, .int .i64 0]) ?_ 4 _ rfl; (with_reducible repeat (first | refine blk_drewN ?_ _ | refine blk_drew ?_ | refine blk_alloc ?_ _)); refine blk_put (cs := #[.int .i64 0, .int .i64 0, .int .i64 0, .int .i64 0, .int .i64 0, .int .i64 0]) ?_ 3 _ rfl; (with_reducible repeat (first | refine blk_drewN ?_ _ | refine blk_drew ?_ | refine blk_alloc ?_ _)); refine blk_put (cs := #[.int .i64 0, .int .i64 0, .int .i64 0, .int .i64 0, .int .i64 0, .int .i64 0]) ?_ 2 _ rfl; (with_reducible repeat (first | refine blk_drewN ?_ _ | refine blk_drew ?_ | refine blk_alloc ?_ _)); refine blk_put (cs := #[.int .i64 0, .int .i64 0, .int .i64 0, .int .i64 0, .int .i64 0, .int .i64 0]) ?_ 1 _ rfl; (with_reducible repeat (first | refine blk_drewN ?_ _ | refine blk_drew ?_ | refine blk_alloc ?_ _)); refine blk_put (cs := #[.int .i64 0, .int .i64 0, .int .i64 0, .int .i64 0, .int .i64 0, .int .i64 0]) ?_ 0 _ rfl; (with_reducible repeat (first | refine blk_drewN ?_ _ | refine blk_drew ?_ | refine blk_alloc ?_ _)); exact BK208.out) Tryd.underlying36 rfl (by kernel_rfl)) rfl ?_
  exact QT (BT HB.out)
 rw [if_neg c2] at H
 have c2b0 : (a0.toList == ([] : List UInt8)) = false := beq_eq_false_iff_ne.mpr c2
 have c2b1 : (a0.toList != ([] : List UInt8)) = true := bne_iff_ne.mpr c2
 replace H := Option.bind_eq_some_iff.mp H
 obtain ⟨t209, A50, H⟩ := H
 replace H : ((some (([(⟨#[]⟩ : ByteArray), (⟨#[]⟩ : ByteArray)] : List ByteArray) : List ByteArray)).bind fun y212 => (if t209.length + y212.length < 8796093022208 then ((some (t209 ++ y212 : List ByteArray)).bind fun y215 => (if 0 < (a0.size : Int) then ((strings_IndexByte.f (⟨#[98, 114, 119, 115, 99, 97]⟩ : ByteArray) (bt a0 0)).bind fun t218 => (if 0 < (y215.length : Int) then (if (rdOf ByteArray.empty y215 0).toList = ([] : List UInt8) then (some (0, 0, 0, 0, 0, 0, false)) else (if 1 ≤ ((rdOf ByteArray.empty y215 0).size : Int) then ((impl_ParseInt.f ((rdOf ByteArray.empty y215 0).extract 1 (rdOf ByteArray.empty y215 0).size)).bind fun bt222 => (if (wrap64 (t218 + 1)) = 1 then (if 1 < (y215.length : Int) then ((impl_parseScheme.f k (rdOf ByteArray.empty y215 1)).bind fun t225 => (impl_ParseOp.j0 k a0 y215 (wrap64 (t218 + 1)) bt222.1 0 t225 0)) else (none)) else (if (wrap64 (t218 + 1)) = 2 then (if 1 < (y215.length : Int) then ((impl_ParseInt.f (rdOf ByteArray.empty y215 1)).bind fun bt227 => (impl_ParseOp.j0 k a0 y215 (wrap64 (t218 + 1)) bt222.1 0 0 bt227.1)) else (none)) else (if (wrap64 (t218 + 1)) = 3 then (if 1 < (y215.length : Int) then ((impl_ParseInt.f (rdOf ByteArray.empty y215 1)).bind fun bt230 => (impl_ParseOp.j0 k a0 y215 (wrap64 (t218 + 1)) bt222.1 0 0 bt230.1)) else (none)) else (if (wrap64 (t218 + 1)) = 4 then (if 1 < (y215.length : Int) then ((impl_ParseInt.f (rdOf ByteArray.empty y215 1)).bind fun bt233 => (impl_ParseOp.j0 k a0 y215 (wrap64 (t218 + 1)) bt222.1 0 0 bt233.1)) else (none)) else (impl_ParseOp.j0 k a0 y215 (wrap64 (t218 + 1)) bt222.1 0 0 0)))))) else (none))) else (none))) else (none))) else (none))) = some (r1, r2, r3, r4, r5, r6, r7) := H
 have A5 := AM_ A50
 clear A50
 obtain ⟨y212, hy212⟩ : ∃ y_ : List ByteArray, y_ = (([(⟨#[]⟩ : ByteArray), (⟨#[]⟩ : ByteArray)] : List ByteArray)) := ⟨_, rfl⟩
 replace H : (if t209.length + y212.length < 8796093022208 then ((some (t209 ++ y212 : List ByteArray)).bind fun y215 => (if 0 < (a0.size : Int) then ((strings_IndexByte.f (⟨#[98, 114, 119, 115, 99, 97]⟩ : ByteArray) (bt a0 0)).bind fun t218 => (if 0 < (y215.length : Int) then (if (rdOf ByteArray.empty y215 0).toList = ([] : List UInt8) then (some (0, 0, 0, 0, 0, 0, false)) else (if 1 ≤ ((rdOf ByteArray.empty y215 0).size : Int) then ((impl_ParseInt.f ((rdOf ByteArray.empty y215 0).extract 1 (rdOf ByteArray.empty y215 0).size)).bind fun bt222 => (if (wrap64 (t218 + 1)) = 1 then (if 1 < (y215.length : Int) then ((impl_parseScheme.f k (rdOf ByteArray.empty y215 1)).bind fun t225 => (impl_ParseOp.j0 k a0 y215 (wrap64 (t218 + 1)) bt222.1 0 t225 0)) else (none)) else (if (wrap64 (t218 + 1)) = 2 then (if 1 < (y215.length : Int) then ((impl_ParseInt.f (rdOf ByteArray.empty y215 1)).bind fun bt227 => (impl_ParseOp.j0 k a0 y215 (wrap64 (t218 + 1)) bt222.1 0 0 bt227.1)) else (none)) else (if (wrap64 (t218 + 1)) = 3 then (if 1 < (y215.length : Int) then ((impl_ParseInt.f (rdOf ByteArray.empty y215 1)).bind fun bt230 => (impl_ParseOp.j0 k a0 y215 (wrap64 (t218 + 1)) bt222.1 0 0 bt230.1)) else (none)) else (if (wrap64 (t218 + 1)) = 4 then (if 1 < (y215.length : Int) then ((impl_ParseInt.f (rdOf ByteArray.empty y215 1)).bind fun bt233 => (impl_ParseOp.j0 k a0 y215 (wrap64 (t218 + 1)) bt222.1 0 0 bt233.1)) else (none)) else (impl_ParseOp.j0 k a0 y215 (wrap64 (t218 + 1)) bt222.1 0 0 0)))))) else (none))) else (none))) else (none))) else (none)) = some (r1, r2, r3, r4, r5, r6, r7) := by first | (rw [hy212]; with_reducible exact H) | (have H2_ := (Option.bind_some _ _).symm.trans H; rw [hy212]; with_reducible exact H2_) | (have H2_ := (Option.bind_some _ _).symm.trans H; with_reducible exact H2_) | with_reducible exact H | (rw [hy212]; exact H) | exact H
 have Ny212 := AM_ hy212
 clear hy212
 by_cases c6 : t209.length + y212.length < 8796093022208
 rotate_left
 ·rw [if_neg c6] at H
  exact absurd H (by simp)
 rw [if_pos c6] at H
 have LMc6 := AM_ c6
 clear c6
 obtain ⟨y215, hy215⟩ : ∃ y_ : List ByteArray, y_ = (t209 ++ y212) := ⟨_, rfl⟩
 replace H : (if 0 < (a0.size : Int) then ((strings_IndexByte.f (⟨#[98, 114, 119, 115, 99, 97]⟩ : ByteArray) (bt a0 0)).bind fun t218 => (if 0 < (y215.length : Int) then (if (rdOf ByteArray.empty y215 0).toList = ([] : List UInt8) then (some (0, 0, 0, 0, 0, 0, false)) else (if 1 ≤ ((rdOf ByteArray.empty y215 0).size : Int) then ((impl_ParseInt.f ((rdOf ByteArray.empty y215 0).extract 1 (rdOf ByteArray.empty y215 0).size)).bind fun bt222 => (if (wrap64 (t218 + 1)) = 1 then (if 1 < (y215.length : Int) then ((impl_parseScheme.f k (rdOf ByteArray.empty y215 1)).bind fun t225 => (impl_ParseOp.j0 k a0 y215 (wrap64 (t218 + 1)) bt222.1 0 t225 0)) else (none)) else (if (wrap64 (t218 + 1)) = 2 then (if 1 < (y215.length : Int) then ((impl_ParseInt.f (rdOf ByteArray.empty y215 1)).bind fun bt227 => (impl_ParseOp.j0 k a0 y215 (wrap64 (t218 + 1)) bt222.1 0 0 bt227.1)) else (none)) else (if (wrap64 (t218 + 1)) = 3 then (if 1 < (y215.length : Int) then ((impl_ParseInt.f (rdOf ByteArray.empty y215 1)).bind fun bt230 => (impl_ParseOp.j0 k a0 y215 (wrap64 (t218 + 1)) bt222.1 0 0 bt230.1)) else (none)) else (if (wrap64 (t218 + 1)) = 4 then (if 1 < (y215.length : Int) then ((impl_ParseInt.f (rdOf ByteArray.empty y215 1)).bind fun bt233 => (impl_ParseOp.j0 k a0 y215 (wrap64 (t218 + 1)) bt222.1 0 0 bt233.1)) else (none)) else (impl_ParseOp.j0 k a0 y215 (wrap64 (t218 + 1)) bt222.1 0 0 0)))))) else (none))) else (none))) else (none)) = some (r1, r2, r3, r4, r5, r6, r7) := by first | (rw [hy215]; with_reducible exact H) | (have H2_ := (Option.bind_some _ _).symm.trans H; rw [hy215]; with_reducible exact H2_) | (have H2_ := (Option.bind_some _ _).symm.trans H; with_reducible exact H2_) | with_reducible exact H | (rw [hy215]; exact H) | exact H
 have Ny215 := AM_ hy215
 clear hy215
 by_cases c7 : 0 < (a0.size : Int)
 rotate_left
 ·rw [if_neg c7] at H
  exact absurd H (by simp)
 rw [if_pos c7] at H
 have c7b0 : decide (0 < (a0.size : Int)) = true := decide_eq_true c7
 have c7b1 : decide (0 < a0.size) = true := decide_eq_true (by omega)
 clear c7
 replace H := Option.bind_eq_some_iff.mp H
 obtain ⟨t218, A90, H⟩ := H
 replace H : (if 0 < (y215.length : Int) then (if (rdOf ByteArray.empty y215 0).toList = ([] : List UInt8) then (some (0, 0, 0, 0, 0, 0, false)) else (if 1 ≤ ((rdOf ByteArray.empty y215 0).size : Int) then ((impl_ParseInt.f ((rdOf ByteArray.empty y215 0).extract 1 (rdOf ByteArray.empty y215 0).size)).bind fun bt222 => (if (wrap64 (t218 + 1)) = 1 then (if 1 < (y215.length : Int) then ((impl_parseScheme.f k (rdOf ByteArray.empty y215 1)).bind fun t225 => (impl_ParseOp.j0 k a0 y215 (wrap64 (t218 + 1)) bt222.1 0 t225 0)) else (none)) else (if (wrap64 (t218 + 1)) = 2 then (if 1 < (y215.length : Int) then ((impl_ParseInt.f (rdOf ByteArray.empty y215 1)).bind fun bt227 => (impl_ParseOp.j0 k a0 y215 (wrap64 (t218 + 1)) bt222.1 0 0 bt227.1)) else (none)) else (if (wrap64 (t218 + 1)) = 3 then (if 1 < (y215.length : Int) then ((impl_ParseInt.f (rdOf ByteArray.empty y215 1)).bind fun bt230 => (impl_ParseOp.j0 k a0 y215 (wrap64 (t218 + 1)) bt222.1 0 0 bt230.1)) else (none)) else (if (wrap64 (t218 + 1)) = 4 then (if 1 < (y215.length : Int) then ((impl_ParseInt.f (rdOf ByteArray.empty y215 1)).bind fun bt233 => (impl_ParseOp.j0 k a0 y215 (wrap64 (t218 + 1)) bt222.1 0 0 bt233.1)) else (none)) else (impl_ParseOp.j0 k a0 y215 (wrap64 (t218 + 1)) bt222.1 0 0 0)))))) else (none))) else (none)) = some (r1, r2, r3, r4, r5, r6, r7) := H
 have A9 := AM_ A90
 clear A90
 by_cases c10 : 0 < (y215.length : Int)
 rotate_left
 ·rw [if_neg c10] at H
  exact absurd H (by simp)
 rw [if_pos c10] at H
 have c10b0 : decide (0 < (y215.length : Int)) = true := decide_eq_true c10
 have c10b1 : decide (0 < y215.length) = true := decide_eq_true (by omega)
 clear c10
 by_cases c11 : (rdOf ByteArray.empty y215 0).toList = ([] : List UInt8)
 ·rw [if_pos c11] at H
  have c11b0 : ((rdOf ByteArray.empty y215 0).toList == ([] : List UInt8)) = true := beq_iff_eq.mpr c11
  have c11b1 : ((rdOf ByteArray.empty y215 0).toList != ([] : List UInt8)) = false := bne_eq_false_iff_eq.mpr c11
  clear c11
  simp only [Option.some.injEq, Prod.mk.injEq] at H
  obtain ⟨rfl, rfl, rfl, rfl, rfl, rfl, rfl⟩ := H
  go_enter Tryd.func17, Tryd.ntmps17
  go_wp2_with (first | ((with_reducible refine gate_dst (N := 2) rfl ?_); refine box_event ?hg (N := 2) ?hd (cs := #[.int .i64 0, .int .i64 0, .int .i64 0, .int .i64 0, .int .i64 0, .int .i64 0]) (t := 36) ?hr ?_; (case hd => rfl); (case hg => rfl); (case hr => first | (go_simp; done) | (go_simp; rfl)); intro gb208 hg w12 hbox hb; have BK208 := AM_ (hbox); have GW208 := AM_ ((GS HB.out hg)); have GE208 := AM_ ((GS HB.out hg)); replace HB := AM_ (below_step (BT HB.out) hb); clear hb hbox hg) | ((with_reducible refine gate_callee (f := 20) rfl ?_); refine goesL_ (some 10) rfl rfl Tryd.func20 (by kernel_rfl) rfl #[.string a0, .string (⟨#[32]⟩ : ByteArray)] rfl (by (try simp only [List.map_toArray, List.map_cons, List.map_nil]); first | done | rfl | (simp only [List.length_drop, List.length_take]; rfl)) ?_; (with_reducible refine (strings_Split.calls a0 (⟨#[32]⟩ : ByteArray) t209 _ ?side1 A5.out).mono ?_); (case side1 => first | (with_reducible exact hTB) | exact Tryd.TB_below hTB (BT HB.out)); rintro e w13 ⟨v210, rfl, ho0, hb⟩; refine ⟨_, rfl, ?_⟩; have HO211 := AM_ (Kd.R_lower ho0 (below_size (BT HB.out))); replace BK208 := AM_ (BB BK208.out hb); replace HB := AM_ (below_step (BT HB.out) hb); (try clear hb); (try clear hb2); (try clear hk); (try clear hi); (try clear ho0)) | ((with_reducible refine gate_dst (N := 11) rfl ?_); refine Kd.R_lit Kd.string _ 9 ?hg (N := 11) ?hd (xs := ([(⟨#[]⟩ : ByteArray), (⟨#[]⟩ : ByteArray)] : List ByteArray)) (inner := [.string (⟨#[]⟩ : ByteArray), .string (⟨#[]⟩ : ByteArray)]) (ok := fun _ => True) (okp := fun _ => True) ?hr ?hp (fun _ hk => hk) trivial (Below.refl _ _) (Nat.le_refl _) (by simp) ?_; (case hd => rfl); (case hg => rfl); (case hr => first | (go_simp; done) | (go_simp; rfl)); (case hp => exact (Reps.one (show Kd.M Kd.string _ _ _ (⟨#[]⟩ : ByteArray) [.string (⟨#[]⟩ : ByteArray)] from rfl) (Reps.one (show Kd.M Kd.string _ _ _ (⟨#[]⟩ : ByteArray) [.string (⟨#[]⟩ : ByteArray)] from rfl) (Reps.none _ _)))); intro v213 w14 ho15 hb hg_ hnew_; clear hg_ hnew_; (first | rw [← Ny212.out] at ho15 | (simp only [Int.reduceToNat] at ho15; rw [← Ny212.out] at ho15)); have HO214 := AM_ (Kd.R_lower (Kd.R_new' ho15 (Kd.R_lt (RT HO211.out))) (below_size (BT HB.out))); replace HO211 := AM_ (Kd.R_elder' (RT HO211.out) (Kd.R_base ho15) hb); replace BK208 := AM_ (BB BK208.out hb); replace HB := AM_ (below_step (BT HB.out) hb); clear hb ho15; obtain ⟨Ao17, co17, eo17⟩ := Kd.R_slice HO214.out; subst eo17) | ((with_reducible refine gate_builtin (b := .append) (xs := #[.tmp 10, .tmp 11]) rfl ?_); at_builtin; refine Kd.R_append_rows Kd.string (w0 := w) w.heap.size rfl (.tmp 10) (.tmp 11) 40 9 (.string ⟨#[]⟩) 16 rfl Tryd.underlying40 info9 rfl (by decide) (by omega) v210 t209 y212 _ _ _ (fun k_ => some k_ ≠ (.slice Ao17 y212.length co17 : Value).ownBlock) (fun _ => False) rfl rfl ?aO ?aR (fun _ _ h => h) (fun _ h => h.elim) ?aF ?aB ?aS ?aL ?_; (case aR => exact Kd.C_below (Kd.R_reads' HO214.out).2.2 (BL (Below.refl _ _) rfl rfl rfl rfl)); (case aB => exact (BT HB.out)); (case aF => exact (fun k_ hk => Kd.fresh' (Kd.R_lt (RT HO214.out)) k_ hk)); (case aO => exact (by (with_reducible repeat (first | apply Kd.R_alloc | apply Kd.R_drewN | apply Kd.R_drew)); exact Kd.R_mono HO211.out (fun _ hk => hk.2))); (case aS => exact (below_size (BT HB.out))); (case aL => have := LMc6.out; omega); intro v216 w16 ho hb hg hat; rw [← Ny215.out] at ho; have n0_ := AM_ (blk_grown (g := gb208) (o := .cells #[.int .i64 0, .int .i64 0, .int .i64 0, .int .i64 0, .int .i64 0, .int .i64 0] 36 (0, 0)) (by (with_reducible repeat (first | refine blk_drewN ?_ _ | refine blk_drew ?_ | refine blk_alloc ?_ _)); exact BK208.out) hg (Kd.R_ne HO211.out BK208.out (by decide))); have n1_ := AM_ (Kd.R_after (ok := (fun _ => True)) (RT HO214.out) hg hat); have n2_ := AM_ (hb); have n3_ := AM_ (ho); clear BK208; clear HO214; clear HB; clear HO211; have BK208 := n0_; have HO214 := n1_; have HB := n2_; have HO217 := n3_; clear n0_ n1_ n2_ n3_; clear ho hb hg hat; have p8 : 0 ≤ (0 : Int) := (by omega); have q8 : 0 < a0.size := (by have : (0 : Int) < (a0.size : Int) := DT; omega); have hx8 : ∀ h : 0 < a0.size, ((a0[0]'h).toNat : Int) = bt a0 0 := bt_at a0 0; clear p8; have qi8 : (0 < (a0.size : Int)) = True := eq_true (DT); replace q8 := eq_true q8) | ((with_reducible refine gate_callee (f := 34) rfl ?_); refine goesL_ (some 15) rfl rfl Tryd.func34 (by kernel_rfl) rfl #[.string (⟨#[98, 114, 119, 115, 99, 97]⟩ : ByteArray), .int .u8 (bt a0 0)] rfl (by (try simp only [List.map_toArray, List.map_cons, List.map_nil]); first | done | rfl | (simp only [List.length_drop, List.length_take]; rfl)) ?_; (with_reducible refine (strings_IndexByte.calls (⟨#[98, 114, 119, 115, 99, 97]⟩ : ByteArray) (bt a0 0) t218 _ A9.out).mono ?_); rintro e w18 ⟨rfl, hb⟩; refine ⟨_, rfl, ?_⟩; replace HO214 := AM_ (Kd.R_below (RT HO214.out) hb); replace HO217 := AM_ (Kd.R_below (RT HO217.out) hb); replace BK208 := AM_ (BB BK208.out hb); replace HB := AM_ (below_step (BT HB.out) hb); (try clear hb); (try clear hb2); (try clear hk); (try clear hi)) | ((with_reducible refine gate_dst (N := 5) rfl ?_); refine box_event ?hg (N := 5) ?hd (cs := #[.int .i64 0, .int .i64 0, .int .i64 0, .int .i64 0, .int .i64 0, .int .i64 0]) (t := 36) ?hr ?_; (case hd => rfl); (case hg => rfl); (case hr => first | (go_simp; done) | (go_simp; rfl)); intro gb219 hg w19 hbox hb; replace HO214 := AM_ (Kd.R_below (RT HO214.out) hb); replace HO217 := AM_ (Kd.R_below (RT HO217.out) hb); have BK219 := AM_ (hbox); have GW219 := AM_ ((GS HB.out hg)); have GE219 := AM_ ((GS HB.out hg)); replace HB := AM_ (below_step (BT HB.out) hb); have NB208_219 := AM_ ((NL BK208.out hg)); have NB219_208 := AM_ ((NG BK208.out hg)); replace BK208 := AM_ (BB BK208.out hb); clear hb hbox hg; have hnb20 := NB219_208.out; have hnc20 := NB208_219.out; obtain ⟨hcz21_0, hcz21_1, hcz21_2, hcz21_3, hcz21_4, hcz21_5, hfz21_0, hfz21_1, hfz21_2, hfz21_3, hfz21_4, hfz21_5⟩ := bk6 BK219.out; obtain ⟨Ao22, co22, eo22⟩ := Kd.R_slice HO217.out; subst eo22; have p220 : 0 ≤ (0 : Int) := (by omega); have q220 : 0 < (y215.length : Int) := DT; obtain ⟨ad220, e220, hx220_0⟩ := Kd.at_string (Kd.R_reads' HO217.out).2.2 0 p220 q220; cases e220; have qi220 : (0 < y215.length) = True := eq_true (by omega); (try rw [show ((0 : Int)).toNat = 0 from rfl] at hx220_0); (try rw [Addr.add_zero'] at hx220_0); have hn220_0 : ad220.block ≠ gb219 := Kd.own_blk (Kd.R_ne HO217.out BK219.out (by decide)); have hn220_1 : ad220.block ≠ gb219 := Kd.own_blk (Kd.R_ne HO217.out BK219.out (by decide)); have hn220_2 : ad220.block ≠ gb219 := Kd.own_blk (Kd.R_ne HO217.out BK219.out (by decide)); have hn220_3 : ad220.block ≠ gb219 := Kd.own_blk (Kd.R_ne HO217.out BK219.out (by decide)); have hn220_4 : ad220.block ≠ gb219 := Kd.own_blk (Kd.R_ne HO217.out BK219.out (by decide)); have hn220_5 : ad220.block ≠ gb219 := Kd.own_blk (Kd.R_ne HO217.out BK219.out (by decide)); replace hx220_0 := (cell_far (p := ⟨gb219, 0, none⟩) (by first | (rw [add_block]; exact hn220_0) | (show (Addr.add _ _).block ≠ _; rw [add_block]; exact hn220_0) | exact hn220_0) (.int .i64 (wrap64 (t218 + 1)))).trans hx220_0; replace hx220_0 := (cell_far (p := ⟨gb219, 1, none⟩) (by first | (rw [add_block]; exact hn220_1) | (show (Addr.add _ _).block ≠ _; rw [add_block]; exact hn220_1) | exact hn220_1) (.int .i64 0)).trans hx220_0; replace hx220_0 := (cell_far (p := ⟨gb219, 2, none⟩) (by first | (rw [add_block]; exact hn220_2) | (show (Addr.add _ _).block ≠ _; rw [add_block]; exact hn220_2) | exact hn220_2) (.int .i64 0)).trans hx220_0; replace hx220_0 := (cell_far (p := ⟨gb219, 3, none⟩) (by first | (rw [add_block]; exact hn220_3) | (show (Addr.add _ _).block ≠ _; rw [add_block]; exact hn220_3) | exact hn220_3) (.int .i64 0)).trans hx220_0; replace hx220_0 := (cell_far (p := ⟨gb219, 4, none⟩) (by first | (rw [add_block]; exact hn220_4) | (show (Addr.add _ _).block ≠ _; rw [add_block]; exact hn220_4) | exact hn220_4) (.int .i64 0)).trans hx220_0; replace hx220_0 := (cell_far (p := ⟨gb219, 5, none⟩) (by first | (rw [add_block]; exact hn220_5) | (show (Addr.add _ _).block ≠ _; rw [add_block]; exact hn220_5) | exact hn220_5) (.int .i64 0)).trans hx220_0; clear hn220_0; clear hn220_1; clear hn220_2; clear hn220_3; clear hn220_4; clear hn220_5; replace p220 := eq_true p220; replace q220 := eq_true q220; obtain ⟨hcz23_0, hcz23_1, hcz23_2, hcz23_3, hcz23_4, hcz23_5, hfz23_0, hfz23_1, hfz23_2, hfz23_3, hfz23_4, hfz23_5⟩ := bk6 BK208.out))
  refine bodyPost_ret (results_ct rfl _ _ gb208 36 #[.int .i64 0, .int .i64 0, .int .i64 0, .int .i64 0, .int .i64 0, .int .i64 0] (0, 0) _ rfl (by (with_reducible repeat (first | refine blk_drewN ?_ _ | refine blk_drew ?_ | refine blk_alloc ?_ _)); refine blk_put (cs := #[.int .i64 0, .int .i64 0, .int .i64 0, .int .i64 0, .int .i64 0, .int .i64 0]) ?_ 5 _ rfl; (with_reducible repeat (first | refine blk_drewN ?_ _ | refine blk_drew ?_ | refine blk_alloc ?_ _)); refine blk_put (cs := #[.int .i64 0, .int .i64 0, .int .i64 0, .int .i64 0, .int .i64 0, .int .i64 0]) ?_ 4 _ rfl; (with_reducible repeat (first | refine blk_drewN ?_ _ | refine blk_drew ?_ | refine blk_alloc ?_ _)); refine blk_put (cs := #[.int .i64 0, .int .i64 0, .int .i64 0, .int .i64 0, .int .i64 0, .int .i64 0]) ?_ 3 _ rfl; (with_reducible repeat (first | refine blk_drewN ?_ _ | refine blk_drew ?_ | refine blk_alloc ?_ _)); refine blk_put (cs := #[.int .i64 0, .int .i64 0, .int .i64 0, .int .i64 0, .int .i64 0, .int .i64 0]) ?_ 2 _ rfl; (with_reducible repeat (first | refine blk_drewN ?_ _ | refine blk_drew ?_ | refine blk_alloc ?_ _)); refine blk_put (cs := #[.int .i64 0, .int .i64 0, .int .i64 0, .int .i64 0, .int .i64 0, .int .i64 0]) ?_ 1 _ rfl; (with_reducible repeat (first | refine blk_drewN ?_ _ | refine blk_drew ?_ | refine blk_alloc ?_ _)); refine blk_put (cs := #[.int .i64 0, .int .i64 0, .int .i64 0, .int .i64 0, .int .i64 0, .int .i64 0]) ?_ 0 _ rfl; (with_reducible repeat (first | refine blk_drewN ?_ _ | refine blk_drew ?_ | refine blk_alloc ?_ _)); refine blk_far ?_ NB208_219.out _; (with_reducible repeat (first | refine blk_drewN ?_ _ | refine blk_drew ?_ | refine blk_alloc ?_ _)); refine blk_far ?_ NB208_219.out _; (with_reducible repeat (first | refine blk_drewN ?_ _ | refine blk_drew ?_ | refine blk_alloc ?_ _)); refine blk_far ?_ NB208_219.out _; (with_reducible repeat (first | refine blk_drewN ?_ _ | refine blk_drew ?_ | refine blk_alloc ?_ _)); refine blk_far ?_ NB208_219.out _; (with_reducible repeat (first | refine blk_drewN ?_ _ | refine blk_drew ?_ | refine blk_alloc ?_ _)); refine blk_far ?_ NB208_219.out _; (with_reducible repeat (first | refine blk_drewN ?_ _ | refine blk_drew ?_ | refine blk_alloc ?_ _)); refine blk_far ?_ NB208_219.out _; (with_reducible repeat (first | refine blk_drewN ?_ _ | refine blk_drew ?_ | refine blk_alloc ?_ _)); exact BK208.out) Tryd.underlying36 rfl (by kernel_rfl)) rfl ?_
  exact QT (BT HB.out)
 rw [if_neg c11] at H
 have c11b0 : ((rdOf ByteArray.empty y215 0).toList == ([] : List UInt8)) = false := beq_eq_false_iff_ne.mpr c11
 have c11b1 : ((rdOf ByteArray.empty y215 0).toList != ([] : List UInt8)) = true := bne_iff_ne.mpr c11
 by_cases c24 : 1 ≤ ((rdOf ByteArray.empty y215 0).size : Int)
 rotate_left
 ·rw [if_neg c24] at H
  exact absurd H (by simp)
 rw [if_pos c24] at H
 have c24b0 := eq_true c24
 have c24b1 : decide (1 ≤ ((rdOf ByteArray.empty y215 0).size : Int)) = true := decide_eq_true c24
 clear c24
 replace H := Option.bind_eq_some_iff.mp H
 obtain ⟨⟨t222, t223⟩, A250, H⟩ := H
 replace H : (if (wrap64 (t218 + 1)) = 1 then (if 1 < (y215.length : Int) then ((impl_parseScheme.f k (rdOf ByteArray.empty y215 1)).bind fun t225 => (impl_ParseOp.j0 k a0 y215 (wrap64 (t218 + 1)) t222 0 t225 0)) else (none)) else (if (wrap64 (t218 + 1)) = 2 then (if 1 < (y215.length : Int) then ((impl_ParseInt.f (rdOf ByteArray.empty y215 1)).bind fun bt227 => (impl_ParseOp.j0 k a0 y215 (wrap64 (t218 + 1)) t222 0 0 bt227.1)) else (none)) else (if (wrap64 (t218 + 1)) = 3 then (if 1 < (y215.length : Int) then ((impl_ParseInt.f (rdOf ByteArray.empty y215 1)).bind fun bt230 => (impl_ParseOp.j0 k a0 y215 (wrap64 (t218 + 1)) t222 0 0 bt230.1)) else (none)) else (if (wrap64 (t218 + 1)) = 4 then (if 1 < (y215.length : Int) then ((impl_ParseInt.f (rdOf ByteArray.empty y215 1)).bind fun bt233 => (impl_ParseOp.j0 k a0 y215 (wrap64 (t218 + 1)) t222 0 0 bt233.1)) else (none)) else (impl_ParseOp.j0 k a0 y215 (wrap64 (t218 + 1)) t222 0 0 0))))) = some (r1, r2, r3, r4, r5, r6, r7) := H
 have A25 := AM_ A250
 clear A250
 have HC26 := AM_ H
 clear H
 go_enter Tryd.func17, Tryd.ntmps17
 go_upto_block 0 with (first | ((with_reducible refine gate_dst (N := 2) rfl ?_); refine box_event ?hg (N := 2) ?hd (cs := #[.int .i64 0, .int .i64 0, .int .i64 0, .int .i64 0, .int .i64 0, .int .i64 0]) (t := 36) ?hr ?_; (case hd => rfl); (case hg => rfl); (case hr => first | (go_simp; done) | (go_simp; rfl)); intro gb208 hg w27 hbox hb; have BK208 := AM_ (hbox); have GW208 := AM_ ((GS HB.out hg)); have GE208 := AM_ ((GS HB.out hg)); replace HB := AM_ (below_step (BT HB.out) hb); clear hb hbox hg) | ((with_reducible refine gate_callee (f := 20) rfl ?_); refine goesL_ (some 10) rfl rfl Tryd.func20 (by kernel_rfl) rfl #[.string a0, .string (⟨#[32]⟩ : ByteArray)] rfl (by (try simp only [List.map_toArray, List.map_cons, List.map_nil]); first | done | rfl | (simp only [List.length_drop, List.length_take]; rfl)) ?_; (with_reducible refine (strings_Split.calls a0 (⟨#[32]⟩ : ByteArray) t209 _ ?side1 A5.out).mono ?_); (case side1 => first | (with_reducible exact hTB) | exact Tryd.TB_below hTB (BT HB.out)); rintro e w28 ⟨v210, rfl, ho0, hb⟩; refine ⟨_, rfl, ?_⟩; have HO211 := AM_ (Kd.R_lower ho0 (below_size (BT HB.out))); replace BK208 := AM_ (BB BK208.out hb); replace HB := AM_ (below_step (BT HB.out) hb); (try clear hb); (try clear hb2); (try clear hk); (try clear hi); (try clear ho0)) | ((with_reducible refine gate_dst (N := 11) rfl ?_); refine Kd.R_lit Kd.string _ 9 ?hg (N := 11) ?hd (xs := ([(⟨#[]⟩ : ByteArray), (⟨#[]⟩ : ByteArray)] : List ByteArray)) (inner := [.string (⟨#[]⟩ : ByteArray), .string (⟨#[]⟩ : ByteArray)]) (ok := fun _ => True) (okp := fun _ => True) ?hr ?hp (fun _ hk => hk) trivial (Below.refl _ _) (Nat.le_refl _) (by simp) ?_; (case hd => rfl); (case hg => rfl); (case hr => first | (go_simp; done) | (go_simp; rfl)); (case hp => exact (Reps.one (show Kd.M Kd.string _ _ _ (⟨#[]⟩ : ByteArray) [.string (⟨#[]⟩ : ByteArray)] from rfl) (Reps.one (show Kd.M Kd.string _ _ _ (⟨#[]⟩ : ByteArray) [.string (⟨#[]⟩ : ByteArray)] from rfl) (Reps.none _ _)))); intro v213 w29 ho30 hb hg_ hnew_; clear hg_ hnew_; (first | rw [← Ny212.out] at ho30 | (simp only [Int.reduceToNat] at ho30; rw [← Ny212.out] at ho30)); have HO214 := AM_ (Kd.R_lower (Kd.R_new' ho30 (Kd.R_lt (RT HO211.out))) (below_size (BT HB.out))); replace HO211 := AM_ (Kd.R_elder' (RT HO211.out) (Kd.R_base ho30) hb); replace BK208 := AM_ (BB BK208.out hb); replace HB := AM_ (below_step (BT HB.out) hb); clear hb ho30; obtain ⟨Ao32, co32, eo32⟩ := Kd.R_slice HO214.out; subst eo32) | ((with_reducible refine gate_builtin (b := .append) (xs := #[.tmp 10, .tmp 11]) rfl ?_); at_builtin; refine Kd.R_append_rows Kd.string (w0 := w) w.heap.size rfl (.tmp 10) (.tmp 11) 40 9 (.string ⟨#[]⟩) 16 rfl Tryd.underlying40 info9 rfl (by decide) (by omega) v210 t209 y212 _ _ _ (fun k_ => some k_ ≠ (.slice Ao32 y212.length co32 : Value).ownBlock) (fun _ => False) rfl rfl ?aO ?aR (fun _ _ h => h) (fun _ h => h.elim) ?aF ?aB ?aS ?aL ?_; (case aR => exact Kd.C_below (Kd.R_reads' HO214.out).2.2 (BL (Below.refl _ _) rfl rfl rfl rfl)); (case aB => exact (BT HB.out)); (case aF => exact (fun k_ hk => Kd.fresh' (Kd.R_lt (RT HO214.out)) k_ hk)); (case aO => exact (by (with_reducible repeat (first | apply Kd.R_alloc | apply Kd.R_drewN | apply Kd.R_drew)); exact Kd.R_mono HO211.out (fun _ hk => hk.2))); (case aS => exact (below_size (BT HB.out))); (case aL => have := LMc6.out; omega); intro v216 w31 ho hb hg hat; rw [← Ny215.out] at ho; have n0_ := AM_ (blk_grown (g := gb208) (o := .cells #[.int .i64 0, .int .i64 0, .int .i64 0, .int .i64 0, .int .i64 0, .int .i64 0] 36 (0, 0)) (by (with_reducible repeat (first | refine blk_drewN ?_ _ | refine blk_drew ?_ | refine blk_alloc ?_ _)); exact BK208.out) hg (Kd.R_ne HO211.out BK208.out (by decide))); have n1_ := AM_ (Kd.R_after (ok := (fun _ => True)) (RT HO214.out) hg hat); have n2_ := AM_ (hb); have n3_ := AM_ (ho); clear BK208; clear HO214; clear HB; clear HO211; have BK208 := n0_; have HO214 := n1_; have HB := n2_; have HO217 := n3_; clear n0_ n1_ n2_ n3_; clear ho hb hg hat; have p8 : 0 ≤ (0 : Int) := (by omega); have q8 : 0 < a0.size := (by have : (0 : Int) < (a0.size : Int) := DT; omega); have hx8 : ∀ h : 0 < a0.size, ((a0[0]'h).toNat : Int) = bt a0 0 := bt_at a0 0; clear p8; have qi8 : (0 < (a0.size : Int)) = True := eq_true (DT); replace q8 := eq_true q8) | ((with_reducible refine gate_callee (f := 34) rfl ?_); refine goesL_ (some 15) rfl rfl Tryd.func34 (by kernel_rfl) rfl #[.string (⟨#[98, 114, 119, 115, 99, 97]⟩ : ByteArray), .int .u8 (bt a0 0)] rfl (by (try simp only [List.map_toArray, List.map_cons, List.map_nil]); first | done | rfl | (simp only [List.length_drop, List.length_take]; rfl)) ?_; (with_reducible refine (strings_IndexByte.calls (⟨#[98, 114, 119, 115, 99, 97]⟩ : ByteArray) (bt a0 0) t218 _ A9.out).mono ?_); rintro e w33 ⟨rfl, hb⟩; refine ⟨_, rfl, ?_⟩; replace HO214 := AM_ (Kd.R_below (RT HO214.out) hb); replace HO217 := AM_ (Kd.R_below (RT HO217.out) hb); replace BK208 := AM_ (BB BK208.out hb); replace HB := AM_ (below_step (BT HB.out) hb); (try clear hb); (try clear hb2); (try clear hk); (try clear hi)) | ((with_reducible refine gate_dst (N := 5) rfl ?_); refine box_event ?hg (N := 5) ?hd (cs := #[.int .i64 0, .int .i64 0, .int .i64 0, .int .i64 0, .int .i64 0, .int .i64 0]) (t := 36) ?hr ?_; (case hd => rfl); (case hg => rfl); (case hr => first | (go_simp; done) | (go_simp; rfl)); intro gb219 hg w34 hbox hb; replace HO214 := AM_ (Kd.R_below (RT HO214.out) hb); replace HO217 := AM_ (Kd.R_below (RT HO217.out) hb); have BK219 := AM_ (hbox); have GW219 := AM_ ((GS HB.out hg)); have GE219 := AM_ ((GS HB.out hg)); replace HB := AM_ (below_step (BT HB.out) hb); have NB208_219 := AM_ ((NL BK208.out hg)); have NB219_208 := AM_ ((NG BK208.out hg)); replace BK208 := AM_ (BB BK208.out hb); clear hb hbox hg; have hnb35 := NB219_208.out; have hnc35 := NB208_219.out; obtain ⟨hcz36_0, hcz36_1, hcz36_2, hcz36_3, hcz36_4, hcz36_5, hfz36_0, hfz36_1, hfz36_2, hfz36_3, hfz36_4, hfz36_5⟩ := bk6 BK219.out; obtain ⟨Ao37, co37, eo37⟩ := Kd.R_slice HO217.out; subst eo37; have p220 : 0 ≤ (0 : Int) := (by omega); have q220 : 0 < (y215.length : Int) := DT; obtain ⟨ad220, e220, hx220_0⟩ := Kd.at_string (Kd.R_reads' HO217.out).2.2 0 p220 q220; cases e220; have qi220 : (0 < y215.length) = True := eq_true (by omega); (try rw [show ((0 : Int)).toNat = 0 from rfl] at hx220_0); (try rw [Addr.add_zero'] at hx220_0); have hn220_0 : ad220.block ≠ gb219 := Kd.own_blk (Kd.R_ne HO217.out BK219.out (by decide)); have hn220_1 : ad220.block ≠ gb219 := Kd.own_blk (Kd.R_ne HO217.out BK219.out (by decide)); have hn220_2 : ad220.block ≠ gb219 := Kd.own_blk (Kd.R_ne HO217.out BK219.out (by decide)); have hn220_3 : ad220.block ≠ gb219 := Kd.own_blk (Kd.R_ne HO217.out BK219.out (by decide)); have hn220_4 : ad220.block ≠ gb219 := Kd.own_blk (Kd.R_ne HO217.out BK219.out (by decide)); have hn220_5 : ad220.block ≠ gb219 := Kd.own_blk (Kd.R_ne HO217.out BK219.out (by decide)); replace hx220_0 := (cell_far (p := ⟨gb219, 0, none⟩) (by first | (rw [add_block]; exact hn220_0) | (show (Addr.add _ _).block ≠ _; rw [add_block]; exact hn220_0) | exact hn220_0) (.int .i64 (wrap64 (t218 + 1)))).trans hx220_0; replace hx220_0 := (cell_far (p := ⟨gb219, 1, none⟩) (by first | (rw [add_block]; exact hn220_1) | (show (Addr.add _ _).block ≠ _; rw [add_block]; exact hn220_1) | exact hn220_1) (.int .i64 0)).trans hx220_0; replace hx220_0 := (cell_far (p := ⟨gb219, 2, none⟩) (by first | (rw [add_block]; exact hn220_2) | (show (Addr.add _ _).block ≠ _; rw [add_block]; exact hn220_2) | exact hn220_2) (.int .i64 0)).trans hx220_0; replace hx220_0 := (cell_far (p := ⟨gb219, 3, none⟩) (by first | (rw [add_block]; exact hn220_3) | (show (Addr.add _ _).block ≠ _; rw [add_block]; exact hn220_3) | exact hn220_3) (.int .i64 0)).trans hx220_0; replace hx220_0 := (cell_far (p := ⟨gb219, 4, none⟩) (by first | (rw [add_block]; exact hn220_4) | (show (Addr.add _ _).block ≠ _; rw [add_block]; exact hn220_4) | exact hn220_4) (.int .i64 0)).trans hx220_0; replace hx220_0 := (cell_far (p := ⟨gb219, 5, none⟩) (by first | (rw [add_block]; exact hn220_5) | (show (Addr.add _ _).block ≠ _; rw [add_block]; exact hn220_5) | exact hn220_5) (.int .i64 0)).trans hx220_0; clear hn220_0; clear hn220_1; clear hn220_2; clear hn220_3; clear hn220_4; clear hn220_5; replace p220 := eq_true p220; replace q220 := eq_true q220; have p221 : 0 ≤ (0 : Int) := (by omega); have q221 : 0 < (y215.length : Int) := DT; obtain ⟨ad221, e221, hx221_0⟩ := Kd.at_string (Kd.R_reads' HO217.out).2.2 0 p221 q221; obtain rfl : ad220 = ad221 := (by injection e221); have qi221 : (0 < y215.length) = True := eq_true (by omega); (try rw [show ((0 : Int)).toNat = 0 from rfl] at hx221_0); (try rw [Addr.add_zero'] at hx221_0); have hn221_0 : ad220.block ≠ gb219 := Kd.own_blk (Kd.R_ne HO217.out BK219.out (by decide)); have hn221_1 : ad220.block ≠ gb219 := Kd.own_blk (Kd.R_ne HO217.out BK219.out (by decide)); have hn221_2 : ad220.block ≠ gb219 := Kd.own_blk (Kd.R_ne HO217.out BK219.out (by decide)); have hn221_3 : ad220.block ≠ gb219 := Kd.own_blk (Kd.R_ne HO217.out BK219.out (by decide)); have hn221_4 : ad220.block ≠ gb219 := Kd.own_blk (Kd.R_ne HO217.out BK219.out (by decide)); have hn221_5 : ad220.block ≠ gb219 := Kd.own_blk (Kd.R_ne HO217.out BK219.out (by decide)); replace hx221_0 := (cell_far (p := ⟨gb219, 0, none⟩) (by first | (rw [add_block]; exact hn221_0) | (show (Addr.add _ _).block ≠ _; rw [add_block]; exact hn221_0) | exact hn221_0) (.int .i64 (wrap64 (t218 + 1)))).trans hx221_0; replace hx221_0 := (cell_far (p := ⟨gb219, 1, none⟩) (by first | (rw [add_block]; exact hn221_1) | (show (Addr.add _ _).block ≠ _; rw [add_block]; exact hn221_1) | exact hn221_1) (.int .i64 0)).trans hx221_0; replace hx221_0 := (cell_far (p := ⟨gb219, 2, none⟩) (by first | (rw [add_block]; exact hn221_2) | (show (Addr.add _ _).block ≠ _; rw [add_block]; exact hn221_2) | exact hn221_2) (.int .i64 0)).trans hx221_0; replace hx221_0 := (cell_far (p := ⟨gb219, 3, none⟩) (by first | (rw [add_block]; exact hn221_3) | (show (Addr.add _ _).block ≠ _; rw [add_block]; exact hn221_3) | exact hn221_3) (.int .i64 0)).trans hx221_0; replace hx221_0 := (cell_far (p := ⟨gb219, 4, none⟩) (by first | (rw [add_block]; exact hn221_4) | (show (Addr.add _ _).block ≠ _; rw [add_block]; exact hn221_4) | exact hn221_4) (.int .i64 0)).trans hx221_0; replace hx221_0 := (cell_far (p := ⟨gb219, 5, none⟩) (by first | (rw [add_block]; exact hn221_5) | (show (Addr.add _ _).block ≠ _; rw [add_block]; exact hn221_5) | exact hn221_5) (.int .i64 0)).trans hx221_0; clear hn221_0; clear hn221_1; clear hn221_2; clear hn221_3; clear hn221_4; clear hn221_5; replace p221 := eq_true p221; replace q221 := eq_true q221) | ((with_reducible refine gate_callee (f := 35) rfl ?_); refine goesL_ (some 28) rfl rfl Tryd.func35 (by kernel_rfl) rfl #[.string ((rdOf ByteArray.empty y215 0).extract 1 (rdOf ByteArray.empty y215 0).size)] rfl (by (try simp only [List.map_toArray, List.map_cons, List.map_nil]); first | done | rfl | (simp only [List.length_drop, List.length_take]; rfl)) ?_; (with_reducible refine (impl_ParseInt.calls ((rdOf ByteArray.empty y215 0).extract 1 (rdOf ByteArray.empty y215 0).size) t222 t223 _ ?side1 A25.out).mono ?_); (case side1 => first | (with_reducible exact hTB) | exact Tryd.TB_below hTB (BT HB.out)); rintro e w38 ⟨rfl, hb⟩; refine ⟨_, rfl, ?_⟩; replace HO214 := AM_ (Kd.R_below (RF HO214.out BK219.out) hb); replace HO217 := AM_ (Kd.R_below (RF HO217.out BK219.out) hb); replace BK208 := AM_ (BF BK208.out NB208_219.out hb); replace BK219 := AM_ (BP #[.int .i64 (wrap64 (t218 + 1)), .int .i64 0, .int .i64 0, .int .i64 0, .int .i64 0, .int .i64 0] BK219.out hb); replace HB := AM_ (below_step (BT HB.out) hb); (try clear hb); (try clear hb2); (try clear hk); (try clear hi); obtain ⟨hcz39_0, hcz39_1, hcz39_2, hcz39_3, hcz39_4, hcz39_5, hfz39_0, hfz39_1, hfz39_2, hfz39_3, hfz39_4, hfz39_5⟩ := bk6 BK219.out))
 (try simp only [pA, pS, pZ, pK])
 go_cut [] (fun wc => ∃ (kq : Nat) (x220002_25 : Int) (x220003_25 : Int), Aside0 (impl_ParseOp.j0 kq a0 y215 (wrap64 (t218 + 1)) t222 0 x220002_25 x220003_25 = some (r1, r2, r3, r4, r5, r6, r7)) ∧ Aside0 (kq ≤ k) ∧ Aside0 (Kd.R Kd.string 9 wc w.heap.size (fun _ => True) (.slice (some ad220) y215.length co37) y215) ∧ Aside0 (wc.heap[gb208]? = some (.cells #[.int .i64 0, .int .i64 0, .int .i64 0, .int .i64 0, .int .i64 0, .int .i64 0] 36 (0, 0))) ∧ Aside0 (wc.heap[gb219]? = some (.cells #[.int .i64 (wrap64 (t218 + 1)), .int .i64 t222, .int .i64 x220002_25, .int .i64 x220003_25, .int .i64 0, .int .i64 0] 36 (0, 0))) ∧ Aside0 (Below w.heap.size w wc))
 case first =>
  have H := HC26.out
  clear HC26
  by_cases c40 : (wrap64 (t218 + 1)) = 1
  ·rw [if_pos c40] at H
   have c40b0 : ((wrap64 (t218 + 1)) == 1) = true := beq_iff_eq.mpr c40
   have c40b1 : ((wrap64 (t218 + 1)) != 1) = false := bne_eq_false_iff_eq.mpr c40
   clear c40
   (first | rw [c40b0] | (simp only [i64_w, i32_w]; rw [c40b0]) | skip)
   by_cases c41 : 1 < (y215.length : Int)
   rotate_left
   ·rw [if_neg c41] at H
    exact absurd H (by simp)
   rw [if_pos c41] at H
   have c41b0 : decide (1 < (y215.length : Int)) = true := decide_eq_true c41
   have c41b1 : decide (1 < y215.length) = true := decide_eq_true (by omega)
   clear c41
   replace H := Option.bind_eq_some_iff.mp H
   obtain ⟨t225, A420, H⟩ := H
   replace H : (impl_ParseOp.j0 k a0 y215 (wrap64 (t218 + 1)) t222 0 t225 0) = some (r1, r2, r3, r4, r5, r6, r7) := H
   have A42 := AM_ A420
   clear A420
   have H' := AM_ H
   clear H
   have p224 : 0 ≤ (1 : Int) := (by omega)
   have q224 : 1 < (y215.length : Int) := DT
   obtain ⟨ad224, e224, hx224_0⟩ := Kd.at_string (Kd.R_reads' HO217.out).2.2 1 p224 q224
   obtain rfl : ad220 = ad224 := (by injection e224)
   (try simp only [show (1 : Int).toNat = 1 from rfl, Nat.reduceMul, Nat.reduceEqDiff, Go.Addr.add, ↓reduceIte] at hx224_0)
   have qi224 : (1 < y215.length) = True := eq_true (by omega)
   (try rw [show ((1 : Int)).toNat = 1 from rfl] at hx224_0)
   have hn224_0 : ad220.block ≠ gb219 := Kd.own_blk (Kd.R_ne HO217.out BK219.out (by decide))
   replace hx224_0 := (cell_far (p := ⟨gb219, 1, none⟩) (by first | (rw [add_block]; exact hn224_0) | (show (Addr.add _ _).block ≠ _; rw [add_block]; exact hn224_0) | exact hn224_0) (.int .i64 t222)).trans hx224_0
   clear hn224_0
   replace p224 := eq_true p224
   replace q224 := eq_true q224
   go_wp2_with (first | ((with_reducible refine gate_callee (f := 36) rfl ?_); refine goesL_ (some 39) rfl rfl Tryd.func36 (by kernel_rfl) rfl #[.string (rdOf ByteArray.empty y215 1)] rfl (by (try simp only [List.map_toArray, List.map_cons, List.map_nil]); first | done | rfl | (simp only [List.length_drop, List.length_take]; rfl)) ?_; (with_reducible refine (impl_parseScheme.calls k (rdOf ByteArray.empty y215 1) t225 _ A42.out).mono ?_); rintro e w43 ⟨rfl, hb⟩; refine ⟨_, rfl, ?_⟩; replace HO214 := AM_ (Kd.R_below (RF HO214.out BK219.out) hb); replace HO217 := AM_ (Kd.R_below (RF HO217.out BK219.out) hb); replace BK208 := AM_ (BF BK208.out NB208_219.out hb); replace BK219 := AM_ (BP #[.int .i64 (wrap64 (t218 + 1)), .int .i64 t222, .int .i64 0, .int .i64 0, .int .i64 0, .int .i64 0] BK219.out hb); replace HB := AM_ (below_step (BT HB.out) hb); (try clear hb); (try clear hb2); (try clear hk); (try clear hi); have hnb44 := NB219_208.out; have hnc44 := NB208_219.out; obtain ⟨hcz45_0, hcz45_1, hcz45_2, hcz45_3, hcz45_4, hcz45_5, hfz45_0, hfz45_1, hfz45_2, hfz45_3, hfz45_4, hfz45_5⟩ := bk6 BK219.out))
   go_meet
   case rel => exact ⟨_, (t225), (0), H', ⟨by first | omega | exact Nat.le_refl _⟩, ⟨by (with_reducible repeat (first | apply Kd.R_alloc | apply Kd.R_drewN | apply Kd.R_drew)); exact Kd.R_mono (Kd.R_far (p := ⟨gb219, 2, none⟩) (Kd.R_types HO217.out BK219.out (by decide)) (fun _ hk => hk.2) (.int .i64 t225)) (fun _ hk => trivial)⟩, ⟨BG BK208.out NB208_219.out⟩, ⟨BQ BK219.out⟩, ⟨BT HB.out⟩⟩
  rw [if_neg c40] at H
  have c40b0 : ((wrap64 (t218 + 1)) == 1) = false := beq_eq_false_iff_ne.mpr c40
  have c40b1 : ((wrap64 (t218 + 1)) != 1) = true := bne_iff_ne.mpr c40
  (first | rw [c40b0] | (simp only [i64_w, i32_w]; rw [c40b0]) | skip)
  by_cases c46 : (wrap64 (t218 + 1)) = 2
  ·rw [if_pos c46] at H
   have c46b0 : ((wrap64 (t218 + 1)) == 2) = true := beq_iff_eq.mpr c46
   have c46b1 : ((wrap64 (t218 + 1)) != 2) = false := bne_eq_false_iff_eq.mpr c46
   clear c46
   by_cases c47 : 1 < (y215.length : Int)
   rotate_left
   ·rw [if_neg c47] at H
    exact absurd H (by simp)
   rw [if_pos c47] at H
   have c47b0 : decide (1 < (y215.length : Int)) = true := decide_eq_true c47
   have c47b1 : decide (1 < y215.length) = true := decide_eq_true (by omega)
   clear c47
   replace H := Option.bind_eq_some_iff.mp H
   obtain ⟨⟨t227, t228⟩, A480, H⟩ := H
   replace H : (impl_ParseOp.j0 k a0 y215 (wrap64 (t218 + 1)) t222 0 0 t227) = some (r1, r2, r3, r4, r5, r6, r7) := H
   have A48 := AM_ A480
   clear A480
   have H' := AM_ H
   clear H
   have p226 : 0 ≤ (1 : Int) := (by omega)
   have q226 : 1 < (y215.length : Int) := DT
   obtain ⟨ad226, e226, hx226_0⟩ := Kd.at_string (Kd.R_reads' HO217.out).2.2 1 p226 q226
   obtain rfl : ad220 = ad226 := (by injection e226)
   (try simp only [show (1 : Int).toNat = 1 from rfl, Nat.reduceMul, Nat.reduceEqDiff, Go.Addr.add, ↓reduceIte] at hx226_0)
   have qi226 : (1 < y215.length) = True := eq_true (by omega)
   (try rw [show ((1 : Int)).toNat = 1 from rfl] at hx226_0)
   have hn226_0 : ad220.block ≠ gb219 := Kd.own_blk (Kd.R_ne HO217.out BK219.out (by decide))
   replace hx226_0 := (cell_far (p := ⟨gb219, 1, none⟩) (by first | (rw [add_block]; exact hn226_0) | (show (Addr.add _ _).block ≠ _; rw [add_block]; exact hn226_0) | exact hn226_0) (.int .i64 t222)).trans hx226_0
   clear hn226_0
   replace p226 := eq_true p226
   replace q226 := eq_true q226
   go_wp2_with (first | ((with_reducible refine gate_callee (f := 35) rfl ?_); refine goesL_ (some 49) rfl rfl Tryd.func35 (by kernel_rfl) rfl #[.string (rdOf ByteArray.empty y215 1)] rfl (by (try simp only [List.map_toArray, List.map_cons, List.map_nil]); first | done | rfl | (simp only [List.length_drop, List.length_take]; rfl)) ?_; (with_reducible refine (impl_ParseInt.calls (rdOf ByteArray.empty y215 1) t227 t228 _ ?side1 A48.out).mono ?_); (case side1 => first | (with_reducible exact hTB) | exact Tryd.TB_below hTB (BT HB.out)); rintro e w49 ⟨rfl, hb⟩; refine ⟨_, rfl, ?_⟩; replace HO214 := AM_ (Kd.R_below (RF HO214.out BK219.out) hb); replace HO217 := AM_ (Kd.R_below (RF HO217.out BK219.out) hb); replace BK208 := AM_ (BF BK208.out NB208_219.out hb); replace BK219 := AM_ (BP #[.int .i64 (wrap64 (t218 + 1)), .int .i64 t222, .int .i64 0, .int .i64 0, .int .i64 0, .int .i64 0] BK219.out hb); replace HB := AM_ (below_step (BT HB.out) hb); (try clear hb); (try clear hb2); (try clear hk); (try clear hi); have hnb50 := NB219_208.out; have hnc50 := NB208_219.out; obtain ⟨hcz51_0, hcz51_1, hcz51_2, hcz51_3, hcz51_4, hcz51_5, hfz51_0, hfz51_1, hfz51_2, hfz51_3, hfz51_4, hfz51_5⟩ := bk6 BK219.out))
   go_meet
   case rel => exact ⟨_, (0), (t227), H', ⟨by first | omega | exact Nat.le_refl _⟩, ⟨by (with_reducible repeat (first | apply Kd.R_alloc | apply Kd.R_drewN | apply Kd.R_drew)); exact Kd.R_mono (Kd.R_far (p := ⟨gb219, 3, none⟩) (Kd.R_types HO217.out BK219.out (by decide)) (fun _ hk => hk.2) (.int .i64 t227)) (fun _ hk => trivial)⟩, ⟨BG BK208.out NB208_219.out⟩, ⟨BQ BK219.out⟩, ⟨BT HB.out⟩⟩
  rw [if_neg c46] at H
  have c46b0 : ((wrap64 (t218 + 1)) == 2) = false := beq_eq_false_iff_ne.mpr c46
  have c46b1 : ((wrap64 (t218 + 1)) != 2) = true := bne_iff_ne.mpr c46
  by_cases c52 : (wrap64 (t218 + 1)) = 3
  ·rw [if_pos c52] at H
   have c52b0 : ((wrap64 (t218 + 1)) == 3) = true := beq_iff_eq.mpr c52
   have c52b1 : ((wrap64 (t218 + 1)) != 3) = false := bne_eq_false_iff_eq.mpr c52
   clear c52
   by_cases c53 : 1 < (y215.length : Int)
   rotate_left
   ·rw [if_neg c53] at H
    exact absurd H (by simp)
   rw [if_pos c53] at H
   have c53b0 : decide (1 < (y215.length : Int)) = true := decide_eq_true c53
   have c53b1 : decide (1 < y215.length) = true := decide_eq_true (by omega)
   clear c53
   replace H := Option.bind_eq_some_iff.mp H
   obtain ⟨⟨t230, t231⟩, A540, H⟩ := H
   replace H : (impl_ParseOp.j0 k a0 y215 (wrap64 (t218 + 1)) t222 0 0 t230) = some (r1, r2, r3, r4, r5, r6, r7) := H
   have A54 := AM_ A540
   clear A540
   have H' := AM_ H
   clear H
   have p229 : 0 ≤ (1 : Int) := (by omega)
   have q229 : 1 < (y215.length : Int) := DT
   obtain ⟨ad229, e229, hx229_0⟩ := Kd.at_string (Kd.R_reads' HO217.out).2.2 1 p229 q229
   obtain rfl : ad220 = ad229 := (by injection e229)
   (try simp only [show (1 : Int).toNat = 1 from rfl, Nat.reduceMul, Nat.reduceEqDiff, Go.Addr.add, ↓reduceIte] at hx229_0)
   have qi229 : (1 < y215.length) = True := eq_true (by omega)
   (try rw [show ((1 : Int)).toNat = 1 from rfl] at hx229_0)
   have hn229_0 : ad220.block ≠ gb219 := Kd.own_blk (Kd.R_ne HO217.out BK219.out (by decide))
   replace hx229_0 := (cell_far (p := ⟨gb219, 1, none⟩) (by first | (rw [add_block]; exact hn229_0) | (show (Addr.add _ _).block ≠ _; rw [add_block]; exact hn229_0) | exact hn229_0) (.int .i64 t222)).trans hx229_0
   clear hn229_0
   replace p229 := eq_true p229
   replace q229 := eq_true q229
   go_wp2_with (first | ((with_reducible refine gate_callee (f := 35) rfl ?_); refine goesL_ (some 49) rfl rfl Tryd.func35 (by kernel_rfl) rfl #[.string (rdOf ByteArray.empty y215 1)] rfl (by (try simp only [List.map_toArray, List.map_cons, List.map_nil]); first | done | rfl | (simp only [List.length_drop, List.length_take]; rfl)) ?_; (with_reducible refine (impl_ParseInt.calls (rdOf ByteArray.empty y215 1) t230 t231 _ ?side1 A54.out).mono ?_); (case side1 => first | (with_reducible exact hTB) | exact Tryd.TB_below hTB (BT HB.out)); rintro e w55 ⟨rfl, hb⟩; refine ⟨_, rfl, ?_⟩; replace HO214 := AM_ (Kd.R_below (RF HO214.out BK219.out) hb); replace HO217 := AM_ (Kd.R_below (RF HO217.out BK219.out) hb); replace BK208 := AM_ (BF BK208.out NB208_219.out hb); replace BK219 := AM_ (BP #[.int .i64 (wrap64 (t218 + 1)), .int .i64 t222, .int .i64 0, .int .i64 0, .int .i64 0, .int .i64 0] BK219.out hb); replace HB := AM_ (below_step (BT HB.out) hb); (try clear hb); (try clear hb2); (try clear hk); (try clear hi); have hnb56 := NB219_208.out; have hnc56 := NB208_219.out; obtain ⟨hcz57_0, hcz57_1, hcz57_2, hcz57_3, hcz57_4, hcz57_5, hfz57_0, hfz57_1, hfz57_2, hfz57_3, hfz57_4, hfz57_5⟩ := bk6 BK219.out))
   go_meet
   case rel => exact ⟨_, (0), (t230), H', ⟨by first | omega | exact Nat.le_refl _⟩, ⟨by (with_reducible repeat (first | apply Kd.R_alloc | apply Kd.R_drewN | apply Kd.R_drew)); exact Kd.R_mono (Kd.R_far (p := ⟨gb219, 3, none⟩) (Kd.R_types HO217.out BK219.out (by decide)) (fun _ hk => hk.2) (.int .i64 t230)) (fun _ hk => trivial)⟩, ⟨BG BK208.out NB208_219.out⟩, ⟨BQ BK219.out⟩, ⟨BT HB.out⟩⟩
  rw [if_neg c52] at H
  have c52b0 : ((wrap64 (t218 + 1)) == 3) = false := beq_eq_false_iff_ne.mpr c52
  have c52b1 : ((wrap64 (t218 + 1)) != 3) = true := bne_iff_ne.mpr c52
  by_cases c58 : (wrap64 (t218 + 1)) = 4
  rotate_left
  ·rw [if_neg c58] at H
   have c58b0 : ((wrap64 (t218 + 1)) == 4) = false := beq_eq_false_iff_ne.mpr c58
   have c58b1 : ((wrap64 (t218 + 1)) != 4) = true := bne_iff_ne.mpr c58
   have H' := AM_ H
   clear H
   go_wp2
   go_meet
   case rel => exact ⟨_, (0), (0), H', ⟨by first | omega | exact Nat.le_refl _⟩, ⟨by (with_reducible repeat (first | apply Kd.R_alloc | apply Kd.R_drewN | apply Kd.R_drew)); exact Kd.R_mono (Kd.R_far (p := ⟨gb219, 1, none⟩) (Kd.R_types HO217.out BK219.out (by decide)) (fun _ hk => hk.2) (.int .i64 t222)) (fun _ hk => trivial)⟩, ⟨BG BK208.out NB208_219.out⟩, ⟨BQ BK219.out⟩, ⟨BT HB.out⟩⟩
  rw [if_pos c58] at H
  have c58b0 : ((wrap64 (t218 + 1)) == 4) = true := beq_iff_eq.mpr c58
  have c58b1 : ((wrap64 (t218 + 1)) != 4) = false := bne_eq_false_iff_eq.mpr c58
  clear c58
  by_cases c59 : 1 < (y215.length : Int)
  rotate_left
  ·rw [if_neg c59] at H
   exact absurd H (by simp)
  rw [if_pos c59] at H
  have c59b0 : decide (1 < (y215.length : Int)) = true := decide_eq_true c59
  have c59b1 : decide (1 < y215.length) = true := decide_eq_true (by omega)
  clear c59
  replace H := Option.bind_eq_some_iff.mp H
  obtain ⟨⟨t233, t234⟩, A600, H⟩ := H
  replace H : (impl_ParseOp.j0 k a0 y215 (wrap64 (t218 + 1)) t222 0 0 t233) = some (r1, r2, r3, r4, r5, r6, r7) := H
  have A60 := AM_ A600
  clear A600
  have H' := AM_ H
  clear H
  have p232 : 0 ≤ (1 : Int) := (by omega)
  have q232 : 1 < (y215.length : Int) := DT
  obtain ⟨ad232, e232, hx232_0⟩ := Kd.at_string (Kd.R_reads' HO217.out).2.2 1 p232 q232
  obtain rfl : ad220 = ad232 := (by injection e232)
  (try simp only [show (1 : Int).toNat = 1 from rfl, Nat.reduceMul, Nat.reduceEqDiff, Go.Addr.add, ↓reduceIte] at hx232_0)
  have qi232 : (1 < y215.length) = True := eq_true (by omega)
  (try rw [show ((1 : Int)).toNat = 1 from rfl] at hx232_0)
  have hn232_0 : ad220.block ≠ gb219 := Kd.own_blk (Kd.R_ne HO217.out BK219.out (by decide))
  replace hx232_0 := (cell_far (p := ⟨gb219, 1, none⟩) (by first | (rw [add_block]; exact hn232_0) | (show (Addr.add _ _).block ≠ _; rw [add_block]; exact hn232_0) | exact hn232_0) (.int .i64 t222)).trans hx232_0
  clear hn232_0
  replace p232 := eq_true p232
  replace q232 := eq_true q232
  go_wp2_with (first | ((with_reducible refine gate_callee (f := 35) rfl ?_); refine goesL_ (some 49) rfl rfl Tryd.func35 (by kernel_rfl) rfl #[.string (rdOf ByteArray.empty y215 1)] rfl (by (try simp only [List.map_toArray, List.map_cons, List.map_nil]); first | done | rfl | (simp only [List.length_drop, List.length_take]; rfl)) ?_; (with_reducible refine (impl_ParseInt.calls (rdOf ByteArray.empty y215 1) t233 t234 _ ?side1 A60.out).mono ?_); (case side1 => first | (with_reducible exact hTB) | exact Tryd.TB_below hTB (BT HB.out)); rintro e w61 ⟨rfl, hb⟩; refine ⟨_, rfl, ?_⟩; replace HO214 := AM_ (Kd.R_below (RF HO214.out BK219.out) hb); replace HO217 := AM_ (Kd.R_below (RF HO217.out BK219.out) hb); replace BK208 := AM_ (BF BK208.out NB208_219.out hb); replace BK219 := AM_ (BP #[.int .i64 (wrap64 (t218 + 1)), .int .i64 t222, .int .i64 0, .int .i64 0, .int .i64 0, .int .i64 0] BK219.out hb); replace HB := AM_ (below_step (BT HB.out) hb); (try clear hb); (try clear hb2); (try clear hk); (try clear hi); have hnb62 := NB219_208.out; have hnc62 := NB208_219.out; obtain ⟨hcz63_0, hcz63_1, hcz63_2, hcz63_3, hcz63_4, hcz63_5, hfz63_0, hfz63_1, hfz63_2, hfz63_3, hfz63_4, hfz63_5⟩ := bk6 BK219.out))
  go_meet
  case rel => exact ⟨_, (0), (t233), H', ⟨by first | omega | exact Nat.le_refl _⟩, ⟨by (with_reducible repeat (first | apply Kd.R_alloc | apply Kd.R_drewN | apply Kd.R_drew)); exact Kd.R_mono (Kd.R_far (p := ⟨gb219, 3, none⟩) (Kd.R_types HO217.out BK219.out (by decide)) (fun _ hk => hk.2) (.int .i64 t233)) (fun _ hk => trivial)⟩, ⟨BG BK208.out NB208_219.out⟩, ⟨BQ BK219.out⟩, ⟨BT HB.out⟩⟩
 case rest =>
  clear HC26
  try clear c1
  try clear c2
  try clear c2b0
  try clear c2b1
  try clear p2
  try clear q2
  try clear hx2
  try clear qi2
  try clear c3
  try clear c4
  try clear c5
  try clear c6
  try clear p6
  try clear c7
  try clear c7b0
  try clear c7b1
  try clear p8
  try clear q8
  try clear hx8
  try clear qi8
  try clear c10
  try clear c10b0
  try clear c10b1
  try clear c11
  try clear c11b0
  try clear c11b1
  try clear c17
  try clear c20
  try clear p22
  try clear q22
  try clear hx22
  try clear qi22
  try clear p23
  try clear q23
  try clear hx23
  try clear qi23
  try clear c24
  try clear c24b0
  try clear c24b1
  try clear c34
  try clear c35
  try clear c36
  try clear c40
  try clear c40b0
  try clear c40b1
  try clear c41
  try clear c41b0
  try clear c41b1
  try clear c44
  try clear c46
  try clear c46b0
  try clear c46b1
  try clear c47
  try clear c47b0
  try clear c47b1
  try clear c50
  try clear c52
  try clear c52b0
  try clear c52b1
  try clear c53
  try clear c53b0
  try clear c53b1
  try clear c56
  try clear c58
  try clear c58b0
  try clear c58b1
  try clear c59
  try clear c59b0
  try clear c59b1
  try clear c62
  try clear hcz21_0
  try clear hcz21_1
  try clear hcz21_2
  try clear hcz21_3
  try clear hcz21_4
  try clear hcz21_5
  try clear hcz23_0
  try clear hcz23_1
  try clear hcz23_2
  try clear hcz23_3
  try clear hcz23_4
  try clear hcz23_5
  try clear hcz36_0
  try clear hcz36_1
  try clear hcz36_2
  try clear hcz36_3
  try clear hcz36_4
  try clear hcz36_5
  try clear hcz39_0
  try clear hcz39_1
  try clear hcz39_2
  try clear hcz39_3
  try clear hcz39_4
  try clear hcz39_5
  try clear hcz45_0
  try clear hcz45_1
  try clear hcz45_2
  try clear hcz45_3
  try clear hcz45_4
  try clear hcz45_5
  try clear hcz4_0
  try clear hcz4_1
  try clear hcz4_2
  try clear hcz4_3
  try clear hcz4_4
  try clear hcz4_5
  try clear hcz51_0
  try clear hcz51_1
  try clear hcz51_2
  try clear hcz51_3
  try clear hcz51_4
  try clear hcz51_5
  try clear hcz57_0
  try clear hcz57_1
  try clear hcz57_2
  try clear hcz57_3
  try clear hcz57_4
  try clear hcz57_5
  try clear hcz63_0
  try clear hcz63_1
  try clear hcz63_2
  try clear hcz63_3
  try clear hcz63_4
  try clear hcz63_5
  try clear hfz21_0
  try clear hfz21_1
  try clear hfz21_2
  try clear hfz21_3
  try clear hfz21_4
  try clear hfz21_5
  try clear hfz23_0
  try clear hfz23_1
  try clear hfz23_2
  try clear hfz23_3
  try clear hfz23_4
  try clear hfz23_5
  try clear hfz36_0
  try clear hfz36_1
  try clear hfz36_2
  try clear hfz36_3
  try clear hfz36_4
  try clear hfz36_5
  try clear hfz39_0
  try clear hfz39_1
  try clear hfz39_2
  try clear hfz39_3
  try clear hfz39_4
  try clear hfz39_5
  try clear hfz45_0
  try clear hfz45_1
  try clear hfz45_2
  try clear hfz45_3
  try clear hfz45_4
  try clear hfz45_5
  try clear hfz4_0
  try clear hfz4_1
  try clear hfz4_2
  try clear hfz4_3
  try clear hfz4_4
  try clear hfz4_5
  try clear hfz51_0
  try clear hfz51_1
  try clear hfz51_2
  try clear hfz51_3
  try clear hfz51_4
  try clear hfz51_5
  try clear hfz57_0
  try clear hfz57_1
  try clear hfz57_2
  try clear hfz57_3
  try clear hfz57_4
  try clear hfz57_5
  try clear hfz63_0
  try clear hfz63_1
  try clear hfz63_2
  try clear hfz63_3
  try clear hfz63_4
  try clear hfz63_5
  try clear hx220_0
  try clear hx221_0
  try clear hx224_0
  try clear hx226_0
  try clear hx229_0
  try clear hx232_0
  try clear p220
  try clear p221
  try clear p224
  try clear p226
  try clear p229
  try clear p232
  try clear p8
  try clear q220
  try clear q221
  try clear q224
  try clear q226
  try clear q229
  try clear q232
  try clear q8
  obtain ⟨kq, x220002_25, x220003_25, HA, HJ25, HO_4, BK208, BK219, HB⟩ := hcut
  cases kq with
  | zero => exact absurd HA.out (by simp [impl_ParseOp.j0])
  | succ kj25 =>
   have H := HA.out
   clear HA
   simp only [impl_ParseOp.j0] at H
   by_cases c64 : (wrap64 (t218 + 1)) = 3
   ·rw [if_pos c64] at H
    have c64b0 : ((wrap64 (t218 + 1)) == 3) = true := beq_iff_eq.mpr c64
    have c64b1 : ((wrap64 (t218 + 1)) != 3) = false := bne_eq_false_iff_eq.mpr c64
    clear c64
    by_cases c65 : 2 < (y215.length : Int)
    rotate_left
    ·rw [if_neg c65] at H
     exact absurd H (by simp)
    rw [if_pos c65] at H
    have c65b0 : decide (2 < (y215.length : Int)) = true := decide_eq_true c65
    have c65b1 : decide (2 < y215.length) = true := decide_eq_true (by omega)
    clear c65
    replace H := Option.bind_eq_some_iff.mp H
    obtain ⟨⟨t236, t237⟩, A660, H⟩ := H
    replace H : ((impl_FormatOp.f kj25 (wrap64 (t218 + 1)) t222 x220002_25 x220003_25 0 t236).bind fun t238 => (if t238.toList = a0.toList then (some ((wrap64 (t218 + 1)), t222, x220002_25, x220003_25, 0, t236, true)) else (some (0, 0, 0, 0, 0, 0, false)))) = some (r1, r2, r3, r4, r5, r6, r7) := H
    have A66 := AM_ A660
    clear A660
    replace H := Option.bind_eq_some_iff.mp H
    obtain ⟨t238, A670, H⟩ := H
    replace H : (if t238.toList = a0.toList then (some ((wrap64 (t218 + 1)), t222, x220002_25, x220003_25, 0, t236, true)) else (some (0, 0, 0, 0, 0, 0, false))) = some (r1, r2, r3, r4, r5, r6, r7) := H
    have A67 := AM_ A670
    clear A670
    by_cases c68 : t238.toList = a0.toList
    rotate_left
    ·rw [if_neg c68] at H
     have c68b0 : (t238.toList == a0.toList) = false := beq_eq_false_iff_ne.mpr c68
     have c68b1 : (t238.toList != a0.toList) = true := bne_iff_ne.mpr c68
     simp only [Option.some.injEq, Prod.mk.injEq] at H
     obtain ⟨rfl, rfl, rfl, rfl, rfl, rfl, rfl⟩ := H
     have hnb76 := NB219_208.out
     have hnc76 := NB208_219.out
     obtain ⟨hcz77_0, hcz77_1, hcz77_2, hcz77_3, hcz77_4, hcz77_5, hfz77_0, hfz77_1, hfz77_2, hfz77_3, hfz77_4, hfz77_5⟩ := bk6 BK219.out
     have p235 : 0 ≤ (2 : Int) := (by omega)
     have q235 : 2 < (y215.length : Int) := DT
     obtain ⟨ad235, e235, hx235_0⟩ := Kd.at_string (Kd.R_reads' HO_4.out).2.2 2 p235 q235
     obtain rfl : ad220 = ad235 := (by injection e235)
     (try simp only [show (2 : Int).toNat = 2 from rfl, Nat.reduceMul, Nat.reduceEqDiff, Go.Addr.add, ↓reduceIte] at hx235_0)
     have qi235 : (2 < y215.length) = True := eq_true (by omega)
     (try rw [show ((2 : Int)).toNat = 2 from rfl] at hx235_0)
     replace p235 := eq_true p235
     replace q235 := eq_true q235
     go_wp2_with (first | ((with_reducible refine gate_callee (f := 37) rfl ?_); refine goesL_ (some 61) rfl rfl Tryd.func37 (by kernel_rfl) rfl #[.string (rdOf ByteArray.empty y215 2)] rfl (by (try simp only [List.map_toArray, List.map_cons, List.map_nil]); first | done | rfl | (simp only [List.length_drop, List.length_take]; rfl)) ?_; (with_reducible refine (impl_parseValue.calls (rdOf ByteArray.empty y215 2) t236 t237 _ ?side1 A66.out).mono ?_); (case side1 => first | (with_reducible exact hTB) | exact Tryd.TB_below hTB (BT HB.out)); rintro e w78 ⟨rfl, hb⟩; refine ⟨_, rfl, ?_⟩; replace HO_4 := AM_ (Kd.R_below (RT HO_4.out) hb); replace BK208 := AM_ (BB BK208.out hb); replace BK219 := AM_ (BB BK219.out hb); replace HB := AM_ (below_step (BT HB.out) hb); (try clear hb); (try clear hb2); (try clear hk); (try clear hi); obtain ⟨hcz79_0, hcz79_1, hcz79_2, hcz79_3, hcz79_4, hcz79_5, hfz79_0, hfz79_1, hfz79_2, hfz79_3, hfz79_4, hfz79_5⟩ := bk6 BK219.out) | ((with_reducible refine gate_callee (f := 38) rfl ?_); refine goesL_ (some 76) rfl rfl Tryd.func38 (by kernel_rfl) rfl #[.agg #[.int .i64 (wrap64 (t218 + 1)), .int .i64 t222, .int .i64 x220002_25, .int .i64 x220003_25, .int .i64 0, .int .i64 t236]] rfl (by (try simp only [List.map_toArray, List.map_cons, List.map_nil]); first | done | rfl | (simp only [List.length_drop, List.length_take]; rfl)) ?_; (with_reducible refine (impl_FormatOp.calls kj25 (wrap64 (t218 + 1)) t222 x220002_25 x220003_25 0 t236 t238 _ ?side1 A67.out).mono ?_); (case side1 => first | (with_reducible exact hTB) | exact Tryd.TB_below hTB (BT HB.out)); rintro e w80 ⟨rfl, hb⟩; refine ⟨_, rfl, ?_⟩; replace HO_4 := AM_ (Kd.R_below (RF HO_4.out BK219.out) hb); replace BK208 := AM_ (BF BK208.out NB208_219.out hb); replace BK219 := AM_ (BP #[.int .i64 (wrap64 (t218 + 1)), .int .i64 t222, .int .i64 x220002_25, .int .i64 x220003_25, .int .i64 0, .int .i64 t236] BK219.out hb); replace HB := AM_ (below_step (BT HB.out) hb); (try clear hb); (try clear hb2); (try clear hk); (try clear hi); obtain ⟨hcz81_0, hcz81_1, hcz81_2, hcz81_3, hcz81_4, hcz81_5, hfz81_0, hfz81_1, hfz81_2, hfz81_3, hfz81_4, hfz81_5⟩ := bk6 BK208.out))
     refine bodyPost_ret (results_ct rfl _ _ gb208 36 #[.int .i64 0, .int .i64 0, .int .i64 0, .int .i64 0, .int .i64 0, .int .i64 0] (0, 0) _ rfl (by (with_reducible repeat (first | refine blk_drewN ?_ _ | refine blk_drew ?_ | refine blk_alloc ?_ _)); refine blk_put (cs := #[.int .i64 0, .int .i64 0, .int .i64 0, .int .i64 0, .int .i64 0, .int .i64 0]) ?_ 5 _ rfl; (with_reducible repeat (first | refine blk_drewN ?_ _ | refine blk_drew ?_ | refine blk_alloc ?_ _)); refine blk_put (cs := #[.int .i64 0, .int .i64 0, .int .i64 0, .int .i64 0, .int .i64 0, .int .i64 0]) ?_ 4 _ rfl; (with_reducible repeat (first | refine blk_drewN ?_ _ | refine blk_drew ?_ | refine blk_alloc ?_ _)); refine blk_put (cs := #[.int .i64 0, .int .i64 0, .int .i64 0, .int .i64 0, .int .i64 0, .int .i64 0]) ?_ 3 _ rfl; (with_reducible repeat (first | refine blk_drewN ?_ _ | refine blk_drew ?_ | refine blk_alloc ?_ _)); refine blk_put (cs := #[.int .i64 0, .int .i64 0, .int .i64 0, .int .i64 0, .int .i64 0, .int .i64 0]) ?_ 2 _ rfl; (with_reducible repeat (first | refine blk_drewN ?_ _ | refine blk_drew ?_ | refine blk_alloc ?_ _)); refine blk_put (cs := #[.int .i64 0, .int .i64 0, .int .i64 0, .int .i64 0, .int .i64 0, .int .i64 0]) ?_ 1 _ rfl; (with_reducible repeat (first | refine blk_drewN ?_ _ | refine blk_drew ?_ | refine blk_alloc ?_ _)); refine blk_put (cs := #[.int .i64 0, .int .i64 0, .int .i64 0, .int .i64 0, .int .i64 0, .int .i64 0]) ?_ 0 _ rfl; (with_reducible repeat (first | refine blk_drewN ?_ _ | refine blk_drew ?_ | refine blk_alloc ?_ _)); exact BK208.out) Tryd.underlying36 rfl (by kernel_rfl)) rfl ?_
     exact QT (BT HB.out)
    rw [if_pos c68] at H
    have c68b0 : (t238.toList == a0.toList) = true := beq_iff_eq.mpr c68
    have c68b1 : (t238.toList != a0.toList) = false := bne_eq_false_iff_eq.mpr c68
    clear c68
    simp only [Option.some.injEq, Prod.mk.injEq] at H
    obtain ⟨rfl, rfl, rfl, rfl, rfl, rfl, rfl⟩ := H
    have hnb69 := NB219_208.out
    have hnc69 := NB208_219.out
    obtain ⟨hcz70_0, hcz70_1, hcz70_2, hcz70_3, hcz70_4, hcz70_5, hfz70_0, hfz70_1, hfz70_2, hfz70_3, hfz70_4, hfz70_5⟩ := bk6 BK219.out
    have p235 : 0 ≤ (2 : Int) := (by omega)
    have q235 : 2 < (y215.length : Int) := DT
    obtain ⟨ad235, e235, hx235_0⟩ := Kd.at_string (Kd.R_reads' HO_4.out).2.2 2 p235 q235
    obtain rfl : ad220 = ad235 := (by injection e235)
    (try simp only [show (2 : Int).toNat = 2 from rfl, Nat.reduceMul, Nat.reduceEqDiff, Go.Addr.add, ↓reduceIte] at hx235_0)
    have qi235 : (2 < y215.length) = True := eq_true (by omega)
    (try rw [show ((2 : Int)).toNat = 2 from rfl] at hx235_0)
    replace p235 := eq_true p235
    replace q235 := eq_true q235
    go_wp2_with (first | ((with_reducible refine gate_callee (f := 37) rfl ?_); refine goesL_ (some 61) rfl rfl Tryd.func37 (by kernel_rfl) rfl #[.string (rdOf ByteArray.empty y215 2)] rfl (by (try simp only [List.map_toArray, List.map_cons, List.map_nil]); first | done | rfl | (simp only [List.length_drop, List.length_take]; rfl)) ?_; (with_reducible refine (impl_parseValue.calls (rdOf ByteArray.empty y215 2) t236 t237 _ ?side1 A66.out).mono ?_); (case side1 => first | (with_reducible exact hTB) | exact Tryd.TB_below hTB (BT HB.out)); rintro e w71 ⟨rfl, hb⟩; refine ⟨_, rfl, ?_⟩; replace HO_4 := AM_ (Kd.R_below (RT HO_4.out) hb); replace BK208 := AM_ (BB BK208.out hb); replace BK219 := AM_ (BB BK219.out hb); replace HB := AM_ (below_step (BT HB.out) hb); (try clear hb); (try clear hb2); (try clear hk); (try clear hi); obtain ⟨hcz72_0, hcz72_1, hcz72_2, hcz72_3, hcz72_4, hcz72_5, hfz72_0, hfz72_1, hfz72_2, hfz72_3, hfz72_4, hfz72_5⟩ := bk6 BK219.out) | ((with_reducible refine gate_callee (f := 38) rfl ?_); refine goesL_ (some 76) rfl rfl Tryd.func38 (by kernel_rfl) rfl #[.agg #[.int .i64 (wrap64 (t218 + 1)), .int .i64 t222, .int .i64 x220002_25, .int .i64 x220003_25, .int .i64 0, .int .i64 t236]] rfl (by (try simp only [List.map_toArray, List.map_cons, List.map_nil]); first | done | rfl | (simp only [List.length_drop, List.length_take]; rfl)) ?_; (with_reducible refine (impl_FormatOp.calls kj25 (wrap64 (t218 + 1)) t222 x220002_25 x220003_25 0 t236 t238 _ ?side1 A67.out).mono ?_); (case side1 => first | (with_reducible exact hTB) | exact Tryd.TB_below hTB (BT HB.out)); rintro e w73 ⟨rfl, hb⟩; refine ⟨_, rfl, ?_⟩; replace HO_4 := AM_ (Kd.R_below (RF HO_4.out BK219.out) hb); replace BK208 := AM_ (BF BK208.out NB208_219.out hb); replace BK219 := AM_ (BP #[.int .i64 (wrap64 (t218 + 1)), .int .i64 t222, .int .i64 x220002_25, .int .i64 x220003_25, .int .i64 0, .int .i64 t236] BK219.out hb); replace HB := AM_ (below_step (BT HB.out) hb); (try clear hb); (try clear hb2); (try clear hk); (try clear hi); obtain ⟨hcz74_0, hcz74_1, hcz74_2, hcz74_3, hcz74_4, hcz74_5, hfz74_0, hfz74_1, hfz74_2, hfz74_3, hfz74_4, hfz74_5⟩ := bk6 BK219.out; obtain ⟨hcz75_0, hcz75_1, hcz75_2, hcz75_3, hcz75_4, hcz75_5, hfz75_0, hfz75_1, hfz75_2, hfz75_3, hfz75_4, hfz75_5⟩ := bk6 BK208.out))
    refine bodyPost_ret (results_ct rfl _ _ gb208 36 #[.int .i64 (wrap64 (t218 + 1)), .int .i64 t222, .int .i64 x220002_25, .int .i64 x220003_25, .int .i64 0, .int .i64 t236] (0, 0) _ rfl (by (with_reducible repeat (first | refine blk_drewN ?_ _ | refine blk_drew ?_ | refine blk_alloc ?_ _)); refine blk_put (cs := #[.int .i64 (wrap64 (t218 + 1)), .int .i64 t222, .int .i64 x220002_25, .int .i64 x220003_25, .int .i64 0, .int .i64 0]) ?_ 5 _ rfl; (with_reducible repeat (first | refine blk_drewN ?_ _ | refine blk_drew ?_ | refine blk_alloc ?_ _)); refine blk_put (cs := #[.int .i64 (wrap64 (t218 + 1)), .int .i64 t222, .int .i64 x220002_25, .int .i64 x220003_25, .int .i64 0, .int .i64 0]) ?_ 4 _ rfl; (with_reducible repeat (first | refine blk_drewN ?_ _ | refine blk_drew ?_ | refine blk_alloc ?_ _)); refine blk_put (cs := #[.int .i64 (wrap64 (t218 + 1)), .int .i64 t222, .int .i64 x220002_25, .int .i64 0, .int .i64 0, .int .i64 0]) ?_ 3 _ rfl; (with_reducible repeat (first | refine blk_drewN ?_ _ | refine blk_drew ?_ | refine blk_alloc ?_ _)); refine blk_put (cs := #[.int .i64 (wrap64 (t218 + 1)), .int .i64 t222, .int .i64 0, .int .i64 0, .int .i64 0, .int .i64 0]) ?_ 2 _ rfl; (with_reducible repeat (first | refine blk_drewN ?_ _ | refine blk_drew ?_ | refine blk_alloc ?_ _)); refine blk_put (cs := #[.int .i64 (wrap64 (t218 + 1)), .int .i64 0, .int .i64 0, .int .i64 0, .int .i64 0, .int .i64 0]) ?_ 1 _ rfl; (with_reducible repeat (first | refine blk_drewN ?_ _ | refine blk_drew ?_ | refine blk_alloc ?_ _)); refine blk_put (cs := #[.int .i64 0, .int .i64 0, .int .i64 0, .int .i64 0, .int .i64 0, .int .i64 0]) ?_ 0 _ rfl; (with_reducible repeat (first | refine blk_drewN ?_ _ | refine blk_drew ?_ | refine blk_alloc ?_ _)); exact BK208.out) Tryd.underlying36 rfl (by kernel_rfl)) rfl ?_
    exact QT (BT HB.out)
   rw [if_neg c64] at H
   have c64b0 : ((wrap64 (t218 + 1)) == 3) = false := beq_eq_false_iff_ne.mpr c64
   have c64b1 : ((wrap64 (t218 + 1)) != 3) = true := bne_iff_ne.mpr c64
   by_cases c82 : (wrap64 (t218 + 1)) = 4
   rotate_left
   ·rw [if_neg c82] at H
    have c82b0 : ((wrap64 (t218 + 1)) == 4) = false := beq_eq_false_iff_ne.mpr c82
    have c82b1 : ((wrap64 (t218 + 1)) != 4) = true := bne_iff_ne.mpr c82
    replace H := Option.bind_eq_some_iff.mp H
    obtain ⟨t243, A1000, H⟩ := H
    replace H : (if t243.toList = a0.toList then (some ((wrap64 (t218 + 1)), t222, x220002_25, x220003_25, 0, 0, true)) else (some (0, 0, 0, 0, 0, 0, false))) = some (r1, r2, r3, r4, r5, r6, r7) := H
    have A100 := AM_ A1000
    clear A1000
    by_cases c101 : t243.toList = a0.toList
    rotate_left
    ·rw [if_neg c101] at H
     have c101b0 : (t243.toList == a0.toList) = false := beq_eq_false_iff_ne.mpr c101
     have c101b1 : (t243.toList != a0.toList) = true := bne_iff_ne.mpr c101
     simp only [Option.some.injEq, Prod.mk.injEq] at H
     obtain ⟨rfl, rfl, rfl, rfl, rfl, rfl, rfl⟩ := H
     have hnb107 := NB219_208.out
     have hnc107 := NB208_219.out
     obtain ⟨hcz108_0, hcz108_1, hcz108_2, hcz108_3, hcz108_4, hcz108_5, hfz108_0, hfz108_1, hfz108_2, hfz108_3, hfz108_4, hfz108_5⟩ := bk6 BK219.out
     go_wp2_with (first | ((with_reducible refine gate_callee (f := 38) rfl ?_); refine goesL_ (some 76) rfl rfl Tryd.func38 (by kernel_rfl) rfl #[.agg #[.int .i64 (wrap64 (t218 + 1)), .int .i64 t222, .int .i64 x220002_25, .int .i64 x220003_25, .int .i64 0, .int .i64 0]] rfl (by (try simp only [List.map_toArray, List.map_cons, List.map_nil]); first | done | rfl | (simp only [List.length_drop, List.length_take]; rfl)) ?_; (with_reducible refine (impl_FormatOp.calls kj25 (wrap64 (t218 + 1)) t222 x220002_25 x220003_25 0 0 t243 _ ?side1 A100.out).mono ?_); (case side1 => first | (with_reducible exact hTB) | exact Tryd.TB_below hTB (BT HB.out)); rintro e w109 ⟨rfl, hb⟩; refine ⟨_, rfl, ?_⟩; replace HO_4 := AM_ (Kd.R_below (RT HO_4.out) hb); replace BK208 := AM_ (BB BK208.out hb); replace BK219 := AM_ (BB BK219.out hb); replace HB := AM_ (below_step (BT HB.out) hb); (try clear hb); (try clear hb2); (try clear hk); (try clear hi); obtain ⟨hcz110_0, hcz110_1, hcz110_2, hcz110_3, hcz110_4, hcz110_5, hfz110_0, hfz110_1, hfz110_2, hfz110_3, hfz110_4, hfz110_5⟩ := bk6 BK208.out))
     refine bodyPost_ret (results_ct rfl _ _ gb208 36 #[.int .i64 0, .int .i64 0, .int .i64 0, .int .i64 0, .int .i64 0, .int .i64 0] (0, 0) _ rfl (by (with_reducible repeat (first | refine blk_drewN ?_ _ | refine blk_drew ?_ | refine blk_alloc ?_ _)); refine blk_put (cs := #[.int .i64 0, .int .i64 0, .int .i64 0, .int .i64 0, .int .i64 0, .int .i64 0]) ?_ 5 _ rfl; (with_reducible repeat (first | refine blk_drewN ?_ _ | refine blk_drew ?_ | refine blk_alloc ?_ _)); refine blk_put (cs := #[.int .i64 0, .int .i64 0, .int .i64 0, .int .i64 0, .int .i64 0, .int .i64 0]) ?_ 4 _ rfl; (with_reducible repeat (first | refine blk_drewN ?_ _ | refine blk_drew ?_ | refine blk_alloc ?_ _)); refine blk_put (cs := #[.int .i64 0, .int .i64 0, .int .i64 0, .int .i64 0, .int .i64 0, .int .i64 0]) ?_ 3 _ rfl; (with_reducible repeat (first | refine blk_drewN ?_ _ | refine blk_drew ?_ | refine blk_alloc ?_ _)); refine blk_put (cs := #[.int .i64 0, .int .i64 0, .int .i64 0, .int .i64 0, .int .i64 0, .int .i64 0]) ?_ 2 _ rfl; (with_reducible repeat (first | refine blk_drewN ?_ _ | refine blk_drew ?_ | refine blk_alloc ?_ _)); refine blk_put (cs := #[.int .i64 0, .int .i64 0, .int .i64 0, .int .i64 0, .int .i64 0, .int .i64 0]) ?_ 1 _ rfl; (with_reducible repeat (first | refine blk_drewN ?_ _ | refine blk_drew ?_ | refine blk_alloc ?_ _)); refine blk_put (cs := #[.int .i64 0, .int .i64 0, .int .i64 0, .int .i64 0, .int .i64 0, .int .i64 0]) ?_ 0 _ rfl; (with_reducible repeat (first | refine blk_drewN ?_ _ | refine blk_drew ?_ | refine blk_alloc ?_ _)); exact BK208.out) Tryd.underlying36 rfl (by kernel_rfl)) rfl ?_
     exact QT (BT HB.out)
    rw [if_pos c101] at H
    have c101b0 : (t243.toList == a0.toList) = true := beq_iff_eq.mpr c101
    have c101b1 : (t243.toList != a0.toList) = false := bne_eq_false_iff_eq.mpr c101
    clear c101
    simp only [Option.some.injEq, Prod.mk.injEq] at H
    obtain ⟨rfl, rfl, rfl, rfl, rfl, rfl, rfl⟩ := H
    have hnb102 := NB219_208.out
    have hnc102 := NB208_219.out
    obtain ⟨hcz103_0, hcz103_1, hcz103_2, hcz103_3, hcz103_4, hcz103_5, hfz103_0, hfz103_1, hfz103_2, hfz103_3, hfz103_4, hfz103_5⟩ := bk6 BK219.out
    go_wp2_with (first | ((with_reducible refine gate_callee (f := 38) rfl ?_); refine goesL_ (some 76) rfl rfl Tryd.func38 (by kernel_rfl) rfl #[.agg #[.int .i64 (wrap64 (t218 + 1)), .int .i64 t222, .int .i64 x220002_25, .int .i64 x220003_25, .int .i64 0, .int .i64 0]] rfl (by (try simp only [List.map_toArray, List.map_cons, List.map_nil]); first | done | rfl | (simp only [List.length_drop, List.length_take]; rfl)) ?_; (with_reducible refine (impl_FormatOp.calls kj25 (wrap64 (t218 + 1)) t222 x220002_25 x220003_25 0 0 t243 _ ?side1 A100.out).mono ?_); (case side1 => first | (with_reducible exact hTB) | exact Tryd.TB_below hTB (BT HB.out)); rintro e w104 ⟨rfl, hb⟩; refine ⟨_, rfl, ?_⟩; replace HO_4 := AM_ (Kd.R_below (RT HO_4.out) hb); replace BK208 := AM_ (BB BK208.out hb); replace BK219 := AM_ (BB BK219.out hb); replace HB := AM_ (below_step (BT HB.out) hb); (try clear hb); (try clear hb2); (try clear hk); (try clear hi); obtain ⟨hcz105_0, hcz105_1, hcz105_2, hcz105_3, hcz105_4, hcz105_5, hfz105_0, hfz105_1, hfz105_2, hfz105_3, hfz105_4, hfz105_5⟩ := bk6 BK219.out; obtain ⟨hcz106_0, hcz106_1, hcz106_2, hcz106_3, hcz106_4, hcz106_5, hfz106_0, hfz106_1, hfz106_2, hfz106_3, hfz106_4, hfz106_5⟩ := bk6 BK208.out))
    refine bodyPost_ret (results_ct rfl _ _ gb208 36 #[.int .i64 (wrap64 (t218 + 1)), .int .i64 t222, .int .i64 x220002_25, .int .i64 x220003_25, .int .i64 0, .int .i64 0] (0, 0) _ rfl (by (with_reducible repeat (first | refine blk_drewN ?_ _ | refine blk_drew ?_ | refine blk_alloc ?_ _)); refine blk_put (cs := #[.int .i64 (wrap64 (t218 + 1)), .int .i64 t222, .int .i64 x220002_25, .int .i64 x220003_25, .int .i64 0, .int .i64 0]) ?_ 5 _ rfl; (with_reducible repeat (first | refine blk_drewN ?_ _ | refine blk_drew ?_ | refine blk_alloc ?_ _)); refine blk_put (cs := #[.int .i64 (wrap64 (t218 + 1)), .int .i64 t222, .int .i64 x220002_25, .int .i64 x220003_25, .int .i64 0, .int .i64 0]) ?_ 4 _ rfl; (with_reducible repeat (first | refine blk_drewN ?_ _ | refine blk_drew ?_ | refine blk_alloc ?_ _)); refine blk_put (cs := #[.int .i64 (wrap64 (t218 + 1)), .int .i64 t222, .int .i64 x220002_25, .int .i64 0, .int .i64 0, .int .i64 0]) ?_ 3 _ rfl; (with_reducible repeat (first | refine blk_drewN ?_ _ | refine blk_drew ?_ | refine blk_alloc ?_ _)); refine blk_put (cs := #[.int .i64 (wrap64 (t218 + 1)), .int .i64 t222, .int .i64 0, .int .i64 0, .int .i64 0, .int .i64 0]) ?_ 2 _ rfl; (with_reducible repeat (first | refine blk_drewN ?_ _ | refine blk_drew ?_ | refine blk_alloc ?_ _)); refine blk_put (cs := #[.int .i64 (wrap64 (t218 + 1)), .int .i64 0, .int .i64 0, .int .i64 0, .int .i64 0, .int .i64 0]) ?_ 1 _ rfl; (with_reducible repeat (first | refine blk_drewN ?_ _ | refine blk_drew ?_ | refine blk_alloc ?_ _)); refine blk_put (cs := #[.int .i64 0, .int .i64 0, .int .i64 0, .int .i64 0, .int .i64 0, .int .i64 0]) ?_ 0 _ rfl; (with_reducible repeat (first | refine blk_drewN ?_ _ | refine blk_drew ?_ | refine blk_alloc ?_ _)); exact BK208.out) Tryd.underlying36 rfl (by kernel_rfl)) rfl ?_
    exact QT (BT HB.out)
   rw [if_pos c82] at H
   have c82b0 : ((wrap64 (t218 + 1)) == 4) = true := beq_iff_eq.mpr c82
   have c82b1 : ((wrap64 (t218 + 1)) != 4) = false := bne_eq_false_iff_eq.mpr c82
   clear c82
   by_cases c83 : 2 < (y215.length : Int)
   rotate_left
   ·rw [if_neg c83] at H
    exact absurd H (by simp)
   rw [if_pos c83] at H
   have c83b0 : decide (2 < (y215.length : Int)) = true := decide_eq_true c83
   have c83b1 : decide (2 < y215.length) = true := decide_eq_true (by omega)
   clear c83
   replace H := Option.bind_eq_some_iff.mp H
   obtain ⟨⟨t240, t241⟩, A840, H⟩ := H
   replace H : ((impl_FormatOp.f kj25 (wrap64 (t218 + 1)) t222 x220002_25 x220003_25 t240 0).bind fun t242 => (if t242.toList = a0.toList then (some ((wrap64 (t218 + 1)), t222, x220002_25, x220003_25, t240, 0, true)) else (some (0, 0, 0, 0, 0, 0, false)))) = some (r1, r2, r3, r4, r5, r6, r7) := H
   have A84 := AM_ A840
   clear A840
   replace H := Option.bind_eq_some_iff.mp H
   obtain ⟨t242, A850, H⟩ := H
   replace H : (if t242.toList = a0.toList then (some ((wrap64 (t218 + 1)), t222, x220002_25, x220003_25, t240, 0, true)) else (some (0, 0, 0, 0, 0, 0, false))) = some (r1, r2, r3, r4, r5, r6, r7) := H
   have A85 := AM_ A850
   clear A850
   by_cases c86 : t242.toList = a0.toList
   rotate_left
   ·rw [if_neg c86] at H
    have c86b0 : (t242.toList == a0.toList) = false := beq_eq_false_iff_ne.mpr c86
    have c86b1 : (t242.toList != a0.toList) = true := bne_iff_ne.mpr c86
    simp only [Option.some.injEq, Prod.mk.injEq] at H
    obtain ⟨rfl, rfl, rfl, rfl, rfl, rfl, rfl⟩ := H
    have hnb94 := NB219_208.out
    have hnc94 := NB208_219.out
    obtain ⟨hcz95_0, hcz95_1, hcz95_2, hcz95_3, hcz95_4, hcz95_5, hfz95_0, hfz95_1, hfz95_2, hfz95_3, hfz95_4, hfz95_5⟩ := bk6 BK219.out
    have p239 : 0 ≤ (2 : Int) := (by omega)
    have q239 : 2 < (y215.length : Int) := DT
    obtain ⟨ad239, e239, hx239_0⟩ := Kd.at_string (Kd.R_reads' HO_4.out).2.2 2 p239 q239
    obtain rfl : ad220 = ad239 := (by injection e239)
    (try simp only [show (2 : Int).toNat = 2 from rfl, Nat.reduceMul, Nat.reduceEqDiff, Go.Addr.add, ↓reduceIte] at hx239_0)
    have qi239 : (2 < y215.length) = True := eq_true (by omega)
    (try rw [show ((2 : Int)).toNat = 2 from rfl] at hx239_0)
    replace p239 := eq_true p239
    replace q239 := eq_true q239
    go_wp2_with (first | ((with_reducible refine gate_callee (f := 35) rfl ?_); refine goesL_ (some 71) rfl rfl Tryd.func35 (by kernel_rfl) rfl #[.string (rdOf ByteArray.empty y215 2)] rfl (by (try simp only [List.map_toArray, List.map_cons, List.map_nil]); first | done | rfl | (simp only [List.length_drop, List.length_take]; rfl)) ?_; (with_reducible refine (impl_ParseInt.calls (rdOf ByteArray.empty y215 2) t240 t241 _ ?side1 A84.out).mono ?_); (case side1 => first | (with_reducible exact hTB) | exact Tryd.TB_below hTB (BT HB.out)); rintro e w96 ⟨rfl, hb⟩; refine ⟨_, rfl, ?_⟩; replace HO_4 := AM_ (Kd.R_below (RT HO_4.out) hb); replace BK208 := AM_ (BB BK208.out hb); replace BK219 := AM_ (BB BK219.out hb); replace HB := AM_ (below_step (BT HB.out) hb); (try clear hb); (try clear hb2); (try clear hk); (try clear hi); obtain ⟨hcz97_0, hcz97_1, hcz97_2, hcz97_3, hcz97_4, hcz97_5, hfz97_0, hfz97_1, hfz97_2, hfz97_3, hfz97_4, hfz97_5⟩ := bk6 BK219.out) | ((with_reducible refine gate_callee (f := 38) rfl ?_); refine goesL_ (some 76) rfl rfl Tryd.func38 (by kernel_rfl) rfl #[.agg #[.int .i64 (wrap64 (t218 + 1)), .int .i64 t222, .int .i64 x220002_25, .int .i64 x220003_25, .int .i64 t240, .int .i64 0]] rfl (by (try simp only [List.map_toArray, List.map_cons, List.map_nil]); first | done | rfl | (simp only [List.length_drop, List.length_take]; rfl)) ?_; (with_reducible refine (impl_FormatOp.calls kj25 (wrap64 (t218 + 1)) t222 x220002_25 x220003_25 t240 0 t242 _ ?side1 A85.out).mono ?_); (case side1 => first | (with_reducible exact hTB) | exact Tryd.TB_below hTB (BT HB.out)); rintro e w98 ⟨rfl, hb⟩; refine ⟨_, rfl, ?_⟩; replace HO_4 := AM_ (Kd.R_below (RF HO_4.out BK219.out) hb); replace BK208 := AM_ (BF BK208.out NB208_219.out hb); replace BK219 := AM_ (BP #[.int .i64 (wrap64 (t218 + 1)), .int .i64 t222, .int .i64 x220002_25, .int .i64 x220003_25, .int .i64 t240, .int .i64 0] BK219.out hb); replace HB := AM_ (below_step (BT HB.out) hb); (try clear hb); (try clear hb2); (try clear hk); (try clear hi); obtain ⟨hcz99_0, hcz99_1, hcz99_2, hcz99_3, hcz99_4, hcz99_5, hfz99_0, hfz99_1, hfz99_2, hfz99_3, hfz99_4, hfz99_5⟩ := bk6 BK208.out))
    refine bodyPost_ret (results_ct rfl _ _ gb208 36 #[.int .i64 0, .int .i64 0, .int .i64 0, .int .i64 0, .int .i64 0, .int .i64 0] (0, 0) _ rfl (by (with_reducible repeat (first | refine blk_drewN ?_ _ | refine blk_drew ?_ | refine blk_alloc ?_ _)); refine blk_put (cs := #[.int .i64 0, .int .i64 0, .int .i64 0, .int .i64 0, .int .i64 0, .int .i64 0]) ?_ 5 _ rfl; (with_reducible repeat (first | refine blk_drewN ?_ _ | refine blk_drew ?_ | refine blk_alloc ?_ _)); refine blk_put (cs := #[.int .i64 0, .int .i64 0, .int .i64 0, .int .i64 0, .int .i64 0, .int .i64 0]) ?_ 4 _ rfl; (with_reducible repeat (first | refine blk_drewN ?_ _ | refine blk_drew ?_ | refine blk_alloc ?_ _)); refine blk_put (cs := #[.int .i64 0, .int .i64 0, .int .i64 0, .int .i64 0, .int .i64 0, .int .i64 0]) ?_ 3 _ rfl; (with_reducible repeat (first | refine blk_drewN ?_ _ | refine blk_drew ?_ | refine blk_alloc ?_ _)); refine blk_put (cs := #[.int .i64 0, .int .i64 0, .int .i64 0, .int .i64 0, .int .i64 0, .int .i64 0]) ?_ 2 _ rfl; (with_reducible repeat (first | refine blk_drewN ?_ _ | refine blk_drew ?_ | refine blk_alloc ?_ _)); refine blk_put (cs := #[.int .i64 0, .int .i64 0, .int .i64 0, .int .i64 0, .int .i64 0, .int .i64 0]) ?_ 1 _ rfl; (with_reducible repeat (first | refine blk_drewN ?_ _ | refine blk_drew ?_ | refine blk_alloc ?_ _)); refine blk_put (cs := #[.int .i64 0, .int .i64 0, .int .i64 0, .int .i64 0, .int .i64 0, .int .i64 0]) ?_ 0 _ rfl; (with_reducible repeat (first | refine blk_drewN ?_ _ | refine blk_drew ?_ | refine blk_alloc ?_ _)); exact BK208.out) Tryd.underlying36 rfl (by kernel_rfl)) rfl ?_
    exact QT (BT HB.out)
   rw [if_pos c86] at H
   have c86b0 : (t242.toList == a0.toList) = true := beq_iff_eq.mpr c86
   have c86b1 : (t242.toList != a0.toList) = false := bne_eq_false_iff_eq.mpr c86
   clear c86
   simp only [Option.some.injEq, Prod.mk.injEq] at H
   obtain ⟨rfl, rfl, rfl, rfl, rfl, rfl, rfl⟩ := H
   have hnb87 := NB219_208.out
   have hnc87 := NB208_219.out
   obtain ⟨hcz88_0, hcz88_1, hcz88_2, hcz88_3, hcz88_4, hcz88_5, hfz88_0, hfz88_1, hfz88_2, hfz88_3, hfz88_4, hfz88_5⟩ := bk6 BK219.out
   have p239 : 0 ≤ (2 : Int) := (by omega)
   have q239 : 2 < (y215.length : Int) := DT
   obtain ⟨ad239, e239, hx239_0⟩ := Kd.at_string (Kd.R_reads' HO_4.out).2.2 2 p239 q239
   obtain rfl : ad220 = ad239 := (by injection e239)
   (try simp only [show (2 : Int).toNat = 2 from rfl, Nat.reduceMul, Nat.reduceEqDiff, Go.Addr.add, ↓reduceIte] at hx239_0)
   have qi239 : (2 < y215.length) = True := eq_true (by omega)
   (try rw [show ((2 : Int)).toNat = 2 from rfl] at hx239_0)
   replace p239 := eq_true p239
   replace q239 := eq_true q239
   go_wp2_with (first | ((with_reducible refine gate_callee (f := 35) rfl ?_); refine goesL_ (some 71) rfl rfl Tryd.func35 (by kernel_rfl) rfl #[.string (rdOf ByteArray.empty y215 2)] rfl (by (try simp only [List.map_toArray, List.map_cons, List.map_nil]); first | done | rfl | (simp only [List.length_drop, List.length_take]; rfl)) ?_; (with_reducible refine (impl_ParseInt.calls (rdOf ByteArray.empty y215 2) t240 t241 _ ?side1 A84.out).mono ?_); (case side1 => first | (with_reducible exact hTB) | exact Tryd.TB_below hTB (BT HB.out)); rintro e w89 ⟨rfl, hb⟩; refine ⟨_, rfl, ?_⟩; replace HO_4 := AM_ (Kd.R_below (RT HO_4.out) hb); replace BK208 := AM_ (BB BK208.out hb); replace BK219 := AM_ (BB BK219.out hb); replace HB := AM_ (below_step (BT HB.out) hb); (try clear hb); (try clear hb2); (try clear hk); (try clear hi); obtain ⟨hcz90_0, hcz90_1, hcz90_2, hcz90_3, hcz90_4, hcz90_5, hfz90_0, hfz90_1, hfz90_2, hfz90_3, hfz90_4, hfz90_5⟩ := bk6 BK219.out) | ((with_reducible refine gate_callee (f := 38) rfl ?_); refine goesL_ (some 76) rfl rfl Tryd.func38 (by kernel_rfl) rfl #[.agg #[.int .i64 (wrap64 (t218 + 1)), .int .i64 t222, .int .i64 x220002_25, .int .i64 x220003_25, .int .i64 t240, .int .i64 0]] rfl (by (try simp only [List.map_toArray, List.map_cons, List.map_nil]); first | done | rfl | (simp only [List.length_drop, List.length_take]; rfl)) ?_; (with_reducible refine (impl_FormatOp.calls kj25 (wrap64 (t218 + 1)) t222 x220002_25 x220003_25 t240 0 t242 _ ?side1 A85.out).mono ?_); (case side1 => first | (with_reducible exact hTB) | exact Tryd.TB_below hTB (BT HB.out)); rintro e w91 ⟨rfl, hb⟩; refine ⟨_, rfl, ?_⟩; replace HO_4 := AM_ (Kd.R_below (RF HO_4.out BK219.out) hb); replace BK208 := AM_ (BF BK208.out NB208_219.out hb); replace BK219 := AM_ (BP #[.int .i64 (wrap64 (t218 + 1)), .int .i64 t222, .int .i64 x220002_25, .int .i64 x220003_25, .int .i64 t240, .int .i64 0] BK219.out hb); replace HB := AM_ (below_step (BT HB.out) hb); (try clear hb); (try clear hb2); (try clear hk); (try clear hi); obtain ⟨hcz92_0, hcz92_1, hcz92_2, hcz92_3, hcz92_4, hcz92_5, hfz92_0, hfz92_1, hfz92_2, hfz92_3, hfz92_4, hfz92_5⟩ := bk6 BK219.out; obtain ⟨hcz93_0, hcz93_1, hcz93_2, hcz93_3, hcz93_4, hcz93_5, hfz93_0, hfz93_1, hfz93_2, hfz93_3, hfz93_4, hfz93_5⟩ := bk6 BK208.out))
   refine bodyPost_ret (results_ct rfl _ _ gb208 36 #[.int .i64 (wrap64 (t218 + 1)), .int .i64 t222, .int .i64 x220002_25, .int .i64 x220003_25, .int .i64 t240, .int .i64 0] (0, 0) _ rfl (by (with_reducible repeat (first | refine blk_drewN ?_ _ | refine blk_drew ?_ | refine blk_alloc ?_ _)); refine blk_put (cs := #[.int .i64 (wrap64 (t218 + 1)), .int .i64 t222, .int .i64 x220002_25, .int .i64 x220003_25, .int .i64 t240, .int .i64 0]) ?_ 5 _ rfl; (with_reducible repeat (first | refine blk_drewN ?_ _ | refine blk_drew ?_ | refine blk_alloc ?_ _)); refine blk_put (cs := #[.int .i64 (wrap64 (t218 + 1)), .int .i64 t222, .int .i64 x220002_25, .int .i64 x220003_25, .int .i64 0, .int .i64 0]) ?_ 4 _ rfl; (with_reducible repeat (first | refine blk_drewN ?_ _ | refine blk_drew ?_ | refine blk_alloc ?_ _)); refine blk_put (cs := #[.int .i64 (wrap64 (t218 + 1)), .int .i64 t222, .int .i64 x220002_25, .int .i64 0, .int .i64 0, .int .i64 0]) ?_ 3 _ rfl; (with_reducible repeat (first | refine blk_drewN ?_ _ | refine blk_drew ?_ | refine blk_alloc ?_ _)); refine blk_put (cs := #[.int .i64 (wrap64 (t218 + 1)), .int .i64 t222, .int .i64 0, .int .i64 0, .int .i64 0, .int .i64 0]) ?_ 2 _ rfl; (with_reducible repeat (first | refine blk_drewN ?_ _ | refine blk_drew ?_ | refine blk_alloc ?_ _)); refine blk_put (cs := #[.int .i64 (wrap64 (t218 + 1)), .int .i64 0, .int .i64 0, .int .i64 0, .int .i64 0, .int .i64 0]) ?_ 1 _ rfl; (with_reducible repeat (first | refine blk_drewN ?_ _ | refine blk_drew ?_ | refine blk_alloc ?_ _)); refine blk_put (cs := #[.int .i64 0, .int .i64 0, .int .i64 0, .int .i64 0, .int .i64 0, .int .i64 0]) ?_ 0 _ rfl; (with_reducible repeat (first | refine blk_drewN ?_ _ | refine blk_drew ?_ | refine blk_alloc ?_ _)); exact BK208.out) Tryd.underlying36 rfl (by kernel_rfl)) rfl ?_
   exact QT (BT HB.out)

/-! ### laws_eqOp: function 18 -/
def laws_eqOp.f (a0_0 : Int) (a0_1 : Int) (a0_2 : Int) (a0_3 : Int) (a0_4 : Int) (a0_5 : Int) (a1_0 : Int) (a1_1 : Int) (a1_2 : Int) (a1_3 : Int) (a1_4 : Int) (a1_5 : Int) : Option (Bool) := if a0_0 = a1_0 then (if a0_1 = a1_1 then (if a0_2 = a1_2 then (if a0_3 = a1_3 then (if a0_4 = a1_4 then (if a0_5 = a1_5 then (some true) else (some false)) else (some false)) else (some false)) else (some false)) else (some false)) else (some false)
set_option maxHeartbeats 8000000 in
set_option maxRecDepth 100000 in
theorem laws_eqOp.calls (a0_0 : Int) (a0_1 : Int) (a0_2 : Int) (a0_3 : Int) (a0_4 : Int) (a0_5 : Int) (a1_0 : Int) (a1_1 : Int) (a1_2 : Int) (a1_3 : Int) (a1_4 : Int) (a1_5 : Int) (r : Bool) (w : World) (h : laws_eqOp.f a0_0 a0_1 a0_2 a0_3 a0_4 a0_5 a1_0 a1_1 a1_2 a1_3 a1_4 a1_5 = some r) :
  Calls Tryd.prog 18 #[.agg #[.int .i64 a0_0, .int .i64 a0_1, .int .i64 a0_2, .int .i64 a0_3, .int .i64 a0_4, .int .i64 a0_5], .agg #[.int .i64 a1_0, .int .i64 a1_1, .int .i64 a1_2, .int .i64 a1_3, .int .i64 a1_4, .int .i64 a1_5]] w fun e w' => e = .returned (.bool r) ∧ Below w.heap.size w w' := by
 have hu36 := Tryd.underlying36
 have HB := AM_ (Below.refl w.heap.size w)
 have H : (if a0_0 = a1_0 then (if a0_1 = a1_1 then (if a0_2 = a1_2 then (if a0_3 = a1_3 then (if a0_4 = a1_4 then (if a0_5 = a1_5 then (some true) else (some false)) else (some false)) else (some false)) else (some false)) else (some false)) else (some false)) = some r := h
 clear h
 by_cases c3 : a0_0 = a1_0
 rotate_left
 ·rw [if_neg c3] at H
  have c3b0 : (a0_0 == a1_0) = false := beq_eq_false_iff_ne.mpr c3
  have c3b1 : (a0_0 != a1_0) = true := bne_iff_ne.mpr c3
  obtain rfl := Option.some.inj H
  go_enter Tryd.func18, Tryd.ntmps18
  go_wp2_with (first | ((with_reducible refine gate_dst (N := 2) rfl ?_); refine box_event ?hg (N := 2) ?hd (cs := #[.int .i64 a0_0, .int .i64 a0_1, .int .i64 a0_2, .int .i64 a0_3, .int .i64 a0_4, .int .i64 a0_5]) (t := 36) ?hr ?_; (case hd => rfl); (case hg => rfl); (case hr => first | (go_simp; done) | (go_simp; rfl)); intro gb244 hg w39 hbox hb; have BK244 := AM_ (hbox); have GW244 := AM_ ((GS HB.out hg)); have GE244 := AM_ ((GS HB.out hg)); replace HB := AM_ (below_step (BT HB.out) hb); clear hb hbox hg) | ((with_reducible refine gate_dst (N := 3) rfl ?_); refine box_event ?hg (N := 3) ?hd (cs := #[.int .i64 a1_0, .int .i64 a1_1, .int .i64 a1_2, .int .i64 a1_3, .int .i64 a1_4, .int .i64 a1_5]) (t := 36) ?hr ?_; (case hd => rfl); (case hg => rfl); (case hr => first | (go_simp; done) | (go_simp; rfl)); intro gb245 hg w40 hbox hb; have BK245 := AM_ (hbox); have GW245 := AM_ ((GS HB.out hg)); have GE245 := AM_ ((GS HB.out hg)); replace HB := AM_ (below_step (BT HB.out) hb); have NB244_245 := AM_ ((NL BK244.out hg)); have NB245_244 := AM_ ((NG BK244.out hg)); replace BK244 := AM_ (BB BK244.out hb); clear hb hbox hg; have hnb41 := NB244_245.out; have hnc41 := NB245_244.out; obtain ⟨hcz42_0, hcz42_1, hcz42_2, hcz42_3, hcz42_4, hcz42_5, hfz42_0, hfz42_1, hfz42_2, hfz42_3, hfz42_4, hfz42_5⟩ := bk6 BK244.out; obtain ⟨hcz43_0, hcz43_1, hcz43_2, hcz43_3, hcz43_4, hcz43_5, hfz43_0, hfz43_1, hfz43_2, hfz43_3, hfz43_4, hfz43_5⟩ := bk6 BK245.out))
  go_ret
  exact QT (BT HB.out)
 rw [if_pos c3] at H
 have c3b0 : (a0_0 == a1_0) = true := beq_iff_eq.mpr c3
 have c3b1 : (a0_0 != a1_0) = false := bne_eq_false_iff_eq.mpr c3
 clear c3
 by_cases c4 : a0_1 = a1_1
 rotate_left
 ·rw [if_neg c4] at H
  have c4b0 : (a0_1 == a1_1) = false := beq_eq_false_iff_ne.mpr c4
  have c4b1 : (a0_1 != a1_1) = true := bne_iff_ne.mpr c4
  obtain rfl := Option.some.inj H
  go_enter Tryd.func18, Tryd.ntmps18
  go_wp2_with (first | ((with_reducible refine gate_dst (N := 2) rfl ?_); refine box_event ?hg (N := 2) ?hd (cs := #[.int .i64 a0_0, .int .i64 a0_1, .int .i64 a0_2, .int .i64 a0_3, .int .i64 a0_4, .int .i64 a0_5]) (t := 36) ?hr ?_; (case hd => rfl); (case hg => rfl); (case hr => first | (go_simp; done) | (go_simp; rfl)); intro gb244 hg w34 hbox hb; have BK244 := AM_ (hbox); have GW244 := AM_ ((GS HB.out hg)); have GE244 := AM_ ((GS HB.out hg)); replace HB := AM_ (below_step (BT HB.out) hb); clear hb hbox hg) | ((with_reducible refine gate_dst (N := 3) rfl ?_); refine box_event ?hg (N := 3) ?hd (cs := #[.int .i64 a1_0, .int .i64 a1_1, .int .i64 a1_2, .int .i64 a1_3, .int .i64 a1_4, .int .i64 a1_5]) (t := 36) ?hr ?_; (case hd => rfl); (case hg => rfl); (case hr => first | (go_simp; done) | (go_simp; rfl)); intro gb245 hg w35 hbox hb; have BK245 := AM_ (hbox); have GW245 := AM_ ((GS HB.out hg)); have GE245 := AM_ ((GS HB.out hg)); replace HB := AM_ (below_step (BT HB.out) hb); have NB244_245 := AM_ ((NL BK244.out hg)); have NB245_244 := AM_ ((NG BK244.out hg)); replace BK244 := AM_ (BB BK244.out hb); clear hb hbox hg; have hnb36 := NB244_245.out; have hnc36 := NB245_244.out; obtain ⟨hcz37_0, hcz37_1, hcz37_2, hcz37_3, hcz37_4, hcz37_5, hfz37_0, hfz37_1, hfz37_2, hfz37_3, hfz37_4, hfz37_5⟩ := bk6 BK244.out; obtain ⟨hcz38_0, hcz38_1, hcz38_2, hcz38_3, hcz38_4, hcz38_5, hfz38_0, hfz38_1, hfz38_2, hfz38_3, hfz38_4, hfz38_5⟩ := bk6 BK245.out))
  go_ret
  exact QT (BT HB.out)
 rw [if_pos c4] at H
 have c4b0 : (a0_1 == a1_1) = true := beq_iff_eq.mpr c4
 have c4b1 : (a0_1 != a1_1) = false := bne_eq_false_iff_eq.mpr c4
 clear c4
 by_cases c5 : a0_2 = a1_2
 rotate_left
 ·rw [if_neg c5] at H
  have c5b0 : (a0_2 == a1_2) = false := beq_eq_false_iff_ne.mpr c5
  have c5b1 : (a0_2 != a1_2) = true := bne_iff_ne.mpr c5
  obtain rfl := Option.some.inj H
  go_enter Tryd.func18, Tryd.ntmps18
  go_wp2_with (first | ((with_reducible refine gate_dst (N := 2) rfl ?_); refine box_event ?hg (N := 2) ?hd (cs := #[.int .i64 a0_0, .int .i64 a0_1, .int .i64 a0_2, .int .i64 a0_3, .int .i64 a0_4, .int .i64 a0_5]) (t := 36) ?hr ?_; (case hd => rfl); (case hg => rfl); (case hr => first | (go_simp; done) | (go_simp; rfl)); intro gb244 hg w29 hbox hb; have BK244 := AM_ (hbox); have GW244 := AM_ ((GS HB.out hg)); have GE244 := AM_ ((GS HB.out hg)); replace HB := AM_ (below_step (BT HB.out) hb); clear hb hbox hg) | ((with_reducible refine gate_dst (N := 3) rfl ?_); refine box_event ?hg (N := 3) ?hd (cs := #[.int .i64 a1_0, .int .i64 a1_1, .int .i64 a1_2, .int .i64 a1_3, .int .i64 a1_4, .int .i64 a1_5]) (t := 36) ?hr ?_; (case hd => rfl); (case hg => rfl); (case hr => first | (go_simp; done) | (go_simp; rfl)); intro gb245 hg w30 hbox hb; have BK245 := AM_ (hbox); have GW245 := AM_ ((GS HB.out hg)); have GE245 := AM_ ((GS HB.out hg)); replace HB := AM_ (below_step (BT HB.out) hb); have NB244_245 := AM_ ((NL BK244.out hg)); have NB245_244 := AM_ ((NG BK244.out hg)); replace BK244 := AM_ (BB BK244.out hb); clear hb hbox hg; have hnb31 := NB244_245.out; have hnc31 := NB245_244.out; obtain ⟨hcz32_0, hcz32_1, hcz32_2, hcz32_3, hcz32_4, hcz32_5, hfz32_0, hfz32_1, hfz32_2, hfz32_3, hfz32_4, hfz32_5⟩ := bk6 BK244.out; obtain ⟨hcz33_0, hcz33_1, hcz33_2, hcz33_3, hcz33_4, hcz33_5, hfz33_0, hfz33_1, hfz33_2, hfz33_3, hfz33_4, hfz33_5⟩ := bk6 BK245.out))
  go_ret
  exact QT (BT HB.out)
 rw [if_pos c5] at H
 have c5b0 : (a0_2 == a1_2) = true := beq_iff_eq.mpr c5
 have c5b1 : (a0_2 != a1_2) = false := bne_eq_false_iff_eq.mpr c5
 clear c5
 by_cases c6 : a0_3 = a1_3
 rotate_left
 ·rw [if_neg c6] at H
  have c6b0 : (a0_3 == a1_3) = false := beq_eq_false_iff_ne.mpr c6
  have c6b1 : (a0_3 != a1_3) = true := bne_iff_ne.mpr c6
  obtain rfl := Option.some.inj H
  go_enter Tryd.func18, Tryd.ntmps18
  go_wp2_with (first | ((with_reducible refine gate_dst (N := 2) rfl ?_); refine box_event ?hg (N := 2) ?hd (cs := #[.int .i64 a0_0, .int .i64 a0_1, .int .i64 a0_2, .int .i64 a0_3, .int .i64 a0_4, .int .i64 a0_5]) (t := 36) ?hr ?_; (case hd => rfl); (case hg => rfl); (case hr => first | (go_simp; done) | (go_simp; rfl)); intro gb244 hg w24 hbox hb; have BK244 := AM_ (hbox); have GW244 := AM_ ((GS HB.out hg)); have GE244 := AM_ ((GS HB.out hg)); replace HB := AM_ (below_step (BT HB.out) hb); clear hb hbox hg) | ((with_reducible refine gate_dst (N := 3) rfl ?_); refine box_event ?hg (N := 3) ?hd (cs := #[.int .i64 a1_0, .int .i64 a1_1, .int .i64 a1_2, .int .i64 a1_3, .int .i64 a1_4, .int .i64 a1_5]) (t := 36) ?hr ?_; (case hd => rfl); (case hg => rfl); (case hr => first | (go_simp; done) | (go_simp; rfl)); intro gb245 hg w25 hbox hb; have BK245 := AM_ (hbox); have GW245 := AM_ ((GS HB.out hg)); have GE245 := AM_ ((GS HB.out hg)); replace HB := AM_ (below_step (BT HB.out) hb); have NB244_245 := AM_ ((NL BK244.out hg)); have NB245_244 := AM_ ((NG BK244.out hg)); replace BK244 := AM_ (BB BK244.out hb); clear hb hbox hg; have hnb26 := NB244_245.out; have hnc26 := NB245_244.out; obtain ⟨hcz27_0, hcz27_1, hcz27_2, hcz27_3, hcz27_4, hcz27_5, hfz27_0, hfz27_1, hfz27_2, hfz27_3, hfz27_4, hfz27_5⟩ := bk6 BK244.out; obtain ⟨hcz28_0, hcz28_1, hcz28_2, hcz28_3, hcz28_4, hcz28_5, hfz28_0, hfz28_1, hfz28_2, hfz28_3, hfz28_4, hfz28_5⟩ := bk6 BK245.out))
  go_ret
  exact QT (BT HB.out)
 rw [if_pos c6] at H
 have c6b0 : (a0_3 == a1_3) = true := beq_iff_eq.mpr c6
 have c6b1 : (a0_3 != a1_3) = false := bne_eq_false_iff_eq.mpr c6
 clear c6
 by_cases c7 : a0_4 = a1_4
 rotate_left
 ·rw [if_neg c7] at H
  have c7b0 : (a0_4 == a1_4) = false := beq_eq_false_iff_ne.mpr c7
  have c7b1 : (a0_4 != a1_4) = true := bne_iff_ne.mpr c7
  obtain rfl := Option.some.inj H
  go_enter Tryd.func18, Tryd.ntmps18
  go_wp2_with (first | ((with_reducible refine gate_dst (N := 2) rfl ?_); refine box_event ?hg (N := 2) ?hd (cs := #[.int .i64 a0_0, .int .i64 a0_1, .int .i64 a0_2, .int .i64 a0_3, .int .i64 a0_4, .int .i64 a0_5]) (t := 36) ?hr ?_; (case hd => rfl); (case hg => rfl); (case hr => first | (go_simp; done) | (go_simp; rfl)); intro gb244 hg w19 hbox hb; have BK244 := AM_ (hbox); have GW244 := AM_ ((GS HB.out hg)); have GE244 := AM_ ((GS HB.out hg)); replace HB := AM_ (below_step (BT HB.out) hb); clear hb hbox hg) | ((with_reducible refine gate_dst (N := 3) rfl ?_); refine box_event ?hg (N := 3) ?hd (cs := #[.int .i64 a1_0, .int .i64 a1_1, .int .i64 a1_2, .int .i64 a1_3, .int .i64 a1_4, .int .i64 a1_5]) (t := 36) ?hr ?_; (case hd => rfl); (case hg => rfl); (case hr => first | (go_simp; done) | (go_simp; rfl)); intro gb245 hg w20 hbox hb; have BK245 := AM_ (hbox); have GW245 := AM_ ((GS HB.out hg)); have GE245 := AM_ ((GS HB.out hg)); replace HB := AM_ (below_step (BT HB.out) hb); have NB244_245 := AM_ ((NL BK244.out hg)); have NB245_244 := AM_ ((NG BK244.out hg)); replace BK244 := AM_ (BB BK244.out hb); clear hb hbox hg; have hnb21 := NB244_245.out; have hnc21 := NB245_244.out; obtain ⟨hcz22_0, hcz22_1, hcz22_2, hcz22_3, hcz22_4, hcz22_5, hfz22_0, hfz22_1, hfz22_2, hfz22_3, hfz22_4, hfz22_5⟩ := bk6 BK244.out; obtain ⟨hcz23_0, hcz23_1, hcz23_2, hcz23_3, hcz23_4, hcz23_5, hfz23_0, hfz23_1, hfz23_2, hfz23_3, hfz23_4, hfz23_5⟩ := bk6 BK245.out))
  go_ret
  exact QT (BT HB.out)
 rw [if_pos c7] at H
 have c7b0 : (a0_4 == a1_4) = true := beq_iff_eq.mpr c7
 have c7b1 : (a0_4 != a1_4) = false := bne_eq_false_iff_eq.mpr c7
 clear c7
 by_cases c8 : a0_5 = a1_5
 rotate_left
 ·rw [if_neg c8] at H
  have c8b0 : (a0_5 == a1_5) = false := beq_eq_false_iff_ne.mpr c8
  have c8b1 : (a0_5 != a1_5) = true := bne_iff_ne.mpr c8
  obtain rfl := Option.some.inj H
  go_enter Tryd.func18, Tryd.ntmps18
  go_wp2_with (first | ((with_reducible refine gate_dst (N := 2) rfl ?_); refine box_event ?hg (N := 2) ?hd (cs := #[.int .i64 a0_0, .int .i64 a0_1, .int .i64 a0_2, .int .i64 a0_3, .int .i64 a0_4, .int .i64 a0_5]) (t := 36) ?hr ?_; (case hd => rfl); (case hg => rfl); (case hr => first | (go_simp; done) | (go_simp; rfl)); intro gb244 hg w14 hbox hb; have BK244 := AM_ (hbox); have GW244 := AM_ ((GS HB.out hg)); have GE244 := AM_ ((GS HB.out hg)); replace HB := AM_ (below_step (BT HB.out) hb); clear hb hbox hg) | ((with_reducible refine gate_dst (N := 3) rfl ?_); refine box_event ?hg (N := 3) ?hd (cs := #[.int .i64 a1_0, .int .i64 a1_1, .int .i64 a1_2, .int .i64 a1_3, .int .i64 a1_4, .int .i64 a1_5]) (t := 36) ?hr ?_; (case hd => rfl); (case hg => rfl); (case hr => first | (go_simp; done) | (go_simp; rfl)); intro gb245 hg w15 hbox hb; have BK245 := AM_ (hbox); have GW245 := AM_ ((GS HB.out hg)); have GE245 := AM_ ((GS HB.out hg)); replace HB := AM_ (below_step (BT HB.out) hb); have NB244_245 := AM_ ((NL BK244.out hg)); have NB245_244 := AM_ ((NG BK244.out hg)); replace BK244 := AM_ (BB BK244.out hb); clear hb hbox hg; have hnb16 := NB244_245.out; have hnc16 := NB245_244.out; obtain ⟨hcz17_0, hcz17_1, hcz17_2, hcz17_3, hcz17_4, hcz17_5, hfz17_0, hfz17_1, hfz17_2, hfz17_3, hfz17_4, hfz17_5⟩ := bk6 BK244.out; obtain ⟨hcz18_0, hcz18_1, hcz18_2, hcz18_3, hcz18_4, hcz18_5, hfz18_0, hfz18_1, hfz18_2, hfz18_3, hfz18_4, hfz18_5⟩ := bk6 BK245.out))
  go_ret
  exact QT (BT HB.out)
 rw [if_pos c8] at H
 have c8b0 : (a0_5 == a1_5) = true := beq_iff_eq.mpr c8
 have c8b1 : (a0_5 != a1_5) = false := bne_eq_false_iff_eq.mpr c8
 clear c8
 obtain rfl := Option.some.inj H
 go_enter Tryd.func18, Tryd.ntmps18
 go_wp2_with (first | ((with_reducible refine gate_dst (N := 2) rfl ?_); refine box_event ?hg (N := 2) ?hd (cs := #[.int .i64 a0_0, .int .i64 a0_1, .int .i64 a0_2, .int .i64 a0_3, .int .i64 a0_4, .int .i64 a0_5]) (t := 36) ?hr ?_; (case hd => rfl); (case hg => rfl); (case hr => first | (go_simp; done) | (go_simp; rfl)); intro gb244 hg w9 hbox hb; have BK244 := AM_ (hbox); have GW244 := AM_ ((GS HB.out hg)); have GE244 := AM_ ((GS HB.out hg)); replace HB := AM_ (below_step (BT HB.out) hb); clear hb hbox hg) | ((with_reducible refine gate_dst (N := 3) rfl ?_); refine box_event ?hg (N := 3) ?hd (cs := #[.int .i64 a1_0, .int .i64 a1_1, .int .i64 a1_2, .int .i64 a1_3, .int .i64 a1_4, .int .i64 a1_5]) (t := 36) ?hr ?_; (case hd => rfl); (case hg => rfl); (case hr => first | (go_simp; done) | (go_simp; rfl)); intro gb245 hg w10 hbox hb; have BK245 := AM_ (hbox); have GW245 := AM_ ((GS HB.out hg)); have GE245 := AM_ ((GS HB.out hg)); replace HB := AM_ (below_step (BT HB.out) hb); have NB244_245 := AM_ ((NL BK244.out hg)); have NB245_244 := AM_ ((NG BK244.out hg)); replace BK244 := AM_ (BB BK244.out hb); clear hb hbox hg; have hnb11 := NB244_245.out; have hnc11 := NB245_244.out; obtain ⟨hcz12_0, hcz12_1, hcz12_2, hcz12_3, hcz12_4, hcz12_5, hfz12_0, hfz12_1, hfz12_2, hfz12_3, hfz12_4, hfz12_5⟩ := bk6 BK244.out; obtain ⟨hcz13_0, hcz13_1, hcz13_2, hcz13_3, hcz13_4, hcz13_5, hfz13_0, hfz13_1, hfz13_2, hfz13_3, hfz13_4, hfz13_5⟩ := bk6 BK245.out))
 go_ret
 exact QT (BT HB.out)

end Go.Proofs.YtgpmfkmdchcagaaDoor.PFnExactParseOp
