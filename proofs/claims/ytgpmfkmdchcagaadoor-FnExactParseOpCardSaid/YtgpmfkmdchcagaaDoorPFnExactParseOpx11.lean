-- Printed by a program of mine (wip/myprint.py), which runs the printer of the kit with contracts of mine beside it.
import Derived.Test.YtgpmfkmdchcagaaDoorPFnExactParseOpx0
import Derived.Test.YtgpmfkmdchcagaaDoorPFnExactParseOpx6
import Derived.Test.YtgpmfkmdchcagaaDoorPFnExactParseOpx10
namespace Go.Proofs.YtgpmfkmdchcagaaDoor.PFnExactParseOp
open Go.RowKit Go.Proofs.YtgpmfkmdchcagaaDoorW.PrintWords Go.Proofs.YtgpmfkmdchcagaaDoorW.PrintLast Go.Proofs.YtgpmfkmdchcagaaDoorW.PrintMore
attribute [local go_sem] max2_int min2_int max_two min_two max_three min_three max_four min_four   -- for this text's walks alone
set_option linter.unusedVariables false
set_option linter.unusedSimpArgs false

/-! ### laws_FnExactParseOp: function 5 -/
def laws_FnExactParseOp.f (k : Nat) (a0 : ByteArray) : Option (Bool) := if (a0.size : Int) > 1048576 then (some true) else ((spec_ParseOp.f k a0).bind fun bt246 => ((impl_ParseOp.f k a0).bind fun bt254 => ((laws_eqOp.f bt254.1 bt254.2.1 bt254.2.2.1 bt254.2.2.2.1 bt254.2.2.2.2.1 bt254.2.2.2.2.2.1 bt246.1 bt246.2.1 bt246.2.2.1 bt246.2.2.2.1 bt246.2.2.2.2.1 bt246.2.2.2.2.2.1).bind fun t262 => (if t262 = true then (if (bt254.2.2.2.2.2.2 != bt246.2.2.2.2.2.2) = true then (some false) else (some true)) else (some false)))))
theorem laws_FnExactParseOp.mono : ∀ a0 k, LeO (laws_FnExactParseOp.f k a0) (laws_FnExactParseOp.f (k + 1) a0) := by
 intro a0 k
 unfold laws_FnExactParseOp.f
 repeat' first
   | (with_reducible exact impl_ParseOp.mono _ _)
   | (with_reducible exact spec_ParseOp.mono _ _)
   | (with_reducible exact LeO.refl _)
   | (with_reducible exact LeO.none _)
   | (with_reducible refine LeO.ite ?_ ?_)
   | (with_reducible refine LeO.bind ?_ (fun _ => ?_))
   | exact impl_ParseOp.mono _ _
   | exact spec_ParseOp.mono _ _
   | exact LeO.none _
   | refine LeO.ite ?_ ?_
   | refine LeO.bind ?_ (fun _ => ?_)
set_option maxHeartbeats 8000000 in
set_option maxRecDepth 100000 in
theorem laws_FnExactParseOp.calls (k : Nat) (a0 : ByteArray) (r : Bool) (w : World) (hTB : Tryd.TB w) (h : laws_FnExactParseOp.f k a0 = some r) :
  Calls Tryd.prog 5 #[.string a0] w fun e w' => e = .returned (.bool r) ∧ Below w.heap.size w w' := by
 have hu36 := Tryd.underlying36
 have HB := AM_ (Below.refl w.heap.size w)
 have H : (if (a0.size : Int) > 1048576 then (some true) else ((spec_ParseOp.f k a0).bind fun bt246 => ((impl_ParseOp.f k a0).bind fun bt254 => ((laws_eqOp.f bt254.1 bt254.2.1 bt254.2.2.1 bt254.2.2.2.1 bt254.2.2.2.2.1 bt254.2.2.2.2.2.1 bt246.1 bt246.2.1 bt246.2.2.1 bt246.2.2.2.1 bt246.2.2.2.2.1 bt246.2.2.2.2.2.1).bind fun t262 => (if t262 = true then (if (bt254.2.2.2.2.2.2 != bt246.2.2.2.2.2.2) = true then (some false) else (some true)) else (some false)))))) = some r := h
 clear h
 by_cases c2 : (a0.size : Int) > 1048576
 ·rw [if_pos c2] at H
  have c2b0 : decide (1048576 < (a0.size : Int)) = true := decide_eq_true c2
  have c2b1 : decide (1048576 < a0.size) = true := decide_eq_true (by omega)
  clear c2
  obtain rfl := Option.some.inj H
  go_enter Tryd.func5, Tryd.ntmps5
  go_wp2
  go_ret
  exact QT (BT HB.out)
 rw [if_neg c2] at H
 have c2b0 : decide (1048576 < (a0.size : Int)) = false := decide_eq_false c2
 have c2b1 : decide (1048576 < a0.size) = false := decide_eq_false (by omega)
 clear c2
 replace H := Option.bind_eq_some_iff.mp H
 obtain ⟨⟨t246, t247, t248, t249, t250, t251, t252⟩, A30, H⟩ := H
 replace H : ((impl_ParseOp.f k a0).bind fun bt254 => ((laws_eqOp.f bt254.1 bt254.2.1 bt254.2.2.1 bt254.2.2.2.1 bt254.2.2.2.2.1 bt254.2.2.2.2.2.1 t246 t247 t248 t249 t250 t251).bind fun t262 => (if t262 = true then (if (bt254.2.2.2.2.2.2 != t252) = true then (some false) else (some true)) else (some false)))) = some r := H
 have A3 := AM_ A30
 clear A30
 replace H := Option.bind_eq_some_iff.mp H
 obtain ⟨⟨t254, t255, t256, t257, t258, t259, t260⟩, A40, H⟩ := H
 replace H : ((laws_eqOp.f t254 t255 t256 t257 t258 t259 t246 t247 t248 t249 t250 t251).bind fun t262 => (if t262 = true then (if (t260 != t252) = true then (some false) else (some true)) else (some false))) = some r := H
 have A4 := AM_ A40
 clear A40
 replace H := Option.bind_eq_some_iff.mp H
 obtain ⟨t262, A50, H⟩ := H
 replace H : (if t262 = true then (if (t260 != t252) = true then (some false) else (some true)) else (some false)) = some r := H
 have A5 := AM_ A50
 clear A50
 by_cases c6 : t262 = true
 rotate_left
 ·replace c6 := Bool.eq_false_iff.mpr c6
  subst c6
  have H1 : (some false) = some r := by rw [if_neg (show ¬ (false = true) by decide)] at H; exact H
  clear H
  have H := H1
  clear H1
  obtain rfl := Option.some.inj H
  go_enter Tryd.func5, Tryd.ntmps5
  go_wp2_with (first | ((with_reducible refine gate_callee (f := 16) rfl ?_); refine goesL_ (some 12) rfl rfl Tryd.func16 (by kernel_rfl) rfl #[.string a0] rfl (by (try simp only [List.map_toArray, List.map_cons, List.map_nil]); first | done | rfl | (simp only [List.length_drop, List.length_take]; rfl)) ?_; (with_reducible refine (spec_ParseOp.calls k a0 t246 t247 t248 t249 t250 t251 t252 _ A3.out).mono ?_); rintro e w26 ⟨rfl, hb⟩; refine ⟨_, rfl, ?_⟩; replace HB := AM_ (below_step (BT HB.out) hb); (try clear hb); (try clear hb2); (try clear hk); (try clear hi)) | ((with_reducible refine gate_dst (N := 3) rfl ?_); refine box_event ?hg (N := 3) ?hd (cs := #[.int .i64 0, .int .i64 0, .int .i64 0, .int .i64 0, .int .i64 0, .int .i64 0]) (t := 36) ?hr ?_; (case hd => rfl); (case hg => rfl); (case hr => first | (go_simp; done) | (go_simp; rfl)); intro gb253 hg w27 hbox hb; have BK253 := AM_ (hbox); have GW253 := AM_ ((GS HB.out hg)); have GE253 := AM_ ((GS HB.out hg)); replace HB := AM_ (below_step (BT HB.out) hb); clear hb hbox hg; obtain ⟨hcz28_0, hcz28_1, hcz28_2, hcz28_3, hcz28_4, hcz28_5, hfz28_0, hfz28_1, hfz28_2, hfz28_3, hfz28_4, hfz28_5⟩ := bk6 BK253.out) | ((with_reducible refine gate_callee (f := 17) rfl ?_); refine goesL_ (some 17) rfl rfl Tryd.func17 (by kernel_rfl) rfl #[.string a0] rfl (by (try simp only [List.map_toArray, List.map_cons, List.map_nil]); first | done | rfl | (simp only [List.length_drop, List.length_take]; rfl)) ?_; (with_reducible refine (impl_ParseOp.calls k a0 t254 t255 t256 t257 t258 t259 t260 _ ?side1 A4.out).mono ?_); (case side1 => first | (with_reducible exact hTB) | exact Tryd.TB_below hTB (BT HB.out)); rintro e w29 ⟨rfl, hb⟩; refine ⟨_, rfl, ?_⟩; replace BK253 := AM_ (BP #[.int .i64 t246, .int .i64 t247, .int .i64 t248, .int .i64 t249, .int .i64 t250, .int .i64 t251] BK253.out hb); replace HB := AM_ (below_step (BT HB.out) hb); (try clear hb); (try clear hb2); (try clear hk); (try clear hi)) | ((with_reducible refine gate_dst (N := 5) rfl ?_); refine box_event ?hg (N := 5) ?hd (cs := #[.int .i64 0, .int .i64 0, .int .i64 0, .int .i64 0, .int .i64 0, .int .i64 0]) (t := 36) ?hr ?_; (case hd => rfl); (case hg => rfl); (case hr => first | (go_simp; done) | (go_simp; rfl)); intro gb261 hg w30 hbox hb; have BK261 := AM_ (hbox); have GW261 := AM_ ((GS HB.out hg)); have GE261 := AM_ ((GS HB.out hg)); replace HB := AM_ (below_step (BT HB.out) hb); have NB253_261 := AM_ ((NL BK253.out hg)); have NB261_253 := AM_ ((NG BK253.out hg)); replace BK253 := AM_ (BB BK253.out hb); clear hb hbox hg; have hnb31 := NB261_253.out; have hnc31 := NB253_261.out; obtain ⟨hcz32_0, hcz32_1, hcz32_2, hcz32_3, hcz32_4, hcz32_5, hfz32_0, hfz32_1, hfz32_2, hfz32_3, hfz32_4, hfz32_5⟩ := bk6 BK261.out; obtain ⟨hcz33_0, hcz33_1, hcz33_2, hcz33_3, hcz33_4, hcz33_5, hfz33_0, hfz33_1, hfz33_2, hfz33_3, hfz33_4, hfz33_5⟩ := bk6 BK253.out) | ((with_reducible refine gate_callee (f := 18) rfl ?_); refine goesL_ (some 22) rfl rfl Tryd.func18 (by kernel_rfl) rfl #[.agg #[.int .i64 t254, .int .i64 t255, .int .i64 t256, .int .i64 t257, .int .i64 t258, .int .i64 t259], .agg #[.int .i64 t246, .int .i64 t247, .int .i64 t248, .int .i64 t249, .int .i64 t250, .int .i64 t251]] rfl (by (try simp only [List.map_toArray, List.map_cons, List.map_nil]); first | done | rfl | (simp only [List.length_drop, List.length_take]; rfl)) ?_; (with_reducible refine (laws_eqOp.calls t254 t255 t256 t257 t258 t259 t246 t247 t248 t249 t250 t251 false _ A5.out).mono ?_); rintro e w34 ⟨rfl, hb⟩; refine ⟨_, rfl, ?_⟩; replace BK253 := AM_ (BF BK253.out NB253_261.out hb); replace BK261 := AM_ (BP #[.int .i64 t254, .int .i64 t255, .int .i64 t256, .int .i64 t257, .int .i64 t258, .int .i64 t259] BK261.out hb); replace HB := AM_ (below_step (BT HB.out) hb); (try clear hb); (try clear hb2); (try clear hk); (try clear hi)))
  go_ret
  exact QT (BT HB.out)
 subst c6
 have H1 : (if (t260 != t252) = true then (some false) else (some true)) = some r := by rw [if_pos rfl] at H; exact H
 clear H
 have H := H1
 clear H1
 by_cases c7 : (t260 != t252) = true
 rotate_left
 ·rw [if_neg c7] at H
  have c7b0 : (t260 != t252) = false := by simpa using c7
  (try (have c7b1 : decide (t260 = t252) = true := by simpa using c7))
  (try (have c7b2 : (t260 == t252) = true := by simpa using c7))
  clear c7
  obtain rfl := Option.some.inj H
  go_enter Tryd.func5, Tryd.ntmps5
  go_wp2_with (first | ((with_reducible refine gate_callee (f := 16) rfl ?_); refine goesL_ (some 12) rfl rfl Tryd.func16 (by kernel_rfl) rfl #[.string a0] rfl (by (try simp only [List.map_toArray, List.map_cons, List.map_nil]); first | done | rfl | (simp only [List.length_drop, List.length_take]; rfl)) ?_; (with_reducible refine (spec_ParseOp.calls k a0 t246 t247 t248 t249 t250 t251 t252 _ A3.out).mono ?_); rintro e w17 ⟨rfl, hb⟩; refine ⟨_, rfl, ?_⟩; replace HB := AM_ (below_step (BT HB.out) hb); (try clear hb); (try clear hb2); (try clear hk); (try clear hi)) | ((with_reducible refine gate_dst (N := 3) rfl ?_); refine box_event ?hg (N := 3) ?hd (cs := #[.int .i64 0, .int .i64 0, .int .i64 0, .int .i64 0, .int .i64 0, .int .i64 0]) (t := 36) ?hr ?_; (case hd => rfl); (case hg => rfl); (case hr => first | (go_simp; done) | (go_simp; rfl)); intro gb253 hg w18 hbox hb; have BK253 := AM_ (hbox); have GW253 := AM_ ((GS HB.out hg)); have GE253 := AM_ ((GS HB.out hg)); replace HB := AM_ (below_step (BT HB.out) hb); clear hb hbox hg; obtain ⟨hcz19_0, hcz19_1, hcz19_2, hcz19_3, hcz19_4, hcz19_5, hfz19_0, hfz19_1, hfz19_2, hfz19_3, hfz19_4, hfz19_5⟩ := bk6 BK253.out) | ((with_reducible refine gate_callee (f := 17) rfl ?_); refine goesL_ (some 17) rfl rfl Tryd.func17 (by kernel_rfl) rfl #[.string a0] rfl (by (try simp only [List.map_toArray, List.map_cons, List.map_nil]); first | done | rfl | (simp only [List.length_drop, List.length_take]; rfl)) ?_; (with_reducible refine (impl_ParseOp.calls k a0 t254 t255 t256 t257 t258 t259 t260 _ ?side1 A4.out).mono ?_); (case side1 => first | (with_reducible exact hTB) | exact Tryd.TB_below hTB (BT HB.out)); rintro e w20 ⟨rfl, hb⟩; refine ⟨_, rfl, ?_⟩; replace BK253 := AM_ (BP #[.int .i64 t246, .int .i64 t247, .int .i64 t248, .int .i64 t249, .int .i64 t250, .int .i64 t251] BK253.out hb); replace HB := AM_ (below_step (BT HB.out) hb); (try clear hb); (try clear hb2); (try clear hk); (try clear hi)) | ((with_reducible refine gate_dst (N := 5) rfl ?_); refine box_event ?hg (N := 5) ?hd (cs := #[.int .i64 0, .int .i64 0, .int .i64 0, .int .i64 0, .int .i64 0, .int .i64 0]) (t := 36) ?hr ?_; (case hd => rfl); (case hg => rfl); (case hr => first | (go_simp; done) | (go_simp; rfl)); intro gb261 hg w21 hbox hb; have BK261 := AM_ (hbox); have GW261 := AM_ ((GS HB.out hg)); have GE261 := AM_ ((GS HB.out hg)); replace HB := AM_ (below_step (BT HB.out) hb); have NB253_261 := AM_ ((NL BK253.out hg)); have NB261_253 := AM_ ((NG BK253.out hg)); replace BK253 := AM_ (BB BK253.out hb); clear hb hbox hg; have hnb22 := NB261_253.out; have hnc22 := NB253_261.out; obtain ⟨hcz23_0, hcz23_1, hcz23_2, hcz23_3, hcz23_4, hcz23_5, hfz23_0, hfz23_1, hfz23_2, hfz23_3, hfz23_4, hfz23_5⟩ := bk6 BK261.out; obtain ⟨hcz24_0, hcz24_1, hcz24_2, hcz24_3, hcz24_4, hcz24_5, hfz24_0, hfz24_1, hfz24_2, hfz24_3, hfz24_4, hfz24_5⟩ := bk6 BK253.out) | ((with_reducible refine gate_callee (f := 18) rfl ?_); refine goesL_ (some 22) rfl rfl Tryd.func18 (by kernel_rfl) rfl #[.agg #[.int .i64 t254, .int .i64 t255, .int .i64 t256, .int .i64 t257, .int .i64 t258, .int .i64 t259], .agg #[.int .i64 t246, .int .i64 t247, .int .i64 t248, .int .i64 t249, .int .i64 t250, .int .i64 t251]] rfl (by (try simp only [List.map_toArray, List.map_cons, List.map_nil]); first | done | rfl | (simp only [List.length_drop, List.length_take]; rfl)) ?_; (with_reducible refine (laws_eqOp.calls t254 t255 t256 t257 t258 t259 t246 t247 t248 t249 t250 t251 true _ A5.out).mono ?_); rintro e w25 ⟨rfl, hb⟩; refine ⟨_, rfl, ?_⟩; replace BK253 := AM_ (BF BK253.out NB253_261.out hb); replace BK261 := AM_ (BP #[.int .i64 t254, .int .i64 t255, .int .i64 t256, .int .i64 t257, .int .i64 t258, .int .i64 t259] BK261.out hb); replace HB := AM_ (below_step (BT HB.out) hb); (try clear hb); (try clear hb2); (try clear hk); (try clear hi)))
  go_ret
  exact QT (BT HB.out)
 rw [if_pos c7] at H
 have c7b0 : (t260 != t252) = true := c7
 (try (have c7b1 : decide (t260 = t252) = false := by simpa using c7))
 (try (have c7b2 : (t260 == t252) = false := by simpa using c7))
 (try (have c7b3 : ¬ (t260 = t252) := by simpa using c7))
 clear c7
 obtain rfl := Option.some.inj H
 go_enter Tryd.func5, Tryd.ntmps5
 go_wp2_with (first | ((with_reducible refine gate_callee (f := 16) rfl ?_); refine goesL_ (some 12) rfl rfl Tryd.func16 (by kernel_rfl) rfl #[.string a0] rfl (by (try simp only [List.map_toArray, List.map_cons, List.map_nil]); first | done | rfl | (simp only [List.length_drop, List.length_take]; rfl)) ?_; (with_reducible refine (spec_ParseOp.calls k a0 t246 t247 t248 t249 t250 t251 t252 _ A3.out).mono ?_); rintro e w8 ⟨rfl, hb⟩; refine ⟨_, rfl, ?_⟩; replace HB := AM_ (below_step (BT HB.out) hb); (try clear hb); (try clear hb2); (try clear hk); (try clear hi)) | ((with_reducible refine gate_dst (N := 3) rfl ?_); refine box_event ?hg (N := 3) ?hd (cs := #[.int .i64 0, .int .i64 0, .int .i64 0, .int .i64 0, .int .i64 0, .int .i64 0]) (t := 36) ?hr ?_; (case hd => rfl); (case hg => rfl); (case hr => first | (go_simp; done) | (go_simp; rfl)); intro gb253 hg w9 hbox hb; have BK253 := AM_ (hbox); have GW253 := AM_ ((GS HB.out hg)); have GE253 := AM_ ((GS HB.out hg)); replace HB := AM_ (below_step (BT HB.out) hb); clear hb hbox hg; obtain ⟨hcz10_0, hcz10_1, hcz10_2, hcz10_3, hcz10_4, hcz10_5, hfz10_0, hfz10_1, hfz10_2, hfz10_3, hfz10_4, hfz10_5⟩ := bk6 BK253.out) | ((with_reducible refine gate_callee (f := 17) rfl ?_); refine goesL_ (some 17) rfl rfl Tryd.func17 (by kernel_rfl) rfl #[.string a0] rfl (by (try simp only [List.map_toArray, List.map_cons, List.map_nil]); first | done | rfl | (simp only [List.length_drop, List.length_take]; rfl)) ?_; (with_reducible refine (impl_ParseOp.calls k a0 t254 t255 t256 t257 t258 t259 t260 _ ?side1 A4.out).mono ?_); (case side1 => first | (with_reducible exact hTB) | exact Tryd.TB_below hTB (BT HB.out)); rintro e w11 ⟨rfl, hb⟩; refine ⟨_, rfl, ?_⟩; replace BK253 := AM_ (BP #[.int .i64 t246, .int .i64 t247, .int .i64 t248, .int .i64 t249, .int .i64 t250, .int .i64 t251] BK253.out hb); replace HB := AM_ (below_step (BT HB.out) hb); (try clear hb); (try clear hb2); (try clear hk); (try clear hi)) | ((with_reducible refine gate_dst (N := 5) rfl ?_); refine box_event ?hg (N := 5) ?hd (cs := #[.int .i64 0, .int .i64 0, .int .i64 0, .int .i64 0, .int .i64 0, .int .i64 0]) (t := 36) ?hr ?_; (case hd => rfl); (case hg => rfl); (case hr => first | (go_simp; done) | (go_simp; rfl)); intro gb261 hg w12 hbox hb; have BK261 := AM_ (hbox); have GW261 := AM_ ((GS HB.out hg)); have GE261 := AM_ ((GS HB.out hg)); replace HB := AM_ (below_step (BT HB.out) hb); have NB253_261 := AM_ ((NL BK253.out hg)); have NB261_253 := AM_ ((NG BK253.out hg)); replace BK253 := AM_ (BB BK253.out hb); clear hb hbox hg; have hnb13 := NB261_253.out; have hnc13 := NB253_261.out; obtain ⟨hcz14_0, hcz14_1, hcz14_2, hcz14_3, hcz14_4, hcz14_5, hfz14_0, hfz14_1, hfz14_2, hfz14_3, hfz14_4, hfz14_5⟩ := bk6 BK261.out; obtain ⟨hcz15_0, hcz15_1, hcz15_2, hcz15_3, hcz15_4, hcz15_5, hfz15_0, hfz15_1, hfz15_2, hfz15_3, hfz15_4, hfz15_5⟩ := bk6 BK253.out) | ((with_reducible refine gate_callee (f := 18) rfl ?_); refine goesL_ (some 22) rfl rfl Tryd.func18 (by kernel_rfl) rfl #[.agg #[.int .i64 t254, .int .i64 t255, .int .i64 t256, .int .i64 t257, .int .i64 t258, .int .i64 t259], .agg #[.int .i64 t246, .int .i64 t247, .int .i64 t248, .int .i64 t249, .int .i64 t250, .int .i64 t251]] rfl (by (try simp only [List.map_toArray, List.map_cons, List.map_nil]); first | done | rfl | (simp only [List.length_drop, List.length_take]; rfl)) ?_; (with_reducible refine (laws_eqOp.calls t254 t255 t256 t257 t258 t259 t246 t247 t248 t249 t250 t251 true _ A5.out).mono ?_); rintro e w16 ⟨rfl, hb⟩; refine ⟨_, rfl, ?_⟩; replace BK253 := AM_ (BF BK253.out NB253_261.out hb); replace BK261 := AM_ (BP #[.int .i64 t254, .int .i64 t255, .int .i64 t256, .int .i64 t257, .int .i64 t258, .int .i64 t259] BK261.out hb); replace HB := AM_ (below_step (BT HB.out) hb); (try clear hb); (try clear hb2); (try clear hk); (try clear hi)))
 go_ret
 exact QT (BT HB.out)

/-- THE ONE PURE STATEMENT of laws_FnExactParseOp: yours. -/
def laws_FnExactParseOp.Pure : Prop := ∀ (a0 : ByteArray), a0.size ≤ 140737488351232 → ∃ k, laws_FnExactParseOp.f k a0 = some true
theorem laws_FnExactParseOp.walk (P : laws_FnExactParseOp.Pure) (a0 : ByteArray) (w : World) (hTB : Tryd.TB w) (w0 : a0.size ≤ 140737488351232) :
  Calls Tryd.prog 5 #[.string a0] w fun e w' => e = .returned (.bool true) ∧ Below w.heap.size w w' := by
 obtain ⟨k, h⟩ := P a0 w0
 refine (laws_FnExactParseOp.calls k a0 true w hTB h).mono ?_
 rintro e w' ⟨rfl, hd⟩
 exact ⟨rfl, hd⟩

end Go.Proofs.YtgpmfkmdchcagaaDoor.PFnExactParseOp
