-- Printed by a program of mine (wip/myprint.py), which runs the printer of the kit with contracts of mine beside it.
import Derived.Test.YtdfbmaiboadodaaDoorPFnOpsx0
import Derived.Test.YtdfbmaiboadodaaDoorPFnOpsx1
import Derived.Test.YtdfbmaiboadodaaDoorPFnOpsx3
namespace Go.Proofs.YtdfbmaiboadodaaDoor.PFnOps
open Go.RowKit Go.Proofs.YtdfbmaiboadodaaDoorW.PrintWords Go.Proofs.YtdfbmaiboadodaaDoorW.PrintLast Go.Proofs.YtdfbmaiboadodaaDoorW.PrintMore
attribute [local go_sem] max2_int min2_int max_two min_two max_three min_three max_four min_four   -- for this text's walks alone
set_option linter.unusedVariables false
set_option linter.unusedSimpArgs false

attribute [local go_sem high] eqA25
/-! ### impl_IsValidOp: function 18 -/
def impl_IsValidOp.j0 : Nat → Bool → Int → Int → Int → Int → Int → Int → Int → Int → Int → Int → Int → Option (Bool)
 | 0, _, _, _, _, _, _, _, _, _, _, _, _ => none
 | k + 1, x4, x9, x216001, x216002, x216003, x216004, x216005, x217000, x217002, x217003, x217004, x217005 => (impl_in.f x9 1 6).bind fun t223 => (if t223 = true then ((impl_isID.f x216001).bind fun t224 => (if t224 = true then (if x4 = true then (some (x217000 == 0 && (x217000 == 0 && (x217002 == 0 && (x217003 == 0 && (x217004 == 0 && (x217005 == 0))))))) else (some false)) else (some false))) else (some false))
def impl_IsValidOp.f (k : Nat) (a0_0 : Int) (a0_1 : Int) (a0_2 : Int) (a0_3 : Int) (a0_4 : Int) (a0_5 : Int) : Option (Bool) := if a0_0 = 1 then ((impl_isScheme.f a0_2).bind fun t217 => (impl_IsValidOp.j0 k t217 a0_0 a0_1 a0_2 a0_3 a0_4 a0_5 0 0 a0_3 a0_4 a0_5)) else (if a0_0 = 2 then ((impl_isKey.f a0_3).bind fun t218 => (impl_IsValidOp.j0 k t218 a0_0 a0_1 a0_2 a0_3 a0_4 a0_5 0 a0_2 0 a0_4 a0_5)) else (if a0_0 = 3 then ((impl_isKey.f a0_3).bind fun t219 => (if t219 = true then ((impl_isValue.f a0_5).bind fun t220 => (impl_IsValidOp.j0 k t220 a0_0 a0_1 a0_2 a0_3 a0_4 a0_5 0 a0_2 0 a0_4 0)) else (impl_IsValidOp.j0 k false a0_0 a0_1 a0_2 a0_3 a0_4 a0_5 0 a0_2 0 a0_4 0))) else (if a0_0 = 4 then ((impl_isKey.f a0_3).bind fun t221 => (if t221 = true then ((impl_in.f a0_4 a0_3 5).bind fun t222 => (impl_IsValidOp.j0 k t222 a0_0 a0_1 a0_2 a0_3 a0_4 a0_5 0 a0_2 0 0 a0_5)) else (impl_IsValidOp.j0 k false a0_0 a0_1 a0_2 a0_3 a0_4 a0_5 0 a0_2 0 0 a0_5))) else (impl_IsValidOp.j0 k true a0_0 a0_1 a0_2 a0_3 a0_4 a0_5 0 a0_2 a0_3 a0_4 a0_5))))
theorem impl_IsValidOp.mono_l : ∀ k, (∀ y0 y1 y2 y3 y4 y5 y6 y7 y8 y9 y10 y11, LeO (impl_IsValidOp.j0 k y0 y1 y2 y3 y4 y5 y6 y7 y8 y9 y10 y11) (impl_IsValidOp.j0 (k + 1) y0 y1 y2 y3 y4 y5 y6 y7 y8 y9 y10 y11))
 | 0 => fun _ _ _ _ _ _ _ _ _ _ _ _ r h => by simp [impl_IsValidOp.j0] at h
 | k + 1 => by
  have ih0 := impl_IsValidOp.mono_l k
  ·intro y0 y1 y2 y3 y4 y5 y6 y7 y8 y9 y10 y11
   unfold impl_IsValidOp.j0
   repeat' first
   | (with_reducible exact ih0 _ _ _ _ _ _ _ _ _ _ _ _)
   | (with_reducible exact LeO.refl _)
   | (with_reducible exact LeO.none _)
   | (with_reducible refine LeO.ite ?_ ?_)
   | (with_reducible refine LeO.bind ?_ (fun _ => ?_))
   | exact ih0 _ _ _ _ _ _ _ _ _ _ _ _
   | exact LeO.none _
   | refine LeO.ite ?_ ?_
   | refine LeO.bind ?_ (fun _ => ?_)
theorem impl_IsValidOp.mono : ∀ a0 a1 a2 a3 a4 a5 k, LeO (impl_IsValidOp.f k a0 a1 a2 a3 a4 a5) (impl_IsValidOp.f (k + 1) a0 a1 a2 a3 a4 a5) := by
 intro a0 a1 a2 a3 a4 a5 k
 have ih0 := impl_IsValidOp.mono_l k
 unfold impl_IsValidOp.f
 repeat' first
   | (with_reducible exact ih0 _ _ _ _ _ _ _ _ _ _ _ _)
   | (with_reducible exact LeO.refl _)
   | (with_reducible exact LeO.none _)
   | (with_reducible refine LeO.ite ?_ ?_)
   | (with_reducible refine LeO.bind ?_ (fun _ => ?_))
   | exact ih0 _ _ _ _ _ _ _ _ _ _ _ _
   | exact LeO.none _
   | refine LeO.ite ?_ ?_
   | refine LeO.bind ?_ (fun _ => ?_)
set_option maxHeartbeats 8000000 in
set_option maxRecDepth 100000 in
theorem impl_IsValidOp.calls (k : Nat) (a0_0 : Int) (a0_1 : Int) (a0_2 : Int) (a0_3 : Int) (a0_4 : Int) (a0_5 : Int) (r : Bool) (w : World) (h : impl_IsValidOp.f k a0_0 a0_1 a0_2 a0_3 a0_4 a0_5 = some r) :
  Calls Tryd.prog 18 #[.agg #[.int .i64 a0_0, .int .i64 a0_1, .int .i64 a0_2, .int .i64 a0_3, .int .i64 a0_4, .int .i64 a0_5]] w fun e w' => e = .returned (.bool r) ∧ Below w.heap.size w w' := by
 have hu25 := Tryd.underlying25
 have HB := AM_ (Below.refl w.heap.size w)
 have H : (if a0_0 = 1 then ((impl_isScheme.f a0_2).bind fun t217 => (impl_IsValidOp.j0 k t217 a0_0 a0_1 a0_2 a0_3 a0_4 a0_5 0 0 a0_3 a0_4 a0_5)) else (if a0_0 = 2 then ((impl_isKey.f a0_3).bind fun t218 => (impl_IsValidOp.j0 k t218 a0_0 a0_1 a0_2 a0_3 a0_4 a0_5 0 a0_2 0 a0_4 a0_5)) else (if a0_0 = 3 then ((impl_isKey.f a0_3).bind fun t219 => (if t219 = true then ((impl_isValue.f a0_5).bind fun t220 => (impl_IsValidOp.j0 k t220 a0_0 a0_1 a0_2 a0_3 a0_4 a0_5 0 a0_2 0 a0_4 0)) else (impl_IsValidOp.j0 k false a0_0 a0_1 a0_2 a0_3 a0_4 a0_5 0 a0_2 0 a0_4 0))) else (if a0_0 = 4 then ((impl_isKey.f a0_3).bind fun t221 => (if t221 = true then ((impl_in.f a0_4 a0_3 5).bind fun t222 => (impl_IsValidOp.j0 k t222 a0_0 a0_1 a0_2 a0_3 a0_4 a0_5 0 a0_2 0 0 a0_5)) else (impl_IsValidOp.j0 k false a0_0 a0_1 a0_2 a0_3 a0_4 a0_5 0 a0_2 0 0 a0_5))) else (impl_IsValidOp.j0 k true a0_0 a0_1 a0_2 a0_3 a0_4 a0_5 0 a0_2 a0_3 a0_4 a0_5))))) = some r := h
 clear h
 have HC2 := AM_ H
 clear H
 go_enter Tryd.func18, Tryd.ntmps18
 go_upto_block 0 with (first | ((with_reducible refine gate_dst (N := 1) rfl ?_); refine box_event ?hg (N := 1) ?hd (cs := #[.int .i64 a0_0, .int .i64 a0_1, .int .i64 a0_2, .int .i64 a0_3, .int .i64 a0_4, .int .i64 a0_5]) (t := 25) ?hr ?_; (case hd => rfl); (case hg => rfl); (case hr => first | (go_simp; done) | (go_simp; rfl)); intro gb215 hg w3 hbox hb; have BK215 := AM_ (hbox); have GW215 := AM_ ((GS HB.out hg)); have GE215 := AM_ ((GS HB.out hg)); replace HB := AM_ (below_step (BT HB.out) hb); clear hb hbox hg; obtain ⟨hcz4_0, hcz4_1, hcz4_2, hcz4_3, hcz4_4, hcz4_5, hfz4_0, hfz4_1, hfz4_2, hfz4_3, hfz4_4, hfz4_5⟩ := bk6 BK215.out) | ((with_reducible refine gate_dst (N := 3) rfl ?_); refine box_event ?hg (N := 3) ?hd (cs := #[.int .i64 0, .int .i64 0, .int .i64 0, .int .i64 0, .int .i64 0, .int .i64 0]) (t := 25) ?hr ?_; (case hd => rfl); (case hg => rfl); (case hr => first | (go_simp; done) | (go_simp; rfl)); intro gb216 hg w5 hbox hb; have BK216 := AM_ (hbox); have GW216 := AM_ ((GS HB.out hg)); have GE216 := AM_ ((GS HB.out hg)); replace HB := AM_ (below_step (BT HB.out) hb); have NB215_216 := AM_ ((NL BK215.out hg)); have NB216_215 := AM_ ((NG BK215.out hg)); replace BK215 := AM_ (BB BK215.out hb); clear hb hbox hg; have hnb6 := NB216_215.out; have hnc6 := NB215_216.out; obtain ⟨hcz7_0, hcz7_1, hcz7_2, hcz7_3, hcz7_4, hcz7_5, hfz7_0, hfz7_1, hfz7_2, hfz7_3, hfz7_4, hfz7_5⟩ := bk6 BK216.out; obtain ⟨hcz8_0, hcz8_1, hcz8_2, hcz8_3, hcz8_4, hcz8_5, hfz8_0, hfz8_1, hfz8_2, hfz8_3, hfz8_4, hfz8_5⟩ := bk6 BK215.out))
 (try simp only [pA, pS, pZ, pK])
 go_cut [4] (fun v4 wc => ∃ (kq : Nat) (x4_1 : Bool) (x217002_1 : Int) (x217003_1 : Int) (x217004_1 : Int) (x217005_1 : Int), v4 = .bool x4_1 ∧ Aside0 (impl_IsValidOp.j0 kq x4_1 a0_0 a0_1 a0_2 a0_3 a0_4 a0_5 0 x217002_1 x217003_1 x217004_1 x217005_1 = some r) ∧ Aside0 (kq ≤ k) ∧ Aside0 (wc.heap[gb215]? = some (.cells #[.int .i64 a0_0, .int .i64 a0_1, .int .i64 a0_2, .int .i64 a0_3, .int .i64 a0_4, .int .i64 a0_5] 25 (0, 0))) ∧ Aside0 (wc.heap[gb216]? = some (.cells #[.int .i64 0, .int .i64 0, .int .i64 x217002_1, .int .i64 x217003_1, .int .i64 x217004_1, .int .i64 x217005_1] 25 (0, 0))) ∧ Aside0 (Below w.heap.size w wc))
 case first =>
  have H := HC2.out
  clear HC2
  by_cases c9 : a0_0 = 1
  ·rw [if_pos c9] at H
   have c9b0 : (a0_0 == 1) = true := beq_iff_eq.mpr c9
   have c9b1 : (a0_0 != 1) = false := bne_eq_false_iff_eq.mpr c9
   clear c9
   (first | rw [c9b0] | (simp only [i64_w, i32_w]; rw [c9b0]) | skip)
   replace H := Option.bind_eq_some_iff.mp H
   obtain ⟨t217, A100, H⟩ := H
   replace H : (impl_IsValidOp.j0 k t217 a0_0 a0_1 a0_2 a0_3 a0_4 a0_5 0 0 a0_3 a0_4 a0_5) = some r := H
   have A10 := AM_ A100
   clear A100
   have H' := AM_ H
   clear H
   have hnb11 := NB215_216.out
   have hnc11 := NB216_215.out
   obtain ⟨hcz12_0, hcz12_1, hcz12_2, hcz12_3, hcz12_4, hcz12_5, hfz12_0, hfz12_1, hfz12_2, hfz12_3, hfz12_4, hfz12_5⟩ := bk6 BK215.out
   go_wp2_with (first | ((with_reducible refine gate_callee (f := 39) rfl ?_); refine goesL_ (some 14) rfl rfl Tryd.func39 (by kernel_rfl) rfl #[.int .i64 a0_2] rfl (by (try simp only [List.map_toArray, List.map_cons, List.map_nil]); first | done | rfl | (simp only [List.length_drop, List.length_take]; rfl)) ?_; (with_reducible refine (impl_isScheme.calls a0_2 t217 _ A10.out).mono ?_); rintro e w' ⟨rfl, ⟨nd, rfl⟩⟩; refine ⟨_, rfl, ?_⟩; obtain ⟨hcz13_0, hcz13_1, hcz13_2, hcz13_3, hcz13_4, hcz13_5, hfz13_0, hfz13_1, hfz13_2, hfz13_3, hfz13_4, hfz13_5⟩ := bk6 BK216.out))
   go_meet
   case rel => exact ⟨_, (t217), (0), (a0_3), (a0_4), (a0_5), (by first | rfl | (simp; done) | (simp [*]; done)), H', ⟨by first | omega | exact Nat.le_refl _⟩, ⟨BG BK215.out NB215_216.out⟩, ⟨BQ BK216.out⟩, ⟨BT HB.out⟩⟩
  rw [if_neg c9] at H
  have c9b0 : (a0_0 == 1) = false := beq_eq_false_iff_ne.mpr c9
  have c9b1 : (a0_0 != 1) = true := bne_iff_ne.mpr c9
  (first | rw [c9b0] | (simp only [i64_w, i32_w]; rw [c9b0]) | skip)
  by_cases c14 : a0_0 = 2
  ·rw [if_pos c14] at H
   have c14b0 : (a0_0 == 2) = true := beq_iff_eq.mpr c14
   have c14b1 : (a0_0 != 2) = false := bne_eq_false_iff_eq.mpr c14
   clear c14
   replace H := Option.bind_eq_some_iff.mp H
   obtain ⟨t218, A150, H⟩ := H
   replace H : (impl_IsValidOp.j0 k t218 a0_0 a0_1 a0_2 a0_3 a0_4 a0_5 0 a0_2 0 a0_4 a0_5) = some r := H
   have A15 := AM_ A150
   clear A150
   have H' := AM_ H
   clear H
   have hnb16 := NB215_216.out
   have hnc16 := NB216_215.out
   obtain ⟨hcz17_0, hcz17_1, hcz17_2, hcz17_3, hcz17_4, hcz17_5, hfz17_0, hfz17_1, hfz17_2, hfz17_3, hfz17_4, hfz17_5⟩ := bk6 BK215.out
   go_wp2_with (first | ((with_reducible refine gate_callee (f := 40) rfl ?_); refine goesL_ (some 20) rfl rfl Tryd.func40 (by kernel_rfl) rfl #[.int .i64 a0_3] rfl (by (try simp only [List.map_toArray, List.map_cons, List.map_nil]); first | done | rfl | (simp only [List.length_drop, List.length_take]; rfl)) ?_; (with_reducible refine (impl_isKey.calls a0_3 t218 _ A15.out).mono ?_); rintro e w' ⟨rfl, ⟨nd, rfl⟩⟩; refine ⟨_, rfl, ?_⟩; obtain ⟨hcz18_0, hcz18_1, hcz18_2, hcz18_3, hcz18_4, hcz18_5, hfz18_0, hfz18_1, hfz18_2, hfz18_3, hfz18_4, hfz18_5⟩ := bk6 BK216.out))
   go_meet
   case rel => exact ⟨_, (t218), (a0_2), (0), (a0_4), (a0_5), (by first | rfl | (simp; done) | (simp [*]; done)), H', ⟨by first | omega | exact Nat.le_refl _⟩, ⟨BG BK215.out NB215_216.out⟩, ⟨BQ BK216.out⟩, ⟨BT HB.out⟩⟩
  rw [if_neg c14] at H
  have c14b0 : (a0_0 == 2) = false := beq_eq_false_iff_ne.mpr c14
  have c14b1 : (a0_0 != 2) = true := bne_iff_ne.mpr c14
  by_cases c19 : a0_0 = 3
  ·rw [if_pos c19] at H
   have c19b0 : (a0_0 == 3) = true := beq_iff_eq.mpr c19
   have c19b1 : (a0_0 != 3) = false := bne_eq_false_iff_eq.mpr c19
   clear c19
   replace H := Option.bind_eq_some_iff.mp H
   obtain ⟨t219, A200, H⟩ := H
   replace H : (if t219 = true then ((impl_isValue.f a0_5).bind fun t220 => (impl_IsValidOp.j0 k t220 a0_0 a0_1 a0_2 a0_3 a0_4 a0_5 0 a0_2 0 a0_4 0)) else (impl_IsValidOp.j0 k false a0_0 a0_1 a0_2 a0_3 a0_4 a0_5 0 a0_2 0 a0_4 0)) = some r := H
   have A20 := AM_ A200
   clear A200
   by_cases c21 : t219 = true
   rotate_left
   ·replace c21 := Bool.eq_false_iff.mpr c21
    subst c21
    have H1 : (impl_IsValidOp.j0 k false a0_0 a0_1 a0_2 a0_3 a0_4 a0_5 0 a0_2 0 a0_4 0) = some r := by rw [if_neg (show ¬ (false = true) by decide)] at H; exact H
    clear H
    have H := H1
    clear H1
    have H' := AM_ H
    clear H
    have hnb26 := NB215_216.out
    have hnc26 := NB216_215.out
    obtain ⟨hcz27_0, hcz27_1, hcz27_2, hcz27_3, hcz27_4, hcz27_5, hfz27_0, hfz27_1, hfz27_2, hfz27_3, hfz27_4, hfz27_5⟩ := bk6 BK215.out
    go_wp2_with (first | ((with_reducible refine gate_callee (f := 40) rfl ?_); refine goesL_ (some 26) rfl rfl Tryd.func40 (by kernel_rfl) rfl #[.int .i64 a0_3] rfl (by (try simp only [List.map_toArray, List.map_cons, List.map_nil]); first | done | rfl | (simp only [List.length_drop, List.length_take]; rfl)) ?_; (with_reducible refine (impl_isKey.calls a0_3 false _ A20.out).mono ?_); rintro e w' ⟨rfl, ⟨nd, rfl⟩⟩; refine ⟨_, rfl, ?_⟩; obtain ⟨hcz28_0, hcz28_1, hcz28_2, hcz28_3, hcz28_4, hcz28_5, hfz28_0, hfz28_1, hfz28_2, hfz28_3, hfz28_4, hfz28_5⟩ := bk6 BK216.out))
    go_meet
    case rel => exact ⟨_, (false), (a0_2), (0), (a0_4), (0), (by first | rfl | (simp; done) | (simp [*]; done)), H', ⟨by first | omega | exact Nat.le_refl _⟩, ⟨BG BK215.out NB215_216.out⟩, ⟨BQ BK216.out⟩, ⟨BT HB.out⟩⟩
   subst c21
   have H1 : ((impl_isValue.f a0_5).bind fun t220 => (impl_IsValidOp.j0 k t220 a0_0 a0_1 a0_2 a0_3 a0_4 a0_5 0 a0_2 0 a0_4 0)) = some r := by rw [if_pos rfl] at H; exact H
   clear H
   have H := H1
   clear H1
   replace H := Option.bind_eq_some_iff.mp H
   obtain ⟨t220, A220, H⟩ := H
   replace H : (impl_IsValidOp.j0 k t220 a0_0 a0_1 a0_2 a0_3 a0_4 a0_5 0 a0_2 0 a0_4 0) = some r := H
   have A22 := AM_ A220
   clear A220
   have H' := AM_ H
   clear H
   have hnb23 := NB215_216.out
   have hnc23 := NB216_215.out
   obtain ⟨hcz24_0, hcz24_1, hcz24_2, hcz24_3, hcz24_4, hcz24_5, hfz24_0, hfz24_1, hfz24_2, hfz24_3, hfz24_4, hfz24_5⟩ := bk6 BK215.out
   go_wp2_with (first | ((with_reducible refine gate_callee (f := 40) rfl ?_); refine goesL_ (some 26) rfl rfl Tryd.func40 (by kernel_rfl) rfl #[.int .i64 a0_3] rfl (by (try simp only [List.map_toArray, List.map_cons, List.map_nil]); first | done | rfl | (simp only [List.length_drop, List.length_take]; rfl)) ?_; (with_reducible refine (impl_isKey.calls a0_3 true _ A20.out).mono ?_); rintro e w' ⟨rfl, ⟨nd, rfl⟩⟩; refine ⟨_, rfl, ?_⟩) | (go_at_call 41; (with_reducible refine (impl_isValue.calls a0_5 t220 _ A22.out).mono ?_); rintro e w' ⟨rfl, ⟨nd, rfl⟩⟩; obtain ⟨hcz25_0, hcz25_1, hcz25_2, hcz25_3, hcz25_4, hcz25_5, hfz25_0, hfz25_1, hfz25_2, hfz25_3, hfz25_4, hfz25_5⟩ := bk6 BK216.out))
   go_meet
   case rel => exact ⟨_, (t220), (a0_2), (0), (a0_4), (0), (by first | rfl | (simp; done) | (simp [*]; done)), H', ⟨by first | omega | exact Nat.le_refl _⟩, ⟨BG BK215.out NB215_216.out⟩, ⟨BQ BK216.out⟩, ⟨BT HB.out⟩⟩
  rw [if_neg c19] at H
  have c19b0 : (a0_0 == 3) = false := beq_eq_false_iff_ne.mpr c19
  have c19b1 : (a0_0 != 3) = true := bne_iff_ne.mpr c19
  by_cases c29 : a0_0 = 4
  rotate_left
  ·rw [if_neg c29] at H
   have c29b0 : (a0_0 == 4) = false := beq_eq_false_iff_ne.mpr c29
   have c29b1 : (a0_0 != 4) = true := bne_iff_ne.mpr c29
   have H' := AM_ H
   clear H
   go_wp2
   go_meet
   case rel => exact ⟨_, (true), (a0_2), (a0_3), (a0_4), (a0_5), (by first | rfl | (simp; done) | (simp [*]; done)), H', ⟨by first | omega | exact Nat.le_refl _⟩, ⟨BG BK215.out NB215_216.out⟩, ⟨BQ BK216.out⟩, ⟨BT HB.out⟩⟩
  rw [if_pos c29] at H
  have c29b0 : (a0_0 == 4) = true := beq_iff_eq.mpr c29
  have c29b1 : (a0_0 != 4) = false := bne_eq_false_iff_eq.mpr c29
  clear c29
  replace H := Option.bind_eq_some_iff.mp H
  obtain ⟨t221, A300, H⟩ := H
  replace H : (if t221 = true then ((impl_in.f a0_4 a0_3 5).bind fun t222 => (impl_IsValidOp.j0 k t222 a0_0 a0_1 a0_2 a0_3 a0_4 a0_5 0 a0_2 0 0 a0_5)) else (impl_IsValidOp.j0 k false a0_0 a0_1 a0_2 a0_3 a0_4 a0_5 0 a0_2 0 0 a0_5)) = some r := H
  have A30 := AM_ A300
  clear A300
  by_cases c31 : t221 = true
  rotate_left
  ·replace c31 := Bool.eq_false_iff.mpr c31
   subst c31
   have H1 : (impl_IsValidOp.j0 k false a0_0 a0_1 a0_2 a0_3 a0_4 a0_5 0 a0_2 0 0 a0_5) = some r := by rw [if_neg (show ¬ (false = true) by decide)] at H; exact H
   clear H
   have H := H1
   clear H1
   have H' := AM_ H
   clear H
   have hnb36 := NB215_216.out
   have hnc36 := NB216_215.out
   obtain ⟨hcz37_0, hcz37_1, hcz37_2, hcz37_3, hcz37_4, hcz37_5, hfz37_0, hfz37_1, hfz37_2, hfz37_3, hfz37_4, hfz37_5⟩ := bk6 BK215.out
   go_wp2_with (first | ((with_reducible refine gate_callee (f := 40) rfl ?_); refine goesL_ (some 38) rfl rfl Tryd.func40 (by kernel_rfl) rfl #[.int .i64 a0_3] rfl (by (try simp only [List.map_toArray, List.map_cons, List.map_nil]); first | done | rfl | (simp only [List.length_drop, List.length_take]; rfl)) ?_; (with_reducible refine (impl_isKey.calls a0_3 false _ A30.out).mono ?_); rintro e w' ⟨rfl, ⟨nd, rfl⟩⟩; refine ⟨_, rfl, ?_⟩; obtain ⟨hcz38_0, hcz38_1, hcz38_2, hcz38_3, hcz38_4, hcz38_5, hfz38_0, hfz38_1, hfz38_2, hfz38_3, hfz38_4, hfz38_5⟩ := bk6 BK216.out))
   go_meet
   case rel => exact ⟨_, (false), (a0_2), (0), (0), (a0_5), (by first | rfl | (simp; done) | (simp [*]; done)), H', ⟨by first | omega | exact Nat.le_refl _⟩, ⟨BG BK215.out NB215_216.out⟩, ⟨BQ BK216.out⟩, ⟨BT HB.out⟩⟩
  subst c31
  have H1 : ((impl_in.f a0_4 a0_3 5).bind fun t222 => (impl_IsValidOp.j0 k t222 a0_0 a0_1 a0_2 a0_3 a0_4 a0_5 0 a0_2 0 0 a0_5)) = some r := by rw [if_pos rfl] at H; exact H
  clear H
  have H := H1
  clear H1
  replace H := Option.bind_eq_some_iff.mp H
  obtain ⟨t222, A320, H⟩ := H
  replace H : (impl_IsValidOp.j0 k t222 a0_0 a0_1 a0_2 a0_3 a0_4 a0_5 0 a0_2 0 0 a0_5) = some r := H
  have A32 := AM_ A320
  clear A320
  have H' := AM_ H
  clear H
  have hnb33 := NB215_216.out
  have hnc33 := NB216_215.out
  obtain ⟨hcz34_0, hcz34_1, hcz34_2, hcz34_3, hcz34_4, hcz34_5, hfz34_0, hfz34_1, hfz34_2, hfz34_3, hfz34_4, hfz34_5⟩ := bk6 BK215.out
  go_wp2_with (first | ((with_reducible refine gate_callee (f := 40) rfl ?_); refine goesL_ (some 38) rfl rfl Tryd.func40 (by kernel_rfl) rfl #[.int .i64 a0_3] rfl (by (try simp only [List.map_toArray, List.map_cons, List.map_nil]); first | done | rfl | (simp only [List.length_drop, List.length_take]; rfl)) ?_; (with_reducible refine (impl_isKey.calls a0_3 true _ A30.out).mono ?_); rintro e w' ⟨rfl, ⟨nd, rfl⟩⟩; refine ⟨_, rfl, ?_⟩) | (go_at_call 42; (with_reducible refine (impl_in.calls a0_4 a0_3 5 t222 _ A32.out).mono ?_); rintro e w' ⟨rfl, ⟨nd, rfl⟩⟩; obtain ⟨hcz35_0, hcz35_1, hcz35_2, hcz35_3, hcz35_4, hcz35_5, hfz35_0, hfz35_1, hfz35_2, hfz35_3, hfz35_4, hfz35_5⟩ := bk6 BK216.out))
  go_meet
  case rel => exact ⟨_, (t222), (a0_2), (0), (0), (a0_5), (by first | rfl | (simp; done) | (simp [*]; done)), H', ⟨by first | omega | exact Nat.le_refl _⟩, ⟨BG BK215.out NB215_216.out⟩, ⟨BQ BK216.out⟩, ⟨BT HB.out⟩⟩
 case rest =>
  clear HC2
  try clear c1
  try clear c2
  try clear p2
  try clear c3
  try clear c4
  try clear c6
  try clear c9
  try clear c9b0
  try clear c9b1
  try clear c11
  try clear c14
  try clear c14b0
  try clear c14b1
  try clear c16
  try clear c18
  try clear c19
  try clear c19b0
  try clear c19b1
  try clear c21
  try clear c23
  try clear c26
  try clear c29
  try clear c29b0
  try clear c29b1
  try clear c31
  try clear c33
  try clear c36
  try clear hcz12_0
  try clear hcz12_1
  try clear hcz12_2
  try clear hcz12_3
  try clear hcz12_4
  try clear hcz12_5
  try clear hcz13_0
  try clear hcz13_1
  try clear hcz13_2
  try clear hcz13_3
  try clear hcz13_4
  try clear hcz13_5
  try clear hcz17_0
  try clear hcz17_1
  try clear hcz17_2
  try clear hcz17_3
  try clear hcz17_4
  try clear hcz17_5
  try clear hcz18_0
  try clear hcz18_1
  try clear hcz18_2
  try clear hcz18_3
  try clear hcz18_4
  try clear hcz18_5
  try clear hcz24_0
  try clear hcz24_1
  try clear hcz24_2
  try clear hcz24_3
  try clear hcz24_4
  try clear hcz24_5
  try clear hcz25_0
  try clear hcz25_1
  try clear hcz25_2
  try clear hcz25_3
  try clear hcz25_4
  try clear hcz25_5
  try clear hcz27_0
  try clear hcz27_1
  try clear hcz27_2
  try clear hcz27_3
  try clear hcz27_4
  try clear hcz27_5
  try clear hcz28_0
  try clear hcz28_1
  try clear hcz28_2
  try clear hcz28_3
  try clear hcz28_4
  try clear hcz28_5
  try clear hcz34_0
  try clear hcz34_1
  try clear hcz34_2
  try clear hcz34_3
  try clear hcz34_4
  try clear hcz34_5
  try clear hcz35_0
  try clear hcz35_1
  try clear hcz35_2
  try clear hcz35_3
  try clear hcz35_4
  try clear hcz35_5
  try clear hcz37_0
  try clear hcz37_1
  try clear hcz37_2
  try clear hcz37_3
  try clear hcz37_4
  try clear hcz37_5
  try clear hcz38_0
  try clear hcz38_1
  try clear hcz38_2
  try clear hcz38_3
  try clear hcz38_4
  try clear hcz38_5
  try clear hcz4_0
  try clear hcz4_1
  try clear hcz4_2
  try clear hcz4_3
  try clear hcz4_4
  try clear hcz4_5
  try clear hcz7_0
  try clear hcz7_1
  try clear hcz7_2
  try clear hcz7_3
  try clear hcz7_4
  try clear hcz7_5
  try clear hcz8_0
  try clear hcz8_1
  try clear hcz8_2
  try clear hcz8_3
  try clear hcz8_4
  try clear hcz8_5
  try clear hfz12_0
  try clear hfz12_1
  try clear hfz12_2
  try clear hfz12_3
  try clear hfz12_4
  try clear hfz12_5
  try clear hfz13_0
  try clear hfz13_1
  try clear hfz13_2
  try clear hfz13_3
  try clear hfz13_4
  try clear hfz13_5
  try clear hfz17_0
  try clear hfz17_1
  try clear hfz17_2
  try clear hfz17_3
  try clear hfz17_4
  try clear hfz17_5
  try clear hfz18_0
  try clear hfz18_1
  try clear hfz18_2
  try clear hfz18_3
  try clear hfz18_4
  try clear hfz18_5
  try clear hfz24_0
  try clear hfz24_1
  try clear hfz24_2
  try clear hfz24_3
  try clear hfz24_4
  try clear hfz24_5
  try clear hfz25_0
  try clear hfz25_1
  try clear hfz25_2
  try clear hfz25_3
  try clear hfz25_4
  try clear hfz25_5
  try clear hfz27_0
  try clear hfz27_1
  try clear hfz27_2
  try clear hfz27_3
  try clear hfz27_4
  try clear hfz27_5
  try clear hfz28_0
  try clear hfz28_1
  try clear hfz28_2
  try clear hfz28_3
  try clear hfz28_4
  try clear hfz28_5
  try clear hfz34_0
  try clear hfz34_1
  try clear hfz34_2
  try clear hfz34_3
  try clear hfz34_4
  try clear hfz34_5
  try clear hfz35_0
  try clear hfz35_1
  try clear hfz35_2
  try clear hfz35_3
  try clear hfz35_4
  try clear hfz35_5
  try clear hfz37_0
  try clear hfz37_1
  try clear hfz37_2
  try clear hfz37_3
  try clear hfz37_4
  try clear hfz37_5
  try clear hfz38_0
  try clear hfz38_1
  try clear hfz38_2
  try clear hfz38_3
  try clear hfz38_4
  try clear hfz38_5
  try clear hfz4_0
  try clear hfz4_1
  try clear hfz4_2
  try clear hfz4_3
  try clear hfz4_4
  try clear hfz4_5
  try clear hfz7_0
  try clear hfz7_1
  try clear hfz7_2
  try clear hfz7_3
  try clear hfz7_4
  try clear hfz7_5
  try clear hfz8_0
  try clear hfz8_1
  try clear hfz8_2
  try clear hfz8_3
  try clear hfz8_4
  try clear hfz8_5
  obtain ⟨kq, x4_1, x217002_1, x217003_1, x217004_1, x217005_1, rfl, HA, HJ1, BK215, BK216, HB⟩ := hcut
  cases kq with
  | zero => exact absurd HA.out (by simp [impl_IsValidOp.j0])
  | succ kj1 =>
   have H := HA.out
   clear HA
   simp only [impl_IsValidOp.j0] at H
   replace H := Option.bind_eq_some_iff.mp H
   obtain ⟨t223, A390, H⟩ := H
   replace H : (if t223 = true then ((impl_isID.f a0_1).bind fun t224 => (if t224 = true then (if x4_1 = true then (some (0 == 0 && (0 == 0 && (x217002_1 == 0 && (x217003_1 == 0 && (x217004_1 == 0 && (x217005_1 == 0))))))) else (some false)) else (some false))) else (some false)) = some r := H
   have A39 := AM_ A390
   clear A390
   by_cases c40 : t223 = true
   rotate_left
   ·replace c40 := Bool.eq_false_iff.mpr c40
    subst c40
    have H1 : (some false) = some r := by rw [if_neg (show ¬ (false = true) by decide)] at H; exact H
    clear H
    have H := H1
    clear H1
    obtain rfl := Option.some.inj H
    have hnb51 := NB215_216.out
    have hnc51 := NB216_215.out
    obtain ⟨hcz52_0, hcz52_1, hcz52_2, hcz52_3, hcz52_4, hcz52_5, hfz52_0, hfz52_1, hfz52_2, hfz52_3, hfz52_4, hfz52_5⟩ := bk6 BK215.out
    go_wp2_with (first | ((with_reducible refine gate_callee (f := 42) rfl ?_); refine goesL_ (some 50) rfl rfl Tryd.func42 (by kernel_rfl) rfl #[.int .i64 a0_0, .int .i64 1, .int .i64 6] rfl (by (try simp only [List.map_toArray, List.map_cons, List.map_nil]); first | done | rfl | (simp only [List.length_drop, List.length_take]; rfl)) ?_; (with_reducible refine (impl_in.calls a0_0 1 6 false _ A39.out).mono ?_); rintro e w' ⟨rfl, ⟨nd, rfl⟩⟩; refine ⟨_, rfl, ?_⟩))
    go_ret
    exact QT (BT HB.out)
   subst c40
   have H1 : ((impl_isID.f a0_1).bind fun t224 => (if t224 = true then (if x4_1 = true then (some (0 == 0 && (0 == 0 && (x217002_1 == 0 && (x217003_1 == 0 && (x217004_1 == 0 && (x217005_1 == 0))))))) else (some false)) else (some false))) = some r := by rw [if_pos rfl] at H; exact H
   clear H
   have H := H1
   clear H1
   replace H := Option.bind_eq_some_iff.mp H
   obtain ⟨t224, A410, H⟩ := H
   replace H : (if t224 = true then (if x4_1 = true then (some (0 == 0 && (0 == 0 && (x217002_1 == 0 && (x217003_1 == 0 && (x217004_1 == 0 && (x217005_1 == 0))))))) else (some false)) else (some false)) = some r := H
   have A41 := AM_ A410
   clear A410
   by_cases c42 : t224 = true
   rotate_left
   ·replace c42 := Bool.eq_false_iff.mpr c42
    subst c42
    have H1 : (some false) = some r := by rw [if_neg (show ¬ (false = true) by decide)] at H; exact H
    clear H
    have H := H1
    clear H1
    obtain rfl := Option.some.inj H
    have hnb49 := NB215_216.out
    have hnc49 := NB216_215.out
    obtain ⟨hcz50_0, hcz50_1, hcz50_2, hcz50_3, hcz50_4, hcz50_5, hfz50_0, hfz50_1, hfz50_2, hfz50_3, hfz50_4, hfz50_5⟩ := bk6 BK215.out
    go_wp2_with (first | ((with_reducible refine gate_callee (f := 42) rfl ?_); refine goesL_ (some 50) rfl rfl Tryd.func42 (by kernel_rfl) rfl #[.int .i64 a0_0, .int .i64 1, .int .i64 6] rfl (by (try simp only [List.map_toArray, List.map_cons, List.map_nil]); first | done | rfl | (simp only [List.length_drop, List.length_take]; rfl)) ?_; (with_reducible refine (impl_in.calls a0_0 1 6 true _ A39.out).mono ?_); rintro e w' ⟨rfl, ⟨nd, rfl⟩⟩; refine ⟨_, rfl, ?_⟩) | (go_at_call 43; (with_reducible refine (impl_isID.calls a0_1 false _ A41.out).mono ?_); rintro e w' ⟨rfl, ⟨nd, rfl⟩⟩))
    go_ret
    exact QT (BT HB.out)
   subst c42
   have H1 : (if x4_1 = true then (some (0 == 0 && (0 == 0 && (x217002_1 == 0 && (x217003_1 == 0 && (x217004_1 == 0 && (x217005_1 == 0))))))) else (some false)) = some r := by rw [if_pos rfl] at H; exact H
   clear H
   have H := H1
   clear H1
   by_cases c43 : x4_1 = true
   rotate_left
   ·replace c43 := Bool.eq_false_iff.mpr c43
    subst c43
    have H1 : (some false) = some r := by rw [if_neg (show ¬ (false = true) by decide)] at H; exact H
    clear H
    have H := H1
    clear H1
    obtain rfl := Option.some.inj H
    have hnb47 := NB215_216.out
    have hnc47 := NB216_215.out
    obtain ⟨hcz48_0, hcz48_1, hcz48_2, hcz48_3, hcz48_4, hcz48_5, hfz48_0, hfz48_1, hfz48_2, hfz48_3, hfz48_4, hfz48_5⟩ := bk6 BK215.out
    go_wp2_with (first | ((with_reducible refine gate_callee (f := 42) rfl ?_); refine goesL_ (some 50) rfl rfl Tryd.func42 (by kernel_rfl) rfl #[.int .i64 a0_0, .int .i64 1, .int .i64 6] rfl (by (try simp only [List.map_toArray, List.map_cons, List.map_nil]); first | done | rfl | (simp only [List.length_drop, List.length_take]; rfl)) ?_; (with_reducible refine (impl_in.calls a0_0 1 6 true _ A39.out).mono ?_); rintro e w' ⟨rfl, ⟨nd, rfl⟩⟩; refine ⟨_, rfl, ?_⟩) | (go_at_call 43; (with_reducible refine (impl_isID.calls a0_1 true _ A41.out).mono ?_); rintro e w' ⟨rfl, ⟨nd, rfl⟩⟩))
    go_ret
    exact QT (BT HB.out)
   subst c43
   have H1 : (some (0 == 0 && (0 == 0 && (x217002_1 == 0 && (x217003_1 == 0 && (x217004_1 == 0 && (x217005_1 == 0))))))) = some r := by rw [if_pos rfl] at H; exact H
   clear H
   have H := H1
   clear H1
   obtain rfl := Option.some.inj H
   have hnb44 := NB215_216.out
   have hnc44 := NB216_215.out
   obtain ⟨hcz45_0, hcz45_1, hcz45_2, hcz45_3, hcz45_4, hcz45_5, hfz45_0, hfz45_1, hfz45_2, hfz45_3, hfz45_4, hfz45_5⟩ := bk6 BK215.out
   go_wp2_with (first | ((with_reducible refine gate_callee (f := 42) rfl ?_); refine goesL_ (some 50) rfl rfl Tryd.func42 (by kernel_rfl) rfl #[.int .i64 a0_0, .int .i64 1, .int .i64 6] rfl (by (try simp only [List.map_toArray, List.map_cons, List.map_nil]); first | done | rfl | (simp only [List.length_drop, List.length_take]; rfl)) ?_; (with_reducible refine (impl_in.calls a0_0 1 6 true _ A39.out).mono ?_); rintro e w' ⟨rfl, ⟨nd, rfl⟩⟩; refine ⟨_, rfl, ?_⟩) | (go_at_call 43; (with_reducible refine (impl_isID.calls a0_1 true _ A41.out).mono ?_); rintro e w' ⟨rfl, ⟨nd, rfl⟩⟩; obtain ⟨hcz46_0, hcz46_1, hcz46_2, hcz46_3, hcz46_4, hcz46_5, hfz46_0, hfz46_1, hfz46_2, hfz46_3, hfz46_4, hfz46_5⟩ := bk6 BK216.out))
   go_ret
   exact QT (BT HB.out)

/-! ### strconv_Itoa: function 50 -/
def strconv_Itoa.f (a0 : Int) : Option ByteArray := if -9223372036854775808 ≤ a0 then (if a0 ≤ 9223372036854775807 then (some (⟨(Lib.itoa a0).toArray⟩ : ByteArray)) else (none)) else (none)
theorem strconv_Itoa.calls (a0 : Int) (r : ByteArray) (w : World) (hTB : Tryd.TB w) (h : strconv_Itoa.f a0 = some r) :
  Calls Tryd.prog 50 #[.int .i64 a0] w fun e w' => e = .returned (.string r) ∧ Below w.heap.size w w' := by
 unfold strconv_Itoa.f at h
 by_cases c0 : -9223372036854775808 ≤ a0
 rotate_left
 ·rw [if_neg c0] at h; exact absurd h (by simp)
 rw [if_pos c0] at h
 by_cases c1 : a0 ≤ 9223372036854775807
 rotate_left
 ·rw [if_neg c1] at h; exact absurd h (by simp)
 rw [if_pos c1] at h
 obtain rfl := Option.some.inj h
 refine (Tryd.strconv_Itoa a0 c0 c1 w hTB.1).mono ?_
 rintro e w' ⟨rfl, k, os, rfl⟩
 exact ⟨rfl, Lib.below_grow _ _ (Nat.le_refl _) _ _⟩

/-! ### impl_FormatInt: function 44 -/
def impl_FormatInt.f (a0 : Int) : Option (ByteArray) := (strconv_Itoa.f a0).bind fun t225 => (some t225)
set_option maxHeartbeats 8000000 in
set_option maxRecDepth 100000 in
theorem impl_FormatInt.calls (a0 : Int) (r : ByteArray) (w : World) (hTB : Tryd.TB w) (h : impl_FormatInt.f a0 = some r) :
  Calls Tryd.prog 44 #[.int .i64 a0] w fun e w' => e = .returned (.string r) ∧ Below w.heap.size w w' := by
 have HB := AM_ (Below.refl w.heap.size w)
 have H : ((strconv_Itoa.f a0).bind fun t225 => (some t225)) = some r := h
 clear h
 replace H := Option.bind_eq_some_iff.mp H
 obtain ⟨t225, A20, H⟩ := H
 replace H : (some t225) = some r := H
 have A2 := AM_ A20
 clear A20
 obtain rfl := Option.some.inj H
 go_enter Tryd.func44, Tryd.ntmps44
 go_wp2_with (first | ((with_reducible refine gate_callee (f := 50) rfl ?_); refine goesL_ (some 4) rfl rfl Tryd.func50 (by kernel_rfl) rfl #[.int .i64 a0] rfl (by (try simp only [List.map_toArray, List.map_cons, List.map_nil]); first | done | rfl | (simp only [List.length_drop, List.length_take]; rfl)) ?_; (with_reducible refine (strconv_Itoa.calls a0 t225 _ ?side1 A2.out).mono ?_); (case side1 => first | (with_reducible exact hTB) | exact Tryd.TB_below hTB (BT HB.out)); rintro e w3 ⟨rfl, hb⟩; refine ⟨_, rfl, ?_⟩; replace HB := AM_ (below_step (BT HB.out) hb); (try clear hb); (try clear hb2); (try clear hk); (try clear hi)))
 go_ret
 exact QT (BT HB.out)

/-! ### impl_SchemeName: function 45 -/
def impl_SchemeName.f (a0 : Int) : Option (ByteArray) := (impl_isScheme.f a0).bind fun t226 => (if t226 = true then ((some (([(⟨#[99, 111, 109, 109, 105, 116, 116, 101, 100]⟩ : ByteArray), (⟨#[115, 110, 97, 112, 115, 104, 111, 116]⟩ : ByteArray), (⟨#[111, 112, 116, 105, 109, 105, 115, 116, 105, 99]⟩ : ByteArray), (⟨#[111, 114, 100, 101, 114, 101, 100]⟩ : ByteArray)] : List ByteArray) : List ByteArray)).bind fun y227 => (if 0 ≤ (wrap64 (a0 - 1)) then (if (wrap64 (a0 - 1)) < (y227.length : Int) then (some (rdOf ByteArray.empty y227 (wrap64 (a0 - 1)))) else (none)) else (none))) else (some (⟨#[]⟩ : ByteArray)))
set_option maxHeartbeats 8000000 in
set_option maxRecDepth 100000 in
theorem impl_SchemeName.calls (a0 : Int) (r : ByteArray) (w : World) (h : impl_SchemeName.f a0 = some r) :
  Calls Tryd.prog 45 #[.int .i64 a0] w fun e w' => e = .returned (.string r) ∧ Below w.heap.size w w' := by
 have HB := AM_ (Below.refl w.heap.size w)
 have H : ((impl_isScheme.f a0).bind fun t226 => (if t226 = true then ((some (([(⟨#[99, 111, 109, 109, 105, 116, 116, 101, 100]⟩ : ByteArray), (⟨#[115, 110, 97, 112, 115, 104, 111, 116]⟩ : ByteArray), (⟨#[111, 112, 116, 105, 109, 105, 115, 116, 105, 99]⟩ : ByteArray), (⟨#[111, 114, 100, 101, 114, 101, 100]⟩ : ByteArray)] : List ByteArray) : List ByteArray)).bind fun y227 => (if 0 ≤ (wrap64 (a0 - 1)) then (if (wrap64 (a0 - 1)) < (y227.length : Int) then (some (rdOf ByteArray.empty y227 (wrap64 (a0 - 1)))) else (none)) else (none))) else (some (⟨#[]⟩ : ByteArray)))) = some r := h
 clear h
 replace H := Option.bind_eq_some_iff.mp H
 obtain ⟨t226, A20, H⟩ := H
 replace H : (if t226 = true then ((some (([(⟨#[99, 111, 109, 109, 105, 116, 116, 101, 100]⟩ : ByteArray), (⟨#[115, 110, 97, 112, 115, 104, 111, 116]⟩ : ByteArray), (⟨#[111, 112, 116, 105, 109, 105, 115, 116, 105, 99]⟩ : ByteArray), (⟨#[111, 114, 100, 101, 114, 101, 100]⟩ : ByteArray)] : List ByteArray) : List ByteArray)).bind fun y227 => (if 0 ≤ (wrap64 (a0 - 1)) then (if (wrap64 (a0 - 1)) < (y227.length : Int) then (some (rdOf ByteArray.empty y227 (wrap64 (a0 - 1)))) else (none)) else (none))) else (some (⟨#[]⟩ : ByteArray))) = some r := H
 have A2 := AM_ A20
 clear A20
 by_cases c3 : t226 = true
 rotate_left
 ·replace c3 := Bool.eq_false_iff.mpr c3
  subst c3
  have H1 : (some (⟨#[]⟩ : ByteArray)) = some r := by rw [if_neg (show ¬ (false = true) by decide)] at H; exact H
  clear H
  have H := H1
  clear H1
  obtain rfl := Option.some.inj H
  go_enter Tryd.func45, Tryd.ntmps45
  go_wp2_with (first | ((with_reducible refine gate_callee (f := 39) rfl ?_); refine goesL_ (some 4) rfl rfl Tryd.func39 (by kernel_rfl) rfl #[.int .i64 a0] rfl (by (try simp only [List.map_toArray, List.map_cons, List.map_nil]); first | done | rfl | (simp only [List.length_drop, List.length_take]; rfl)) ?_; (with_reducible refine (impl_isScheme.calls a0 false _ A2.out).mono ?_); rintro e w' ⟨rfl, ⟨nd, rfl⟩⟩; refine ⟨_, rfl, ?_⟩))
  go_ret
  exact QT (BT HB.out)
 subst c3
 have H1 : ((some (([(⟨#[99, 111, 109, 109, 105, 116, 116, 101, 100]⟩ : ByteArray), (⟨#[115, 110, 97, 112, 115, 104, 111, 116]⟩ : ByteArray), (⟨#[111, 112, 116, 105, 109, 105, 115, 116, 105, 99]⟩ : ByteArray), (⟨#[111, 114, 100, 101, 114, 101, 100]⟩ : ByteArray)] : List ByteArray) : List ByteArray)).bind fun y227 => (if 0 ≤ (wrap64 (a0 - 1)) then (if (wrap64 (a0 - 1)) < (y227.length : Int) then (some (rdOf ByteArray.empty y227 (wrap64 (a0 - 1)))) else (none)) else (none))) = some r := by rw [if_pos rfl] at H; exact H
 clear H
 have H := H1
 clear H1
 obtain ⟨y227, hy227⟩ : ∃ y_ : List ByteArray, y_ = (([(⟨#[99, 111, 109, 109, 105, 116, 116, 101, 100]⟩ : ByteArray), (⟨#[115, 110, 97, 112, 115, 104, 111, 116]⟩ : ByteArray), (⟨#[111, 112, 116, 105, 109, 105, 115, 116, 105, 99]⟩ : ByteArray), (⟨#[111, 114, 100, 101, 114, 101, 100]⟩ : ByteArray)] : List ByteArray)) := ⟨_, rfl⟩
 replace H : (if 0 ≤ (wrap64 (a0 - 1)) then (if (wrap64 (a0 - 1)) < (y227.length : Int) then (some (rdOf ByteArray.empty y227 (wrap64 (a0 - 1)))) else (none)) else (none)) = some r := by first | (rw [hy227]; with_reducible exact H) | (have H2_ := (Option.bind_some _ _).symm.trans H; rw [hy227]; with_reducible exact H2_) | (have H2_ := (Option.bind_some _ _).symm.trans H; with_reducible exact H2_) | with_reducible exact H | (rw [hy227]; exact H) | exact H
 have Ny227 := AM_ hy227
 clear hy227
 obtain ⟨ji4, hji4⟩ : ∃ j_ : Int, (wrap64 (a0 - 1)) = j_ := ⟨_, rfl⟩
 replace H : (if 0 ≤ (ji4) then (if (ji4) < (y227.length : Int) then (some (rdOf ByteArray.empty y227 (ji4))) else (none)) else (none)) = some r := by first | (rw [hji4] at H; exact H) | (simp only [hji4] at H ⊢; exact H)
 (try rw [hji4] at A2)
 have hji4w : (IntKind.i64.wrap (a0 - 1)) = ji4 := (i64_w _).trans hji4
 by_cases c5 : 0 ≤ (ji4)
 rotate_left
 ·rw [if_neg c5] at H
  exact absurd H (by simp)
 rw [if_pos c5] at H
 have c5b0 : decide (0 ≤ (ji4)) = true := decide_eq_true c5
 clear c5
 by_cases c6 : (ji4) < (y227.length : Int)
 rotate_left
 ·rw [if_neg c6] at H
  exact absurd H (by simp)
 rw [if_pos c6] at H
 have c6b0 : decide ((ji4) < (y227.length : Int)) = true := decide_eq_true c6
 clear c6
 obtain rfl := Option.some.inj H
 go_enter Tryd.func45, Tryd.ntmps45
 go_wp2_with (first | ((with_reducible refine gate_callee (f := 39) rfl ?_); refine goesL_ (some 4) rfl rfl Tryd.func39 (by kernel_rfl) rfl #[.int .i64 a0] rfl (by (try simp only [List.map_toArray, List.map_cons, List.map_nil]); first | done | rfl | (simp only [List.length_drop, List.length_take]; rfl)) ?_; (with_reducible refine (impl_isScheme.calls a0 true _ A2.out).mono ?_); rintro e w' ⟨rfl, ⟨nd, rfl⟩⟩; refine ⟨_, rfl, ?_⟩) | ((with_reducible refine gate_dst (N := 6) rfl ?_); refine Kd.R_lit Kd.string _ 9 ?hg (N := 6) ?hd (xs := ([(⟨#[99, 111, 109, 109, 105, 116, 116, 101, 100]⟩ : ByteArray), (⟨#[115, 110, 97, 112, 115, 104, 111, 116]⟩ : ByteArray), (⟨#[111, 112, 116, 105, 109, 105, 115, 116, 105, 99]⟩ : ByteArray), (⟨#[111, 114, 100, 101, 114, 101, 100]⟩ : ByteArray)] : List ByteArray)) (inner := [.string (⟨#[99, 111, 109, 109, 105, 116, 116, 101, 100]⟩ : ByteArray), .string (⟨#[115, 110, 97, 112, 115, 104, 111, 116]⟩ : ByteArray), .string (⟨#[111, 112, 116, 105, 109, 105, 115, 116, 105, 99]⟩ : ByteArray), .string (⟨#[111, 114, 100, 101, 114, 101, 100]⟩ : ByteArray)]) (ok := fun _ => True) (okp := fun _ => True) ?hr ?hp (fun _ hk => hk) trivial (Below.refl _ _) (Nat.le_refl _) (by simp) ?_; (case hd => rfl); (case hg => rfl); (case hr => first | (go_simp; done) | (go_simp; rfl)); (case hp => exact (Reps.one (show Kd.M Kd.string _ _ _ (⟨#[99, 111, 109, 109, 105, 116, 116, 101, 100]⟩ : ByteArray) [.string (⟨#[99, 111, 109, 109, 105, 116, 116, 101, 100]⟩ : ByteArray)] from rfl) (Reps.one (show Kd.M Kd.string _ _ _ (⟨#[115, 110, 97, 112, 115, 104, 111, 116]⟩ : ByteArray) [.string (⟨#[115, 110, 97, 112, 115, 104, 111, 116]⟩ : ByteArray)] from rfl) (Reps.one (show Kd.M Kd.string _ _ _ (⟨#[111, 112, 116, 105, 109, 105, 115, 116, 105, 99]⟩ : ByteArray) [.string (⟨#[111, 112, 116, 105, 109, 105, 115, 116, 105, 99]⟩ : ByteArray)] from rfl) (Reps.one (show Kd.M Kd.string _ _ _ (⟨#[111, 114, 100, 101, 114, 101, 100]⟩ : ByteArray) [.string (⟨#[111, 114, 100, 101, 114, 101, 100]⟩ : ByteArray)] from rfl) (Reps.none _ _)))))); intro v228 w7 ho8 hb hg_ hnew_; clear hg_ hnew_; (first | rw [← Ny227.out] at ho8 | (simp only [Int.reduceToNat] at ho8; rw [← Ny227.out] at ho8)); have HO229 := AM_ (Kd.R_lower ho8 (below_size (BT HB.out))); replace HB := AM_ (below_step (BT HB.out) hb); clear hb ho8; obtain ⟨Ao9, co9, eo9⟩ := Kd.R_slice HO229.out; subst eo9; have p230 : 0 ≤ ((ji4) : Int) := DT; have q230 : (ji4) < (y227.length : Int) := DT; obtain ⟨ad230, e230, hx230_0⟩ := Kd.at_string (Kd.R_reads' HO229.out).2.2 (ji4) p230 q230; cases e230; replace p230 := eq_true p230; replace q230 := eq_true q230))
 go_ret
 exact ⟨by first | rfl | (simp [errW_none, errW_some] <;> rfl) | (simp only [← hji4]; first | rfl | (simp [errW_none, errW_some] <;> rfl)) | (simp [*, errW_none, errW_some] <;> rfl), BT HB.out⟩

/-! ### impl_formatValue: function 46 -/
def impl_formatValue.f (a0 : Int) : Option (ByteArray) := if a0 = (-1) then (some (⟨#[45]⟩ : ByteArray)) else ((impl_FormatInt.f a0).bind fun t231 => (some t231))
set_option maxHeartbeats 8000000 in
set_option maxRecDepth 100000 in
theorem impl_formatValue.calls (a0 : Int) (r : ByteArray) (w : World) (hTB : Tryd.TB w) (h : impl_formatValue.f a0 = some r) :
  Calls Tryd.prog 46 #[.int .i64 a0] w fun e w' => e = .returned (.string r) ∧ Below w.heap.size w w' := by
 have HB := AM_ (Below.refl w.heap.size w)
 have H : (if a0 = (-1) then (some (⟨#[45]⟩ : ByteArray)) else ((impl_FormatInt.f a0).bind fun t231 => (some t231))) = some r := h
 clear h
 by_cases c2 : a0 = (-1)
 ·rw [if_pos c2] at H
  have c2b0 : (a0 == (-1)) = true := beq_iff_eq.mpr c2
  have c2b1 : (a0 != (-1)) = false := bne_eq_false_iff_eq.mpr c2
  clear c2
  obtain rfl := Option.some.inj H
  go_enter Tryd.func46, Tryd.ntmps46
  go_wp2
  go_ret
  exact QT (BT HB.out)
 rw [if_neg c2] at H
 have c2b0 : (a0 == (-1)) = false := beq_eq_false_iff_ne.mpr c2
 have c2b1 : (a0 != (-1)) = true := bne_iff_ne.mpr c2
 replace H := Option.bind_eq_some_iff.mp H
 obtain ⟨t231, A30, H⟩ := H
 replace H : (some t231) = some r := H
 have A3 := AM_ A30
 clear A30
 obtain rfl := Option.some.inj H
 go_enter Tryd.func46, Tryd.ntmps46
 go_wp2_with (first | ((with_reducible refine gate_callee (f := 44) rfl ?_); refine goesL_ (some 6) rfl rfl Tryd.func44 (by kernel_rfl) rfl #[.int .i64 a0] rfl (by (try simp only [List.map_toArray, List.map_cons, List.map_nil]); first | done | rfl | (simp only [List.length_drop, List.length_take]; rfl)) ?_; (with_reducible refine (impl_FormatInt.calls a0 t231 _ ?side1 A3.out).mono ?_); (case side1 => first | (with_reducible exact hTB) | exact Tryd.TB_below hTB (BT HB.out)); rintro e w4 ⟨rfl, hb⟩; refine ⟨_, rfl, ?_⟩; replace HB := AM_ (below_step (BT HB.out) hb); (try clear hb); (try clear hb2); (try clear hk); (try clear hi)))
 go_ret
 exact QT (BT HB.out)

end Go.Proofs.YtdfbmaiboadodaaDoor.PFnOps
