-- Printed by wip/myprint.py.
import Derived.Test.YtdfbmaiboadodaaGreatDoorPFnExactParseHistoryx11
namespace Go.Proofs.YtdfbmaiboadodaaGreatDoor.PFnExactParseHistory
open Go.RowKit Go.Proofs.YtdfbmaiboadodaaGreatDoorW.PrintWords Go.Proofs.YtdfbmaiboadodaaGreatDoorW.PrintLast Go.Proofs.YtdfbmaiboadodaaGreatDoorW.PrintMore
set_option maxHeartbeats 8000000
set_option maxRecDepth 100000
set_option linter.unusedVariables false
set_option linter.unusedSimpArgs false

/-! ### impl_WriterOf: function 52 -/
def impl_WriterOf.l0 : Nat → List (S33) → Int → Int → Int → Int → Option (Int)
 | 0, _, _, _, _, _ => none
 | k + 1, x7, x8, x9, x352000, x352001 => if x9 < x8 then (if 0 ≤ x9 then (if x9 < (x7.length : Int) then (if ((rd_T33 x7 x9).f1) = x352001 then ((impl_Entry_writes.f k ((rd_T33 x7 x9).f0) ((rd_T33 x7 x9).f1) ((rd_T33 x7 x9).f2) ((rd_T33 x7 x9).f3) x352000).bind fun t354 => (if t354 = true then (some ((rd_T33 x7 x9).f0)) else (impl_WriterOf.l0 k x7 x8 (wrap64 (x9 + 1)) x352000 x352001))) else (impl_WriterOf.l0 k x7 x8 (wrap64 (x9 + 1)) x352000 x352001)) else (none)) else (none)) else (some 0)
def impl_WriterOf.f (k : Nat) (l0 : List (S33)) (a1_0 : Int) (a1_1 : Int) : Option (Int) := impl_WriterOf.l0 k l0 (l0.length : Int) 0 a1_0 a1_1
theorem impl_WriterOf.mono_l : ∀ k, (∀ y0 y1 y2 y3 y4, LeO (impl_WriterOf.l0 k y0 y1 y2 y3 y4) (impl_WriterOf.l0 (k + 1) y0 y1 y2 y3 y4))
 | 0 => fun _ _ _ _ _ r h => by simp [impl_WriterOf.l0] at h
 | k + 1 => by
  have ih0 := impl_WriterOf.mono_l k
  ·intro y0 y1 y2 y3 y4
   unfold impl_WriterOf.l0
   repeat' first
   | (with_reducible exact ih0 _ _ _ _ _)
   | (with_reducible exact impl_Entry_writes.mono _ _ _ _ _ _)
   | (with_reducible first | exact LeO.refl _ | exact LeO.none _ | refine LeO.ite ?_ ?_ | refine LeO.bind ?_ (fun _ => ?_))
   | exact ih0 _ _ _ _ _
   | exact impl_Entry_writes.mono _ _ _ _ _ _
   | exact LeO.none _ | refine LeO.ite ?_ ?_ | refine LeO.bind ?_ (fun _ => ?_)
theorem impl_WriterOf.mono : ∀ a0 a1 a2 k, LeO (impl_WriterOf.f k a0 a1 a2) (impl_WriterOf.f (k + 1) a0 a1 a2) := by
 intro a0 a1 a2 k
 have ih0 := impl_WriterOf.mono_l k
 unfold impl_WriterOf.f
 repeat' first
   | (with_reducible exact ih0 _ _ _ _ _)
   | (with_reducible exact impl_Entry_writes.mono _ _ _ _ _ _)
   | (with_reducible first | exact LeO.refl _ | exact LeO.none _ | refine LeO.ite ?_ ?_ | refine LeO.bind ?_ (fun _ => ?_))
   | exact ih0 _ _ _ _ _
   | exact impl_Entry_writes.mono _ _ _ _ _ _
   | exact LeO.none _ | refine LeO.ite ?_ ?_ | refine LeO.bind ?_ (fun _ => ?_)
theorem impl_WriterOf.calls (k : Nat) (A0 : Option Addr) (c0 : Nat) (l0 : List (S33)) (a1_0 : Int) (a1_1 : Int) (r : Int) (w : World) (hr0 : Kd.C k33 w A0 l0.length l0) (hc0 : l0.length ≤ c0) (h : impl_WriterOf.f k l0 a1_0 a1_1 = some r) :
  Calls Tryz.prog 52 #[.slice A0 l0.length c0, .agg #[.int .i64 a1_0, .int .i64 a1_1]] w fun e w' => e = .returned (.int .i64 r) ∧ Below w.heap.size w w' := by
 have hu48 := Tryz.underlying48
 have hu33 := Tryz.underlying33
 have HR0 := AM_ hr0
 have HC0 := AM_ hc0
 clear hr0 hc0
 have HB := AM_ (Below.refl w.heap.size w)
 have H : (impl_WriterOf.l0 k l0 (l0.length : Int) 0 a1_0 a1_1) = some r := h
 clear h
 have H' := AM_ H
 clear H
 go_enter Tryz.func52, Tryz.ntmps52
 go_wp2_with (first | ((with_reducible refine gate_dst (N := 3) rfl ?_); refine box_event ?hg (N := 3) ?hd (cs := #[.int .i64 a1_0, .int .i64 a1_1]) (t := 48) ?hr ?_; (case hd => rfl); (case hg => rfl); (case hr => first | (go_simp; done) | (go_simp; rfl)); intro gb351 hg w3 hbox hb; have BK351 := AM_ (hbox); have GW351 := AM_ ((GS HB.out hg)); have GE351 := AM_ ((GS HB.out hg)); replace HB := AM_ (below_step (BT HB.out) hb); clear hb hbox hg))
 go_loopg [9] k (fun kq v9 w' => ∃ (x9_1 : Int), v9 = .int .i64 x9_1 ∧ Aside0 (impl_WriterOf.l0 kq l0 (l0.length : Int) x9_1 a1_0 a1_1 = some r) ∧ Aside0 (kq ≤ k) ∧ Aside0 (w'.heap[gb351]? = some (.cells #[.int .i64 a1_0, .int .i64 a1_1] 48 (0, 0))) ∧ Aside0 (Below w.heap.size w w'))
 case atStart => exact ⟨(0), (by first | rfl | (simp; done) | (simp [*]; done)), H', ⟨Nat.le_refl _⟩, ⟨BH BK351.out⟩, ⟨BT HB.out⟩⟩
 case round =>
  clear H'
  try clear p2
  obtain ⟨x9_1, rfl, HA, HK1, BK351, HB⟩ := hrel
  cases gk with
  | zero => exact absurd HA.out (by simp [impl_WriterOf.l0])
  | succ k1 =>
   have H := HA.out
   clear HA
   simp only [impl_WriterOf.l0] at H
   by_cases c4 : x9_1 < (l0.length : Int)
   rotate_left
   ·rw [if_neg c4] at H
    have c4b0 : decide (x9_1 < (l0.length : Int)) = false := decide_eq_false c4
    clear c4
    obtain rfl := Option.some.inj H
    go_wp2
    go_ret
    exact QT (BT HB.out)
   rw [if_pos c4] at H
   have c4b0 : decide (x9_1 < (l0.length : Int)) = true := decide_eq_true c4
   clear c4
   replace H := HI H
   obtain ⟨c5, H⟩ := H
   have c5b0 : decide (0 ≤ x9_1) = true := decide_eq_true c5
   clear c5
   replace H := HI H
   obtain ⟨c6, H⟩ := H
   have c6b0 : decide (x9_1 < (l0.length : Int)) = true := decide_eq_true c6
   clear c6
   by_cases c7 : ((rd_T33 l0 x9_1).f1) = a1_1
   rotate_left
   ·rw [if_neg c7] at H
    have c7b0 : (((rd_T33 l0 x9_1).f1) == a1_1) = false := beq_eq_false_iff_ne.mpr c7
    have c7b1 : (((rd_T33 l0 x9_1).f1) != a1_1) = true := bne_iff_ne.mpr c7
    have H' := AM_ H
    clear H
    have p352 : 0 ≤ (x9_1 : Int) := DT
    have q352 : x9_1 < (l0.length : Int) := DT
    obtain ⟨ad352, A352_2, c352_2, A352_3, c352_3, e352, hx352_0, hx352_1, hx352_2, hx352_3, hl352_2, hi352_2, hl352_3, hi352_3⟩ := at_T33 HR0.out x9_1 p352 q352
    cases e352
    replace hx352_0 := BC HB.out hx352_0
    replace hx352_1 := BC HB.out hx352_1
    replace hx352_2 := BC HB.out hx352_2
    replace hx352_3 := BC HB.out hx352_3
    have HR352_2 := AM_ hi352_2
    have HC352_2 := AM_ hl352_2
    clear hi352_2 hl352_2
    have HR352_3 := AM_ hi352_3
    have HC352_3 := AM_ hl352_3
    clear hi352_3 hl352_3
    replace p352 := eq_true p352
    replace q352 := eq_true q352
    go_wp2_with (first | ((with_reducible refine gate_dst (N := 6) rfl ?_); refine box_event ?hg (N := 6) ?hd (cs := #[.int .i64 0, .int .i64 0, .slice none 0 0, .slice none 0 0]) (t := 33) ?hr ?_; (case hd => rfl); (case hg => rfl); (case hr => first | (go_simp; done) | (go_simp; rfl)); intro gb353 hg w21 hbox hb; have BK353 := AM_ (hbox); have GW353 := AM_ ((GS HB.out hg)); have GE353 := AM_ ((GS HB.out hg)); replace HB := AM_ (below_step (BT HB.out) hb); have NB351_353 := AM_ ((NL BK351.out hg)); have NB353_351 := AM_ ((NG BK351.out hg)); replace BK351 := AM_ (BB BK351.out hb); clear hb hbox hg; have hnb22 := NB353_351.out; have hnc22 := NB351_353.out; obtain ⟨hcz23_0, hcz23_1, hcz23_2, hcz23_3, hfz23_0, hfz23_1, hfz23_2, hfz23_3⟩ := bk4 BK353.out; obtain ⟨hcz24_0, hcz24_1, hfz24_0, hfz24_1⟩ := bk2 BK351.out))
    go_roundg k1
    case measure => have := HK1.out; omega
    case rel => exact ⟨(wrap64 (x9_1 + 1)), (by first | rfl | (simp; done) | (simp [*]; done)), H', ⟨by have := HK1.out; omega⟩, ⟨BG BK351.out NB351_353.out⟩, ⟨BT HB.out⟩⟩
   rw [if_pos c7] at H
   have c7b0 : (((rd_T33 l0 x9_1).f1) == a1_1) = true := beq_iff_eq.mpr c7
   have c7b1 : (((rd_T33 l0 x9_1).f1) != a1_1) = false := bne_eq_false_iff_eq.mpr c7
   clear c7
   replace H := Option.bind_eq_some_iff.mp H
   obtain ⟨t354, A80, H⟩ := H
   replace H : (if t354 = true then (some ((rd_T33 l0 x9_1).f0)) else (impl_WriterOf.l0 k1 l0 (l0.length : Int) (wrap64 (x9_1 + 1)) a1_0 a1_1)) = some r := H
   have A8 := AM_ A80
   clear A80
   by_cases c9 : t354 = true
   ·subst c9
    have H1 : (some ((rd_T33 l0 x9_1).f0)) = some r := by rw [if_pos rfl] at H; exact H
    clear H
    have H := H1
    clear H1
    obtain rfl := Option.some.inj H
    have p352 : 0 ≤ (x9_1 : Int) := DT
    have q352 : x9_1 < (l0.length : Int) := DT
    obtain ⟨ad352, A352_2, c352_2, A352_3, c352_3, e352, hx352_0, hx352_1, hx352_2, hx352_3, hl352_2, hi352_2, hl352_3, hi352_3⟩ := at_T33 HR0.out x9_1 p352 q352
    cases e352
    replace hx352_0 := BC HB.out hx352_0
    replace hx352_1 := BC HB.out hx352_1
    replace hx352_2 := BC HB.out hx352_2
    replace hx352_3 := BC HB.out hx352_3
    have HR352_2 := AM_ hi352_2
    have HC352_2 := AM_ hl352_2
    clear hi352_2 hl352_2
    have HR352_3 := AM_ hi352_3
    have HC352_3 := AM_ hl352_3
    clear hi352_3 hl352_3
    replace p352 := eq_true p352
    replace q352 := eq_true q352
    go_wp2_with (first | ((with_reducible refine gate_dst (N := 6) rfl ?_); refine box_event ?hg (N := 6) ?hd (cs := #[.int .i64 0, .int .i64 0, .slice none 0 0, .slice none 0 0]) (t := 33) ?hr ?_; (case hd => rfl); (case hg => rfl); (case hr => first | (go_simp; done) | (go_simp; rfl)); intro gb353 hg w10 hbox hb; have BK353 := AM_ (hbox); have GW353 := AM_ ((GS HB.out hg)); have GE353 := AM_ ((GS HB.out hg)); replace HB := AM_ (below_step (BT HB.out) hb); have NB351_353 := AM_ ((NL BK351.out hg)); have NB353_351 := AM_ ((NG BK351.out hg)); replace BK351 := AM_ (BB BK351.out hb); clear hb hbox hg; have hnb11 := NB353_351.out; have hnc11 := NB351_353.out; obtain ⟨hcz12_0, hcz12_1, hcz12_2, hcz12_3, hfz12_0, hfz12_1, hfz12_2, hfz12_3⟩ := bk4 BK353.out; obtain ⟨hcz13_0, hcz13_1, hfz13_0, hfz13_1⟩ := bk2 BK351.out) | (go_at_call 80; (with_reducible refine (impl_Entry_writes.calls k1 ((rd_T33 l0 x9_1).f0) ((rd_T33 l0 x9_1).f1) _ _ ((rd_T33 l0 x9_1).f2) _ _ ((rd_T33 l0 x9_1).f3) a1_0 true _ ?side1 ?side2 ?side3 ?side4 A8.out).mono ?_); (case side1 => exact Kd.C_below HR352_2.out (BT HB.out)); (case side2 => exact HC352_2.out); (case side3 => exact Kd.C_below HR352_3.out (BT HB.out)); (case side4 => exact HC352_3.out); rintro e w14 ⟨rfl, hb⟩; replace BK351 := AM_ (BF BK351.out NB351_353.out hb); replace BK353 := AM_ (BP #[.int .i64 ((rd_T33 l0 x9_1).f0), .int .i64 ((rd_T33 l0 x9_1).f1), .slice A352_2 ((rd_T33 l0 x9_1).f2).length c352_2, .slice A352_3 ((rd_T33 l0 x9_1).f3).length c352_3] BK353.out hb); replace HB := AM_ (below_step (BT HB.out) hb); (try clear hb); (try clear hb2); (try clear hk); (try clear hi); obtain ⟨hcz15_0, hcz15_1, hcz15_2, hcz15_3, hfz15_0, hfz15_1, hfz15_2, hfz15_3⟩ := bk4 BK353.out))
    go_ret
    exact QT (BT HB.out)
   replace c9 := Bool.eq_false_iff.mpr c9
   subst c9
   have H1 : (impl_WriterOf.l0 k1 l0 (l0.length : Int) (wrap64 (x9_1 + 1)) a1_0 a1_1) = some r := by rw [if_neg (show ¬ (false = true) by decide)] at H; exact H
   clear H
   have H := H1
   clear H1
   have H' := AM_ H
   clear H
   have p352 : 0 ≤ (x9_1 : Int) := DT
   have q352 : x9_1 < (l0.length : Int) := DT
   obtain ⟨ad352, A352_2, c352_2, A352_3, c352_3, e352, hx352_0, hx352_1, hx352_2, hx352_3, hl352_2, hi352_2, hl352_3, hi352_3⟩ := at_T33 HR0.out x9_1 p352 q352
   cases e352
   replace hx352_0 := BC HB.out hx352_0
   replace hx352_1 := BC HB.out hx352_1
   replace hx352_2 := BC HB.out hx352_2
   replace hx352_3 := BC HB.out hx352_3
   have HR352_2 := AM_ hi352_2
   have HC352_2 := AM_ hl352_2
   clear hi352_2 hl352_2
   have HR352_3 := AM_ hi352_3
   have HC352_3 := AM_ hl352_3
   clear hi352_3 hl352_3
   replace p352 := eq_true p352
   replace q352 := eq_true q352
   go_wp2_with (first | ((with_reducible refine gate_dst (N := 6) rfl ?_); refine box_event ?hg (N := 6) ?hd (cs := #[.int .i64 0, .int .i64 0, .slice none 0 0, .slice none 0 0]) (t := 33) ?hr ?_; (case hd => rfl); (case hg => rfl); (case hr => first | (go_simp; done) | (go_simp; rfl)); intro gb353 hg w16 hbox hb; have BK353 := AM_ (hbox); have GW353 := AM_ ((GS HB.out hg)); have GE353 := AM_ ((GS HB.out hg)); replace HB := AM_ (below_step (BT HB.out) hb); have NB351_353 := AM_ ((NL BK351.out hg)); have NB353_351 := AM_ ((NG BK351.out hg)); replace BK351 := AM_ (BB BK351.out hb); clear hb hbox hg; have hnb17 := NB353_351.out; have hnc17 := NB351_353.out; obtain ⟨hcz18_0, hcz18_1, hcz18_2, hcz18_3, hfz18_0, hfz18_1, hfz18_2, hfz18_3⟩ := bk4 BK353.out; obtain ⟨hcz19_0, hcz19_1, hfz19_0, hfz19_1⟩ := bk2 BK351.out) | (go_at_call 80; (with_reducible refine (impl_Entry_writes.calls k1 ((rd_T33 l0 x9_1).f0) ((rd_T33 l0 x9_1).f1) _ _ ((rd_T33 l0 x9_1).f2) _ _ ((rd_T33 l0 x9_1).f3) a1_0 false _ ?side1 ?side2 ?side3 ?side4 A8.out).mono ?_); (case side1 => exact Kd.C_below HR352_2.out (BT HB.out)); (case side2 => exact HC352_2.out); (case side3 => exact Kd.C_below HR352_3.out (BT HB.out)); (case side4 => exact HC352_3.out); rintro e w20 ⟨rfl, hb⟩; replace BK351 := AM_ (BF BK351.out NB351_353.out hb); replace BK353 := AM_ (BP #[.int .i64 ((rd_T33 l0 x9_1).f0), .int .i64 ((rd_T33 l0 x9_1).f1), .slice A352_2 ((rd_T33 l0 x9_1).f2).length c352_2, .slice A352_3 ((rd_T33 l0 x9_1).f3).length c352_3] BK353.out hb); replace HB := AM_ (below_step (BT HB.out) hb); (try clear hb); (try clear hb2); (try clear hk); (try clear hi)))
   go_roundg k1
   case measure => have := HK1.out; omega
   case rel => exact ⟨(wrap64 (x9_1 + 1)), (by first | rfl | (simp; done) | (simp [*]; done)), H', ⟨by have := HK1.out; omega⟩, ⟨BH BK351.out⟩, ⟨BT HB.out⟩⟩

end Go.Proofs.YtdfbmaiboadodaaGreatDoor.PFnExactParseHistory
