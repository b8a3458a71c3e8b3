-- Printed by a program of mine (wip/myprint.py), which runs the printer of the kit with contracts of mine beside it.
import Derived.Test.YtakpkmlbklahhaaPFnExactEqualEnginesx0
import Derived.Test.YtakpkmlbklahhaaPFnExactEqualEnginesx1
import Derived.Test.YtakpkmlbklahhaaPFnExactEqualEnginesx4
import Derived.Test.YtakpkmlbklahhaaPFnExactEqualEnginesx16
namespace Go.Proofs.Ytakpkmlbklahhaa.PFnExactEqualEngines
open Go.RowKit Go.Proofs.YtakpkmlbklahhaaW.PrintWords Go.Proofs.YtakpkmlbklahhaaW.PrintLast Go.Proofs.YtakpkmlbklahhaaW.PrintMore
attribute [local go_sem] max2_int min2_int max_two min_two max_three min_three max_four min_four   -- for this text's walks alone
set_option linter.unusedVariables false
set_option linter.unusedSimpArgs false

attribute [local go_sem high] eqA36 eqA150
/-! ### impl_Transaction: function 125 -/
def impl_Transaction.l0 : Nat → List (S68) → List (S68) → Int → Int → Option (Bool)
 | 0, _, _, _, _ => none
 | k + 1, x1, x15, x16, x17 => if x17 < x16 then (if 0 ≤ x17 then (if x17 < (x15.length : Int) then (if x17 < (x1.length : Int) then ((impl_EqualTransactions.f k ((rd_T68 x15 x17).f0) ((rd_T68 x15 x17).f1) ((rd_T68 x15 x17).f2) ((rd_T68 x15 x17).f3) ((rd_T68 x15 x17).f4) ((rd_T68 x15 x17).f5) ((rd_T68 x15 x17).f6) ((rd_T68 x15 x17).f7) ((rd_T68 x15 x17).f8) ((rd_T68 x1 x17).f0) ((rd_T68 x1 x17).f1) ((rd_T68 x1 x17).f2) ((rd_T68 x1 x17).f3) ((rd_T68 x1 x17).f4) ((rd_T68 x1 x17).f5) ((rd_T68 x1 x17).f6) ((rd_T68 x1 x17).f7) ((rd_T68 x1 x17).f8)).bind fun t312 => (if t312 = true then (impl_Transaction.l0 k x1 x15 x16 (wrap64 (x17 + 1))) else (some false))) else (none)) else (none)) else (none)) else (some true)
def impl_Transaction.f (k : Nat) (l0 : List (S68)) (l1 : List (S68))  : Option (Bool) := if (l0.length : Int) = (l1.length : Int) then (impl_Transaction.l0 k l1 l0 (l0.length : Int) 0) else (some false)
theorem impl_Transaction.mono_l : ∀ k, (∀ y0 y1 y2 y3, LeO (impl_Transaction.l0 k y0 y1 y2 y3) (impl_Transaction.l0 (k + 1) y0 y1 y2 y3))
 | 0 => fun _ _ _ _ r h => by simp [impl_Transaction.l0] at h
 | k + 1 => by
  have ih0 := impl_Transaction.mono_l k
  ·intro y0 y1 y2 y3
   unfold impl_Transaction.l0
   repeat' first
   | (with_reducible exact ih0 _ _ _ _)
   | (with_reducible exact impl_EqualTransactions.mono _ _ _ _ _ _ _ _ _ _ _ _ _ _ _ _ _ _ _)
   | (with_reducible exact LeO.refl _)
   | (with_reducible exact LeO.none _)
   | (with_reducible refine LeO.ite ?_ ?_)
   | (with_reducible refine LeO.bind ?_ (fun _ => ?_))
   | exact ih0 _ _ _ _
   | exact impl_EqualTransactions.mono _ _ _ _ _ _ _ _ _ _ _ _ _ _ _ _ _ _ _
   | exact LeO.none _
   | refine LeO.ite ?_ ?_
   | refine LeO.bind ?_ (fun _ => ?_)
theorem impl_Transaction.mono : ∀ a0 a1 k, LeO (impl_Transaction.f k a0 a1) (impl_Transaction.f (k + 1) a0 a1) := by
 intro a0 a1 k
 have ih0 := impl_Transaction.mono_l k
 unfold impl_Transaction.f
 repeat' first
   | (with_reducible exact ih0 _ _ _ _)
   | (with_reducible exact impl_EqualTransactions.mono _ _ _ _ _ _ _ _ _ _ _ _ _ _ _ _ _ _ _)
   | (with_reducible exact LeO.refl _)
   | (with_reducible exact LeO.none _)
   | (with_reducible refine LeO.ite ?_ ?_)
   | (with_reducible refine LeO.bind ?_ (fun _ => ?_))
   | exact ih0 _ _ _ _
   | exact impl_EqualTransactions.mono _ _ _ _ _ _ _ _ _ _ _ _ _ _ _ _ _ _ _
   | exact LeO.none _
   | refine LeO.ite ?_ ?_
   | refine LeO.bind ?_ (fun _ => ?_)
set_option maxHeartbeats 8000000 in
set_option maxRecDepth 100000 in
theorem impl_Transaction.calls (k : Nat) (A0 : Option Addr) (c0 : Nat) (l0 : List (S68)) (A1 : Option Addr) (c1 : Nat) (l1 : List (S68))  (r : Bool) (w : World) (hr0 : Kd.C k68 w A0 l0.length l0) (hc0 : l0.length ≤ c0) (hr1 : Kd.C k68 w A1 l1.length l1) (hc1 : l1.length ≤ c1) (h : impl_Transaction.f k l0 l1 = some r) :
  Calls Try.prog 125 #[.slice A0 l0.length c0, .slice A1 l1.length c1, .func (.func 126) #[] #[]] w fun e w' => e = .returned (.bool r) ∧ Below w.heap.size w w' := by
 have hu68 := Try.underlying68
 have HR0 := AM_ hr0
 have HC0 := AM_ hc0
 clear hr0 hc0
 have HR1 := AM_ hr1
 have HC1 := AM_ hc1
 clear hr1 hc1
 have HB := AM_ (Below.refl w.heap.size w)
 have H : (if (l0.length : Int) = (l1.length : Int) then (impl_Transaction.l0 k l1 l0 (l0.length : Int) 0) else (some false)) = some r := h
 clear h
 by_cases c4 : (l0.length : Int) = (l1.length : Int)
 rotate_left
 ·rw [if_neg c4] at H
  have c4b0 : ((l0.length : Int) == (l1.length : Int)) = false := beq_eq_false_iff_ne.mpr c4
  have c4b1 : ((l0.length : Int) != (l1.length : Int)) = true := bne_iff_ne.mpr c4
  have c4b2 : (l0.length == l1.length) = false := by first | simpa using c4 | (simp at c4 ⊢; omega)
  obtain rfl := Option.some.inj H
  go_enter Try.func125, Try.ntmps125
  go_wp2
  go_ret
  exact QT (BT HB.out)
 rw [if_pos c4] at H
 have c4b0 : ((l0.length : Int) == (l1.length : Int)) = true := beq_iff_eq.mpr c4
 have c4b1 : ((l0.length : Int) != (l1.length : Int)) = false := bne_eq_false_iff_eq.mpr c4
 have c4b2 : (l0.length == l1.length) = true := by first | simpa using c4 | (simp at c4 ⊢; omega)
 clear c4
 have H' := AM_ H
 clear H
 go_enter Try.func125, Try.ntmps125
 go_wp2
 go_loopg [17] k (fun kq v17 w' => ∃ (x17_1 : Int), v17 = .int .i64 x17_1 ∧ Aside0 (impl_Transaction.l0 kq l1 l0 (l0.length : Int) x17_1 = some r) ∧ Aside0 (kq ≤ k) ∧ Aside0 (Below w.heap.size w w'))
 case atStart => exact ⟨(0), (by first | rfl | (simp; done) | (simp [*]; done)), H', ⟨Nat.le_refl _⟩, ⟨BT HB.out⟩⟩
 case round =>
  clear H'
  try clear c1
  try clear p2
  try clear c4
  try clear c4b0
  try clear c4b1
  try clear c4b2
  obtain ⟨x17_1, rfl, HA, HK1, HB⟩ := hrel
  cases gk with
  | zero => exact absurd HA.out (by simp [impl_Transaction.l0])
  | succ k1 =>
   have H := HA.out
   clear HA
   simp only [impl_Transaction.l0] at H
   by_cases c5 : x17_1 < (l0.length : Int)
   rotate_left
   ·rw [if_neg c5] at H
    have c5b0 : decide (x17_1 < (l0.length : Int)) = false := decide_eq_false c5
    clear c5
    obtain rfl := Option.some.inj H
    go_wp2
    go_ret
    exact QT (BT HB.out)
   rw [if_pos c5] at H
   have c5b0 : decide (x17_1 < (l0.length : Int)) = true := decide_eq_true c5
   clear c5
   by_cases c6 : 0 ≤ x17_1
   rotate_left
   ·rw [if_neg c6] at H
    exact absurd H (by simp)
   rw [if_pos c6] at H
   have c6b0 : decide (0 ≤ x17_1) = true := decide_eq_true c6
   clear c6
   by_cases c7 : x17_1 < (l0.length : Int)
   rotate_left
   ·rw [if_neg c7] at H
    exact absurd H (by simp)
   rw [if_pos c7] at H
   have c7b0 : decide (x17_1 < (l0.length : Int)) = true := decide_eq_true c7
   clear c7
   by_cases c8 : x17_1 < (l1.length : Int)
   rotate_left
   ·rw [if_neg c8] at H
    exact absurd H (by simp)
   rw [if_pos c8] at H
   have c8b0 : decide (x17_1 < (l1.length : Int)) = true := decide_eq_true c8
   clear c8
   replace H := Option.bind_eq_some_iff.mp H
   obtain ⟨t312, A90, H⟩ := H
   replace H : (if t312 = true then (impl_Transaction.l0 k1 l1 l0 (l0.length : Int) (wrap64 (x17_1 + 1))) else (some false)) = some r := H
   have A9 := AM_ A90
   clear A90
   by_cases c10 : t312 = true
   rotate_left
   ·replace c10 := Bool.eq_false_iff.mpr c10
    subst c10
    have H1 : (some false) = some r := by rw [if_neg (show ¬ (false = true) by decide)] at H; exact H
    clear H
    have H := H1
    clear H1
    obtain rfl := Option.some.inj H
    have p308 : 0 ≤ (x17_1 : Int) := DT
    have q308 : x17_1 < (l0.length : Int) := DT
    obtain ⟨ad308, A308_7, c308_7, A308_8, c308_8, e308, hx308_0, hx308_1, hx308_2, hx308_3, hx308_4, hx308_5, hx308_6, hx308_7, hx308_8, hl308_7, hi308_7, hl308_8, hi308_8⟩ := at_T68 HR0.out x17_1 p308 q308
    cases e308
    replace hx308_0 := BC HB.out hx308_0
    replace hx308_1 := BC HB.out hx308_1
    replace hx308_2 := BC HB.out hx308_2
    replace hx308_3 := BC HB.out hx308_3
    replace hx308_4 := BC HB.out hx308_4
    replace hx308_5 := BC HB.out hx308_5
    replace hx308_6 := BC HB.out hx308_6
    replace hx308_7 := BC HB.out hx308_7
    replace hx308_8 := BC HB.out hx308_8
    have HR308_7 := AM_ hi308_7
    have HC308_7 := AM_ hl308_7
    clear hi308_7 hl308_7
    have HR308_8 := AM_ hi308_8
    have HC308_8 := AM_ hl308_8
    clear hi308_8 hl308_8
    replace p308 := eq_true p308
    replace q308 := eq_true q308
    go_wp2_with (first | ((with_reducible refine gate_dst (N := 8) rfl ?_); refine box_event ?hg (N := 8) ?hd (cs := #[.int .i64 0, .int .i64 0, .int .i64 0, .int .i64 0, .int .i64 0, .int .i64 0, .int .i64 0, .slice none 0 0, .slice none 0 0]) (t := 68) ?hr ?_; (case hd => rfl); (case hg => rfl); (case hr => first | (go_simp; done) | (go_simp; rfl)); intro gb309 hg w18 hbox hb; have BK309 := AM_ (hbox); have GW309 := AM_ ((GS HB.out hg)); have GE309 := AM_ ((GS HB.out hg)); replace HB := AM_ (below_step (BT HB.out) hb); clear hb hbox hg; obtain ⟨hcz19_0, hcz19_1, hcz19_2, hcz19_3, hcz19_4, hcz19_5, hcz19_6, hcz19_7, hcz19_8, hfz19_0, hfz19_1, hfz19_2, hfz19_3, hfz19_4, hfz19_5, hfz19_6, hfz19_7, hfz19_8⟩ := bk9 BK309.out; have p310 : 0 ≤ (x17_1 : Int) := DT; have q310 : x17_1 < (l1.length : Int) := DT; obtain ⟨ad310, A310_7, c310_7, A310_8, c310_8, e310, hx310_0, hx310_1, hx310_2, hx310_3, hx310_4, hx310_5, hx310_6, hx310_7, hx310_8, hl310_7, hi310_7, hl310_8, hi310_8⟩ := at_T68 HR1.out x17_1 p310 q310; cases e310; have hn310_0 : ad310.block ≠ gb309 := Nat.ne_of_lt (Nat.lt_of_lt_of_le (by have := World.block_lt_of_cell? _ _ hx310_0; first | rwa [add_block] at this | exact this) GW309.out); have hn310_1 : ad310.block ≠ gb309 := Nat.ne_of_lt (Nat.lt_of_lt_of_le (by have := World.block_lt_of_cell? _ _ hx310_0; first | rwa [add_block] at this | exact this) GW309.out); have hn310_2 : ad310.block ≠ gb309 := Nat.ne_of_lt (Nat.lt_of_lt_of_le (by have := World.block_lt_of_cell? _ _ hx310_0; first | rwa [add_block] at this | exact this) GW309.out); have hn310_3 : ad310.block ≠ gb309 := Nat.ne_of_lt (Nat.lt_of_lt_of_le (by have := World.block_lt_of_cell? _ _ hx310_0; first | rwa [add_block] at this | exact this) GW309.out); have hn310_4 : ad310.block ≠ gb309 := Nat.ne_of_lt (Nat.lt_of_lt_of_le (by have := World.block_lt_of_cell? _ _ hx310_0; first | rwa [add_block] at this | exact this) GW309.out); have hn310_5 : ad310.block ≠ gb309 := Nat.ne_of_lt (Nat.lt_of_lt_of_le (by have := World.block_lt_of_cell? _ _ hx310_0; first | rwa [add_block] at this | exact this) GW309.out); have hn310_6 : ad310.block ≠ gb309 := Nat.ne_of_lt (Nat.lt_of_lt_of_le (by have := World.block_lt_of_cell? _ _ hx310_0; first | rwa [add_block] at this | exact this) GW309.out); have hn310_7 : ad310.block ≠ gb309 := Nat.ne_of_lt (Nat.lt_of_lt_of_le (by have := World.block_lt_of_cell? _ _ hx310_0; first | rwa [add_block] at this | exact this) GW309.out); have hn310_8 : ad310.block ≠ gb309 := Nat.ne_of_lt (Nat.lt_of_lt_of_le (by have := World.block_lt_of_cell? _ _ hx310_0; first | rwa [add_block] at this | exact this) GW309.out); replace hx310_0 := BD HB.out hx310_0; replace hx310_1 := BD HB.out hx310_1; replace hx310_2 := BD HB.out hx310_2; replace hx310_3 := BD HB.out hx310_3; replace hx310_4 := BD HB.out hx310_4; replace hx310_5 := BD HB.out hx310_5; replace hx310_6 := BD HB.out hx310_6; replace hx310_7 := BD HB.out hx310_7; replace hx310_8 := BD HB.out hx310_8; have HR310_7 := AM_ hi310_7; have HC310_7 := AM_ hl310_7; clear hi310_7 hl310_7; have HR310_8 := AM_ hi310_8; have HC310_8 := AM_ hl310_8; clear hi310_8 hl310_8; replace hx310_0 := (cell_far (p := ⟨gb309, 0, none⟩) (by first | (rw [add_block]; exact hn310_0) | (show (Addr.add _ _).block ≠ _; rw [add_block]; exact hn310_0) | exact hn310_0) (.int .i64 ((rd_T68 l0 x17_1).f0))).trans hx310_0; replace hx310_1 := (cell_far (p := ⟨gb309, 0, none⟩) (by first | (rw [add_block]; exact hn310_0) | (show (Addr.add _ _).block ≠ _; rw [add_block]; exact hn310_0) | exact hn310_0) (.int .i64 ((rd_T68 l0 x17_1).f0))).trans hx310_1; replace hx310_2 := (cell_far (p := ⟨gb309, 0, none⟩) (by first | (rw [add_block]; exact hn310_0) | (show (Addr.add _ _).block ≠ _; rw [add_block]; exact hn310_0) | exact hn310_0) (.int .i64 ((rd_T68 l0 x17_1).f0))).trans hx310_2; replace hx310_3 := (cell_far (p := ⟨gb309, 0, none⟩) (by first | (rw [add_block]; exact hn310_0) | (show (Addr.add _ _).block ≠ _; rw [add_block]; exact hn310_0) | exact hn310_0) (.int .i64 ((rd_T68 l0 x17_1).f0))).trans hx310_3; replace hx310_4 := (cell_far (p := ⟨gb309, 0, none⟩) (by first | (rw [add_block]; exact hn310_0) | (show (Addr.add _ _).block ≠ _; rw [add_block]; exact hn310_0) | exact hn310_0) (.int .i64 ((rd_T68 l0 x17_1).f0))).trans hx310_4; replace hx310_5 := (cell_far (p := ⟨gb309, 0, none⟩) (by first | (rw [add_block]; exact hn310_0) | (show (Addr.add _ _).block ≠ _; rw [add_block]; exact hn310_0) | exact hn310_0) (.int .i64 ((rd_T68 l0 x17_1).f0))).trans hx310_5; replace hx310_6 := (cell_far (p := ⟨gb309, 0, none⟩) (by first | (rw [add_block]; exact hn310_0) | (show (Addr.add _ _).block ≠ _; rw [add_block]; exact hn310_0) | exact hn310_0) (.int .i64 ((rd_T68 l0 x17_1).f0))).trans hx310_6; replace hx310_7 := (cell_far (p := ⟨gb309, 0, none⟩) (by first | (rw [add_block]; exact hn310_0) | (show (Addr.add _ _).block ≠ _; rw [add_block]; exact hn310_0) | exact hn310_0) (.int .i64 ((rd_T68 l0 x17_1).f0))).trans hx310_7; replace hx310_8 := (cell_far (p := ⟨gb309, 0, none⟩) (by first | (rw [add_block]; exact hn310_0) | (show (Addr.add _ _).block ≠ _; rw [add_block]; exact hn310_0) | exact hn310_0) (.int .i64 ((rd_T68 l0 x17_1).f0))).trans hx310_8; replace hx310_0 := (cell_far (p := ⟨gb309, 1, none⟩) (by first | (rw [add_block]; exact hn310_1) | (show (Addr.add _ _).block ≠ _; rw [add_block]; exact hn310_1) | exact hn310_1) (.int .i64 ((rd_T68 l0 x17_1).f1))).trans hx310_0; replace hx310_1 := (cell_far (p := ⟨gb309, 1, none⟩) (by first | (rw [add_block]; exact hn310_1) | (show (Addr.add _ _).block ≠ _; rw [add_block]; exact hn310_1) | exact hn310_1) (.int .i64 ((rd_T68 l0 x17_1).f1))).trans hx310_1; replace hx310_2 := (cell_far (p := ⟨gb309, 1, none⟩) (by first | (rw [add_block]; exact hn310_1) | (show (Addr.add _ _).block ≠ _; rw [add_block]; exact hn310_1) | exact hn310_1) (.int .i64 ((rd_T68 l0 x17_1).f1))).trans hx310_2; replace hx310_3 := (cell_far (p := ⟨gb309, 1, none⟩) (by first | (rw [add_block]; exact hn310_1) | (show (Addr.add _ _).block ≠ _; rw [add_block]; exact hn310_1) | exact hn310_1) (.int .i64 ((rd_T68 l0 x17_1).f1))).trans hx310_3; replace hx310_4 := (cell_far (p := ⟨gb309, 1, none⟩) (by first | (rw [add_block]; exact hn310_1) | (show (Addr.add _ _).block ≠ _; rw [add_block]; exact hn310_1) | exact hn310_1) (.int .i64 ((rd_T68 l0 x17_1).f1))).trans hx310_4; replace hx310_5 := (cell_far (p := ⟨gb309, 1, none⟩) (by first | (rw [add_block]; exact hn310_1) | (show (Addr.add _ _).block ≠ _; rw [add_block]; exact hn310_1) | exact hn310_1) (.int .i64 ((rd_T68 l0 x17_1).f1))).trans hx310_5; replace hx310_6 := (cell_far (p := ⟨gb309, 1, none⟩) (by first | (rw [add_block]; exact hn310_1) | (show (Addr.add _ _).block ≠ _; rw [add_block]; exact hn310_1) | exact hn310_1) (.int .i64 ((rd_T68 l0 x17_1).f1))).trans hx310_6; replace hx310_7 := (cell_far (p := ⟨gb309, 1, none⟩) (by first | (rw [add_block]; exact hn310_1) | (show (Addr.add _ _).block ≠ _; rw [add_block]; exact hn310_1) | exact hn310_1) (.int .i64 ((rd_T68 l0 x17_1).f1))).trans hx310_7; replace hx310_8 := (cell_far (p := ⟨gb309, 1, none⟩) (by first | (rw [add_block]; exact hn310_1) | (show (Addr.add _ _).block ≠ _; rw [add_block]; exact hn310_1) | exact hn310_1) (.int .i64 ((rd_T68 l0 x17_1).f1))).trans hx310_8; replace hx310_0 := (cell_far (p := ⟨gb309, 2, none⟩) (by first | (rw [add_block]; exact hn310_2) | (show (Addr.add _ _).block ≠ _; rw [add_block]; exact hn310_2) | exact hn310_2) (.int .i64 ((rd_T68 l0 x17_1).f2))).trans hx310_0; replace hx310_1 := (cell_far (p := ⟨gb309, 2, none⟩) (by first | (rw [add_block]; exact hn310_2) | (show (Addr.add _ _).block ≠ _; rw [add_block]; exact hn310_2) | exact hn310_2) (.int .i64 ((rd_T68 l0 x17_1).f2))).trans hx310_1; replace hx310_2 := (cell_far (p := ⟨gb309, 2, none⟩) (by first | (rw [add_block]; exact hn310_2) | (show (Addr.add _ _).block ≠ _; rw [add_block]; exact hn310_2) | exact hn310_2) (.int .i64 ((rd_T68 l0 x17_1).f2))).trans hx310_2; replace hx310_3 := (cell_far (p := ⟨gb309, 2, none⟩) (by first | (rw [add_block]; exact hn310_2) | (show (Addr.add _ _).block ≠ _; rw [add_block]; exact hn310_2) | exact hn310_2) (.int .i64 ((rd_T68 l0 x17_1).f2))).trans hx310_3; replace hx310_4 := (cell_far (p := ⟨gb309, 2, none⟩) (by first | (rw [add_block]; exact hn310_2) | (show (Addr.add _ _).block ≠ _; rw [add_block]; exact hn310_2) | exact hn310_2) (.int .i64 ((rd_T68 l0 x17_1).f2))).trans hx310_4; replace hx310_5 := (cell_far (p := ⟨gb309, 2, none⟩) (by first | (rw [add_block]; exact hn310_2) | (show (Addr.add _ _).block ≠ _; rw [add_block]; exact hn310_2) | exact hn310_2) (.int .i64 ((rd_T68 l0 x17_1).f2))).trans hx310_5; replace hx310_6 := (cell_far (p := ⟨gb309, 2, none⟩) (by first | (rw [add_block]; exact hn310_2) | (show (Addr.add _ _).block ≠ _; rw [add_block]; exact hn310_2) | exact hn310_2) (.int .i64 ((rd_T68 l0 x17_1).f2))).trans hx310_6; replace hx310_7 := (cell_far (p := ⟨gb309, 2, none⟩) (by first | (rw [add_block]; exact hn310_2) | (show (Addr.add _ _).block ≠ _; rw [add_block]; exact hn310_2) | exact hn310_2) (.int .i64 ((rd_T68 l0 x17_1).f2))).trans hx310_7; replace hx310_8 := (cell_far (p := ⟨gb309, 2, none⟩) (by first | (rw [add_block]; exact hn310_2) | (show (Addr.add _ _).block ≠ _; rw [add_block]; exact hn310_2) | exact hn310_2) (.int .i64 ((rd_T68 l0 x17_1).f2))).trans hx310_8; replace hx310_0 := (cell_far (p := ⟨gb309, 3, none⟩) (by first | (rw [add_block]; exact hn310_3) | (show (Addr.add _ _).block ≠ _; rw [add_block]; exact hn310_3) | exact hn310_3) (.int .i64 ((rd_T68 l0 x17_1).f3))).trans hx310_0; replace hx310_1 := (cell_far (p := ⟨gb309, 3, none⟩) (by first | (rw [add_block]; exact hn310_3) | (show (Addr.add _ _).block ≠ _; rw [add_block]; exact hn310_3) | exact hn310_3) (.int .i64 ((rd_T68 l0 x17_1).f3))).trans hx310_1; replace hx310_2 := (cell_far (p := ⟨gb309, 3, none⟩) (by first | (rw [add_block]; exact hn310_3) | (show (Addr.add _ _).block ≠ _; rw [add_block]; exact hn310_3) | exact hn310_3) (.int .i64 ((rd_T68 l0 x17_1).f3))).trans hx310_2; replace hx310_3 := (cell_far (p := ⟨gb309, 3, none⟩) (by first | (rw [add_block]; exact hn310_3) | (show (Addr.add _ _).block ≠ _; rw [add_block]; exact hn310_3) | exact hn310_3) (.int .i64 ((rd_T68 l0 x17_1).f3))).trans hx310_3; replace hx310_4 := (cell_far (p := ⟨gb309, 3, none⟩) (by first | (rw [add_block]; exact hn310_3) | (show (Addr.add _ _).block ≠ _; rw [add_block]; exact hn310_3) | exact hn310_3) (.int .i64 ((rd_T68 l0 x17_1).f3))).trans hx310_4; replace hx310_5 := (cell_far (p := ⟨gb309, 3, none⟩) (by first | (rw [add_block]; exact hn310_3) | (show (Addr.add _ _).block ≠ _; rw [add_block]; exact hn310_3) | exact hn310_3) (.int .i64 ((rd_T68 l0 x17_1).f3))).trans hx310_5; replace hx310_6 := (cell_far (p := ⟨gb309, 3, none⟩) (by first | (rw [add_block]; exact hn310_3) | (show (Addr.add _ _).block ≠ _; rw [add_block]; exact hn310_3) | exact hn310_3) (.int .i64 ((rd_T68 l0 x17_1).f3))).trans hx310_6; replace hx310_7 := (cell_far (p := ⟨gb309, 3, none⟩) (by first | (rw [add_block]; exact hn310_3) | (show (Addr.add _ _).block ≠ _; rw [add_block]; exact hn310_3) | exact hn310_3) (.int .i64 ((rd_T68 l0 x17_1).f3))).trans hx310_7; replace hx310_8 := (cell_far (p := ⟨gb309, 3, none⟩) (by first | (rw [add_block]; exact hn310_3) | (show (Addr.add _ _).block ≠ _; rw [add_block]; exact hn310_3) | exact hn310_3) (.int .i64 ((rd_T68 l0 x17_1).f3))).trans hx310_8; replace hx310_0 := (cell_far (p := ⟨gb309, 4, none⟩) (by first | (rw [add_block]; exact hn310_4) | (show (Addr.add _ _).block ≠ _; rw [add_block]; exact hn310_4) | exact hn310_4) (.int .i64 ((rd_T68 l0 x17_1).f4))).trans hx310_0; replace hx310_1 := (cell_far (p := ⟨gb309, 4, none⟩) (by first | (rw [add_block]; exact hn310_4) | (show (Addr.add _ _).block ≠ _; rw [add_block]; exact hn310_4) | exact hn310_4) (.int .i64 ((rd_T68 l0 x17_1).f4))).trans hx310_1; replace hx310_2 := (cell_far (p := ⟨gb309, 4, none⟩) (by first | (rw [add_block]; exact hn310_4) | (show (Addr.add _ _).block ≠ _; rw [add_block]; exact hn310_4) | exact hn310_4) (.int .i64 ((rd_T68 l0 x17_1).f4))).trans hx310_2; replace hx310_3 := (cell_far (p := ⟨gb309, 4, none⟩) (by first | (rw [add_block]; exact hn310_4) | (show (Addr.add _ _).block ≠ _; rw [add_block]; exact hn310_4) | exact hn310_4) (.int .i64 ((rd_T68 l0 x17_1).f4))).trans hx310_3; replace hx310_4 := (cell_far (p := ⟨gb309, 4, none⟩) (by first | (rw [add_block]; exact hn310_4) | (show (Addr.add _ _).block ≠ _; rw [add_block]; exact hn310_4) | exact hn310_4) (.int .i64 ((rd_T68 l0 x17_1).f4))).trans hx310_4; replace hx310_5 := (cell_far (p := ⟨gb309, 4, none⟩) (by first | (rw [add_block]; exact hn310_4) | (show (Addr.add _ _).block ≠ _; rw [add_block]; exact hn310_4) | exact hn310_4) (.int .i64 ((rd_T68 l0 x17_1).f4))).trans hx310_5; replace hx310_6 := (cell_far (p := ⟨gb309, 4, none⟩) (by first | (rw [add_block]; exact hn310_4) | (show (Addr.add _ _).block ≠ _; rw [add_block]; exact hn310_4) | exact hn310_4) (.int .i64 ((rd_T68 l0 x17_1).f4))).trans hx310_6; replace hx310_7 := (cell_far (p := ⟨gb309, 4, none⟩) (by first | (rw [add_block]; exact hn310_4) | (show (Addr.add _ _).block ≠ _; rw [add_block]; exact hn310_4) | exact hn310_4) (.int .i64 ((rd_T68 l0 x17_1).f4))).trans hx310_7; replace hx310_8 := (cell_far (p := ⟨gb309, 4, none⟩) (by first | (rw [add_block]; exact hn310_4) | (show (Addr.add _ _).block ≠ _; rw [add_block]; exact hn310_4) | exact hn310_4) (.int .i64 ((rd_T68 l0 x17_1).f4))).trans hx310_8; replace hx310_0 := (cell_far (p := ⟨gb309, 5, none⟩) (by first | (rw [add_block]; exact hn310_5) | (show (Addr.add _ _).block ≠ _; rw [add_block]; exact hn310_5) | exact hn310_5) (.int .i64 ((rd_T68 l0 x17_1).f5))).trans hx310_0; replace hx310_1 := (cell_far (p := ⟨gb309, 5, none⟩) (by first | (rw [add_block]; exact hn310_5) | (show (Addr.add _ _).block ≠ _; rw [add_block]; exact hn310_5) | exact hn310_5) (.int .i64 ((rd_T68 l0 x17_1).f5))).trans hx310_1; replace hx310_2 := (cell_far (p := ⟨gb309, 5, none⟩) (by first | (rw [add_block]; exact hn310_5) | (show (Addr.add _ _).block ≠ _; rw [add_block]; exact hn310_5) | exact hn310_5) (.int .i64 ((rd_T68 l0 x17_1).f5))).trans hx310_2; replace hx310_3 := (cell_far (p := ⟨gb309, 5, none⟩) (by first | (rw [add_block]; exact hn310_5) | (show (Addr.add _ _).block ≠ _; rw [add_block]; exact hn310_5) | exact hn310_5) (.int .i64 ((rd_T68 l0 x17_1).f5))).trans hx310_3; replace hx310_4 := (cell_far (p := ⟨gb309, 5, none⟩) (by first | (rw [add_block]; exact hn310_5) | (show (Addr.add _ _).block ≠ _; rw [add_block]; exact hn310_5) | exact hn310_5) (.int .i64 ((rd_T68 l0 x17_1).f5))).trans hx310_4; replace hx310_5 := (cell_far (p := ⟨gb309, 5, none⟩) (by first | (rw [add_block]; exact hn310_5) | (show (Addr.add _ _).block ≠ _; rw [add_block]; exact hn310_5) | exact hn310_5) (.int .i64 ((rd_T68 l0 x17_1).f5))).trans hx310_5; replace hx310_6 := (cell_far (p := ⟨gb309, 5, none⟩) (by first | (rw [add_block]; exact hn310_5) | (show (Addr.add _ _).block ≠ _; rw [add_block]; exact hn310_5) | exact hn310_5) (.int .i64 ((rd_T68 l0 x17_1).f5))).trans hx310_6; replace hx310_7 := (cell_far (p := ⟨gb309, 5, none⟩) (by first | (rw [add_block]; exact hn310_5) | (show (Addr.add _ _).block ≠ _; rw [add_block]; exact hn310_5) | exact hn310_5) (.int .i64 ((rd_T68 l0 x17_1).f5))).trans hx310_7; replace hx310_8 := (cell_far (p := ⟨gb309, 5, none⟩) (by first | (rw [add_block]; exact hn310_5) | (show (Addr.add _ _).block ≠ _; rw [add_block]; exact hn310_5) | exact hn310_5) (.int .i64 ((rd_T68 l0 x17_1).f5))).trans hx310_8; replace hx310_0 := (cell_far (p := ⟨gb309, 6, none⟩) (by first | (rw [add_block]; exact hn310_6) | (show (Addr.add _ _).block ≠ _; rw [add_block]; exact hn310_6) | exact hn310_6) (.int .i64 ((rd_T68 l0 x17_1).f6))).trans hx310_0; replace hx310_1 := (cell_far (p := ⟨gb309, 6, none⟩) (by first | (rw [add_block]; exact hn310_6) | (show (Addr.add _ _).block ≠ _; rw [add_block]; exact hn310_6) | exact hn310_6) (.int .i64 ((rd_T68 l0 x17_1).f6))).trans hx310_1; replace hx310_2 := (cell_far (p := ⟨gb309, 6, none⟩) (by first | (rw [add_block]; exact hn310_6) | (show (Addr.add _ _).block ≠ _; rw [add_block]; exact hn310_6) | exact hn310_6) (.int .i64 ((rd_T68 l0 x17_1).f6))).trans hx310_2; replace hx310_3 := (cell_far (p := ⟨gb309, 6, none⟩) (by first | (rw [add_block]; exact hn310_6) | (show (Addr.add _ _).block ≠ _; rw [add_block]; exact hn310_6) | exact hn310_6) (.int .i64 ((rd_T68 l0 x17_1).f6))).trans hx310_3; replace hx310_4 := (cell_far (p := ⟨gb309, 6, none⟩) (by first | (rw [add_block]; exact hn310_6) | (show (Addr.add _ _).block ≠ _; rw [add_block]; exact hn310_6) | exact hn310_6) (.int .i64 ((rd_T68 l0 x17_1).f6))).trans hx310_4; replace hx310_5 := (cell_far (p := ⟨gb309, 6, none⟩) (by first | (rw [add_block]; exact hn310_6) | (show (Addr.add _ _).block ≠ _; rw [add_block]; exact hn310_6) | exact hn310_6) (.int .i64 ((rd_T68 l0 x17_1).f6))).trans hx310_5; replace hx310_6 := (cell_far (p := ⟨gb309, 6, none⟩) (by first | (rw [add_block]; exact hn310_6) | (show (Addr.add _ _).block ≠ _; rw [add_block]; exact hn310_6) | exact hn310_6) (.int .i64 ((rd_T68 l0 x17_1).f6))).trans hx310_6; replace hx310_7 := (cell_far (p := ⟨gb309, 6, none⟩) (by first | (rw [add_block]; exact hn310_6) | (show (Addr.add _ _).block ≠ _; rw [add_block]; exact hn310_6) | exact hn310_6) (.int .i64 ((rd_T68 l0 x17_1).f6))).trans hx310_7; replace hx310_8 := (cell_far (p := ⟨gb309, 6, none⟩) (by first | (rw [add_block]; exact hn310_6) | (show (Addr.add _ _).block ≠ _; rw [add_block]; exact hn310_6) | exact hn310_6) (.int .i64 ((rd_T68 l0 x17_1).f6))).trans hx310_8; replace hx310_0 := (cell_far (p := ⟨gb309, 7, none⟩) (by first | (rw [add_block]; exact hn310_7) | (show (Addr.add _ _).block ≠ _; rw [add_block]; exact hn310_7) | exact hn310_7) (.slice A308_7 ((rd_T68 l0 x17_1).f7).length c308_7)).trans hx310_0; replace hx310_1 := (cell_far (p := ⟨gb309, 7, none⟩) (by first | (rw [add_block]; exact hn310_7) | (show (Addr.add _ _).block ≠ _; rw [add_block]; exact hn310_7) | exact hn310_7) (.slice A308_7 ((rd_T68 l0 x17_1).f7).length c308_7)).trans hx310_1; replace hx310_2 := (cell_far (p := ⟨gb309, 7, none⟩) (by first | (rw [add_block]; exact hn310_7) | (show (Addr.add _ _).block ≠ _; rw [add_block]; exact hn310_7) | exact hn310_7) (.slice A308_7 ((rd_T68 l0 x17_1).f7).length c308_7)).trans hx310_2; replace hx310_3 := (cell_far (p := ⟨gb309, 7, none⟩) (by first | (rw [add_block]; exact hn310_7) | (show (Addr.add _ _).block ≠ _; rw [add_block]; exact hn310_7) | exact hn310_7) (.slice A308_7 ((rd_T68 l0 x17_1).f7).length c308_7)).trans hx310_3; replace hx310_4 := (cell_far (p := ⟨gb309, 7, none⟩) (by first | (rw [add_block]; exact hn310_7) | (show (Addr.add _ _).block ≠ _; rw [add_block]; exact hn310_7) | exact hn310_7) (.slice A308_7 ((rd_T68 l0 x17_1).f7).length c308_7)).trans hx310_4; replace hx310_5 := (cell_far (p := ⟨gb309, 7, none⟩) (by first | (rw [add_block]; exact hn310_7) | (show (Addr.add _ _).block ≠ _; rw [add_block]; exact hn310_7) | exact hn310_7) (.slice A308_7 ((rd_T68 l0 x17_1).f7).length c308_7)).trans hx310_5; replace hx310_6 := (cell_far (p := ⟨gb309, 7, none⟩) (by first | (rw [add_block]; exact hn310_7) | (show (Addr.add _ _).block ≠ _; rw [add_block]; exact hn310_7) | exact hn310_7) (.slice A308_7 ((rd_T68 l0 x17_1).f7).length c308_7)).trans hx310_6; replace hx310_7 := (cell_far (p := ⟨gb309, 7, none⟩) (by first | (rw [add_block]; exact hn310_7) | (show (Addr.add _ _).block ≠ _; rw [add_block]; exact hn310_7) | exact hn310_7) (.slice A308_7 ((rd_T68 l0 x17_1).f7).length c308_7)).trans hx310_7; replace hx310_8 := (cell_far (p := ⟨gb309, 7, none⟩) (by first | (rw [add_block]; exact hn310_7) | (show (Addr.add _ _).block ≠ _; rw [add_block]; exact hn310_7) | exact hn310_7) (.slice A308_7 ((rd_T68 l0 x17_1).f7).length c308_7)).trans hx310_8; replace hx310_0 := (cell_far (p := ⟨gb309, 8, none⟩) (by first | (rw [add_block]; exact hn310_8) | (show (Addr.add _ _).block ≠ _; rw [add_block]; exact hn310_8) | exact hn310_8) (.slice A308_8 ((rd_T68 l0 x17_1).f8).length c308_8)).trans hx310_0; replace hx310_1 := (cell_far (p := ⟨gb309, 8, none⟩) (by first | (rw [add_block]; exact hn310_8) | (show (Addr.add _ _).block ≠ _; rw [add_block]; exact hn310_8) | exact hn310_8) (.slice A308_8 ((rd_T68 l0 x17_1).f8).length c308_8)).trans hx310_1; replace hx310_2 := (cell_far (p := ⟨gb309, 8, none⟩) (by first | (rw [add_block]; exact hn310_8) | (show (Addr.add _ _).block ≠ _; rw [add_block]; exact hn310_8) | exact hn310_8) (.slice A308_8 ((rd_T68 l0 x17_1).f8).length c308_8)).trans hx310_2; replace hx310_3 := (cell_far (p := ⟨gb309, 8, none⟩) (by first | (rw [add_block]; exact hn310_8) | (show (Addr.add _ _).block ≠ _; rw [add_block]; exact hn310_8) | exact hn310_8) (.slice A308_8 ((rd_T68 l0 x17_1).f8).length c308_8)).trans hx310_3; replace hx310_4 := (cell_far (p := ⟨gb309, 8, none⟩) (by first | (rw [add_block]; exact hn310_8) | (show (Addr.add _ _).block ≠ _; rw [add_block]; exact hn310_8) | exact hn310_8) (.slice A308_8 ((rd_T68 l0 x17_1).f8).length c308_8)).trans hx310_4; replace hx310_5 := (cell_far (p := ⟨gb309, 8, none⟩) (by first | (rw [add_block]; exact hn310_8) | (show (Addr.add _ _).block ≠ _; rw [add_block]; exact hn310_8) | exact hn310_8) (.slice A308_8 ((rd_T68 l0 x17_1).f8).length c308_8)).trans hx310_5; replace hx310_6 := (cell_far (p := ⟨gb309, 8, none⟩) (by first | (rw [add_block]; exact hn310_8) | (show (Addr.add _ _).block ≠ _; rw [add_block]; exact hn310_8) | exact hn310_8) (.slice A308_8 ((rd_T68 l0 x17_1).f8).length c308_8)).trans hx310_6; replace hx310_7 := (cell_far (p := ⟨gb309, 8, none⟩) (by first | (rw [add_block]; exact hn310_8) | (show (Addr.add _ _).block ≠ _; rw [add_block]; exact hn310_8) | exact hn310_8) (.slice A308_8 ((rd_T68 l0 x17_1).f8).length c308_8)).trans hx310_7; replace hx310_8 := (cell_far (p := ⟨gb309, 8, none⟩) (by first | (rw [add_block]; exact hn310_8) | (show (Addr.add _ _).block ≠ _; rw [add_block]; exact hn310_8) | exact hn310_8) (.slice A308_8 ((rd_T68 l0 x17_1).f8).length c308_8)).trans hx310_8; clear hn310_0; clear hn310_1; clear hn310_2; clear hn310_3; clear hn310_4; clear hn310_5; clear hn310_6; clear hn310_7; clear hn310_8; replace p310 := eq_true p310; replace q310 := eq_true q310) | ((with_reducible refine gate_dst (N := 9) rfl ?_); refine box_event ?hg (N := 9) ?hd (cs := #[.int .i64 0, .int .i64 0, .int .i64 0, .int .i64 0, .int .i64 0, .int .i64 0, .int .i64 0, .slice none 0 0, .slice none 0 0]) (t := 68) ?hr ?_; (case hd => rfl); (case hg => rfl); (case hr => first | (go_simp; done) | (go_simp; rfl)); intro gb311 hg w20 hbox hb; have BK311 := AM_ (hbox); have GW311 := AM_ ((GS HB.out hg)); have GE311 := AM_ ((GS HB.out hg)); replace HB := AM_ (below_step (BT HB.out) hb); have NB309_311 := AM_ ((by rw [hg]; exact Nat.ne_of_lt (blk_lt (g := gb309) (o := .cells #[.int .i64 ((rd_T68 l0 x17_1).f0), .int .i64 ((rd_T68 l0 x17_1).f1), .int .i64 ((rd_T68 l0 x17_1).f2), .int .i64 ((rd_T68 l0 x17_1).f3), .int .i64 ((rd_T68 l0 x17_1).f4), .int .i64 ((rd_T68 l0 x17_1).f5), .int .i64 ((rd_T68 l0 x17_1).f6), .slice A308_7 ((rd_T68 l0 x17_1).f7).length c308_7, .slice A308_8 ((rd_T68 l0 x17_1).f8).length c308_8] 68 (0, 0)) (by (with_reducible repeat (first | refine blk_drewN ?_ _ | refine blk_drew ?_ | refine blk_alloc ?_ _)); refine blk_put (cs := #[.int .i64 ((rd_T68 l0 x17_1).f0), .int .i64 ((rd_T68 l0 x17_1).f1), .int .i64 ((rd_T68 l0 x17_1).f2), .int .i64 ((rd_T68 l0 x17_1).f3), .int .i64 ((rd_T68 l0 x17_1).f4), .int .i64 ((rd_T68 l0 x17_1).f5), .int .i64 ((rd_T68 l0 x17_1).f6), .slice A308_7 ((rd_T68 l0 x17_1).f7).length c308_7, .slice none 0 0]) ?_ 8 _ rfl; (with_reducible repeat (first | refine blk_drewN ?_ _ | refine blk_drew ?_ | refine blk_alloc ?_ _)); refine blk_put (cs := #[.int .i64 ((rd_T68 l0 x17_1).f0), .int .i64 ((rd_T68 l0 x17_1).f1), .int .i64 ((rd_T68 l0 x17_1).f2), .int .i64 ((rd_T68 l0 x17_1).f3), .int .i64 ((rd_T68 l0 x17_1).f4), .int .i64 ((rd_T68 l0 x17_1).f5), .int .i64 ((rd_T68 l0 x17_1).f6), .slice none 0 0, .slice none 0 0]) ?_ 7 _ rfl; (with_reducible repeat (first | refine blk_drewN ?_ _ | refine blk_drew ?_ | refine blk_alloc ?_ _)); refine blk_put (cs := #[.int .i64 ((rd_T68 l0 x17_1).f0), .int .i64 ((rd_T68 l0 x17_1).f1), .int .i64 ((rd_T68 l0 x17_1).f2), .int .i64 ((rd_T68 l0 x17_1).f3), .int .i64 ((rd_T68 l0 x17_1).f4), .int .i64 ((rd_T68 l0 x17_1).f5), .int .i64 0, .slice none 0 0, .slice none 0 0]) ?_ 6 _ rfl; (with_reducible repeat (first | refine blk_drewN ?_ _ | refine blk_drew ?_ | refine blk_alloc ?_ _)); refine blk_put (cs := #[.int .i64 ((rd_T68 l0 x17_1).f0), .int .i64 ((rd_T68 l0 x17_1).f1), .int .i64 ((rd_T68 l0 x17_1).f2), .int .i64 ((rd_T68 l0 x17_1).f3), .int .i64 ((rd_T68 l0 x17_1).f4), .int .i64 0, .int .i64 0, .slice none 0 0, .slice none 0 0]) ?_ 5 _ rfl; (with_reducible repeat (first | refine blk_drewN ?_ _ | refine blk_drew ?_ | refine blk_alloc ?_ _)); refine blk_put (cs := #[.int .i64 ((rd_T68 l0 x17_1).f0), .int .i64 ((rd_T68 l0 x17_1).f1), .int .i64 ((rd_T68 l0 x17_1).f2), .int .i64 ((rd_T68 l0 x17_1).f3), .int .i64 0, .int .i64 0, .int .i64 0, .slice none 0 0, .slice none 0 0]) ?_ 4 _ rfl; (with_reducible repeat (first | refine blk_drewN ?_ _ | refine blk_drew ?_ | refine blk_alloc ?_ _)); refine blk_put (cs := #[.int .i64 ((rd_T68 l0 x17_1).f0), .int .i64 ((rd_T68 l0 x17_1).f1), .int .i64 ((rd_T68 l0 x17_1).f2), .int .i64 0, .int .i64 0, .int .i64 0, .int .i64 0, .slice none 0 0, .slice none 0 0]) ?_ 3 _ rfl; (with_reducible repeat (first | refine blk_drewN ?_ _ | refine blk_drew ?_ | refine blk_alloc ?_ _)); refine blk_put (cs := #[.int .i64 ((rd_T68 l0 x17_1).f0), .int .i64 ((rd_T68 l0 x17_1).f1), .int .i64 0, .int .i64 0, .int .i64 0, .int .i64 0, .int .i64 0, .slice none 0 0, .slice none 0 0]) ?_ 2 _ rfl; (with_reducible repeat (first | refine blk_drewN ?_ _ | refine blk_drew ?_ | refine blk_alloc ?_ _)); refine blk_put (cs := #[.int .i64 ((rd_T68 l0 x17_1).f0), .int .i64 0, .int .i64 0, .int .i64 0, .int .i64 0, .int .i64 0, .int .i64 0, .slice none 0 0, .slice none 0 0]) ?_ 1 _ rfl; (with_reducible repeat (first | refine blk_drewN ?_ _ | refine blk_drew ?_ | refine blk_alloc ?_ _)); refine blk_put (cs := #[.int .i64 0, .int .i64 0, .int .i64 0, .int .i64 0, .int .i64 0, .int .i64 0, .int .i64 0, .slice none 0 0, .slice none 0 0]) ?_ 0 _ rfl; (with_reducible repeat (first | refine blk_drewN ?_ _ | refine blk_drew ?_ | refine blk_alloc ?_ _)); exact BK309.out)) : gb309 ≠ gb311)); have NB311_309 := AM_ ((by rw [hg]; exact Nat.ne_of_gt (blk_lt (g := gb309) (o := .cells #[.int .i64 ((rd_T68 l0 x17_1).f0), .int .i64 ((rd_T68 l0 x17_1).f1), .int .i64 ((rd_T68 l0 x17_1).f2), .int .i64 ((rd_T68 l0 x17_1).f3), .int .i64 ((rd_T68 l0 x17_1).f4), .int .i64 ((rd_T68 l0 x17_1).f5), .int .i64 ((rd_T68 l0 x17_1).f6), .slice A308_7 ((rd_T68 l0 x17_1).f7).length c308_7, .slice A308_8 ((rd_T68 l0 x17_1).f8).length c308_8] 68 (0, 0)) (by (with_reducible repeat (first | refine blk_drewN ?_ _ | refine blk_drew ?_ | refine blk_alloc ?_ _)); refine blk_put (cs := #[.int .i64 ((rd_T68 l0 x17_1).f0), .int .i64 ((rd_T68 l0 x17_1).f1), .int .i64 ((rd_T68 l0 x17_1).f2), .int .i64 ((rd_T68 l0 x17_1).f3), .int .i64 ((rd_T68 l0 x17_1).f4), .int .i64 ((rd_T68 l0 x17_1).f5), .int .i64 ((rd_T68 l0 x17_1).f6), .slice A308_7 ((rd_T68 l0 x17_1).f7).length c308_7, .slice none 0 0]) ?_ 8 _ rfl; (with_reducible repeat (first | refine blk_drewN ?_ _ | refine blk_drew ?_ | refine blk_alloc ?_ _)); refine blk_put (cs := #[.int .i64 ((rd_T68 l0 x17_1).f0), .int .i64 ((rd_T68 l0 x17_1).f1), .int .i64 ((rd_T68 l0 x17_1).f2), .int .i64 ((rd_T68 l0 x17_1).f3), .int .i64 ((rd_T68 l0 x17_1).f4), .int .i64 ((rd_T68 l0 x17_1).f5), .int .i64 ((rd_T68 l0 x17_1).f6), .slice none 0 0, .slice none 0 0]) ?_ 7 _ rfl; (with_reducible repeat (first | refine blk_drewN ?_ _ | refine blk_drew ?_ | refine blk_alloc ?_ _)); refine blk_put (cs := #[.int .i64 ((rd_T68 l0 x17_1).f0), .int .i64 ((rd_T68 l0 x17_1).f1), .int .i64 ((rd_T68 l0 x17_1).f2), .int .i64 ((rd_T68 l0 x17_1).f3), .int .i64 ((rd_T68 l0 x17_1).f4), .int .i64 ((rd_T68 l0 x17_1).f5), .int .i64 0, .slice none 0 0, .slice none 0 0]) ?_ 6 _ rfl; (with_reducible repeat (first | refine blk_drewN ?_ _ | refine blk_drew ?_ | refine blk_alloc ?_ _)); refine blk_put (cs := #[.int .i64 ((rd_T68 l0 x17_1).f0), .int .i64 ((rd_T68 l0 x17_1).f1), .int .i64 ((rd_T68 l0 x17_1).f2), .int .i64 ((rd_T68 l0 x17_1).f3), .int .i64 ((rd_T68 l0 x17_1).f4), .int .i64 0, .int .i64 0, .slice none 0 0, .slice none 0 0]) ?_ 5 _ rfl; (with_reducible repeat (first | refine blk_drewN ?_ _ | refine blk_drew ?_ | refine blk_alloc ?_ _)); refine blk_put (cs := #[.int .i64 ((rd_T68 l0 x17_1).f0), .int .i64 ((rd_T68 l0 x17_1).f1), .int .i64 ((rd_T68 l0 x17_1).f2), .int .i64 ((rd_T68 l0 x17_1).f3), .int .i64 0, .int .i64 0, .int .i64 0, .slice none 0 0, .slice none 0 0]) ?_ 4 _ rfl; (with_reducible repeat (first | refine blk_drewN ?_ _ | refine blk_drew ?_ | refine blk_alloc ?_ _)); refine blk_put (cs := #[.int .i64 ((rd_T68 l0 x17_1).f0), .int .i64 ((rd_T68 l0 x17_1).f1), .int .i64 ((rd_T68 l0 x17_1).f2), .int .i64 0, .int .i64 0, .int .i64 0, .int .i64 0, .slice none 0 0, .slice none 0 0]) ?_ 3 _ rfl; (with_reducible repeat (first | refine blk_drewN ?_ _ | refine blk_drew ?_ | refine blk_alloc ?_ _)); refine blk_put (cs := #[.int .i64 ((rd_T68 l0 x17_1).f0), .int .i64 ((rd_T68 l0 x17_1).f1), .int .i64 0, .int .i64 0, .int .i64 0, .int .i64 0, .int .i64 0, .slice none 0 0, .slice none 0 0]) ?_ 2 _ rfl; (with_reducible repeat (first | refine blk_drewN ?_ _ | refine blk_drew ?_ | refine blk_alloc ?_ _)); refine blk_put (cs := #[.int .i64 ((rd_T68 l0 x17_1).f0), .int .i64 0, .int .i64 0, .int .i64 0, .int .i64 0, .int .i64 0, .int .i64 0, .slice none 0 0, .slice none 0 0]) ?_ 1 _ rfl; (with_reducible repeat (first | refine blk_drewN ?_ _ | refine blk_drew ?_ | refine blk_alloc ?_ _)); refine blk_put (cs := #[.int .i64 0, .int .i64 0, .int .i64 0, .int .i64 0, .int .i64 0, .int .i64 0, .int .i64 0, .slice none 0 0, .slice none 0 0]) ?_ 0 _ rfl; (with_reducible repeat (first | refine blk_drewN ?_ _ | refine blk_drew ?_ | refine blk_alloc ?_ _)); exact BK309.out)) : gb311 ≠ gb309)); replace BK309 := AM_ (blk_below (g := gb309) (o := .cells #[.int .i64 ((rd_T68 l0 x17_1).f0), .int .i64 ((rd_T68 l0 x17_1).f1), .int .i64 ((rd_T68 l0 x17_1).f2), .int .i64 ((rd_T68 l0 x17_1).f3), .int .i64 ((rd_T68 l0 x17_1).f4), .int .i64 ((rd_T68 l0 x17_1).f5), .int .i64 ((rd_T68 l0 x17_1).f6), .slice A308_7 ((rd_T68 l0 x17_1).f7).length c308_7, .slice A308_8 ((rd_T68 l0 x17_1).f8).length c308_8] 68 (0, 0)) (by (with_reducible repeat (first | refine blk_drewN ?_ _ | refine blk_drew ?_ | refine blk_alloc ?_ _)); refine blk_put (cs := #[.int .i64 ((rd_T68 l0 x17_1).f0), .int .i64 ((rd_T68 l0 x17_1).f1), .int .i64 ((rd_T68 l0 x17_1).f2), .int .i64 ((rd_T68 l0 x17_1).f3), .int .i64 ((rd_T68 l0 x17_1).f4), .int .i64 ((rd_T68 l0 x17_1).f5), .int .i64 ((rd_T68 l0 x17_1).f6), .slice A308_7 ((rd_T68 l0 x17_1).f7).length c308_7, .slice none 0 0]) ?_ 8 _ rfl; (with_reducible repeat (first | refine blk_drewN ?_ _ | refine blk_drew ?_ | refine blk_alloc ?_ _)); refine blk_put (cs := #[.int .i64 ((rd_T68 l0 x17_1).f0), .int .i64 ((rd_T68 l0 x17_1).f1), .int .i64 ((rd_T68 l0 x17_1).f2), .int .i64 ((rd_T68 l0 x17_1).f3), .int .i64 ((rd_T68 l0 x17_1).f4), .int .i64 ((rd_T68 l0 x17_1).f5), .int .i64 ((rd_T68 l0 x17_1).f6), .slice none 0 0, .slice none 0 0]) ?_ 7 _ rfl; (with_reducible repeat (first | refine blk_drewN ?_ _ | refine blk_drew ?_ | refine blk_alloc ?_ _)); refine blk_put (cs := #[.int .i64 ((rd_T68 l0 x17_1).f0), .int .i64 ((rd_T68 l0 x17_1).f1), .int .i64 ((rd_T68 l0 x17_1).f2), .int .i64 ((rd_T68 l0 x17_1).f3), .int .i64 ((rd_T68 l0 x17_1).f4), .int .i64 ((rd_T68 l0 x17_1).f5), .int .i64 0, .slice none 0 0, .slice none 0 0]) ?_ 6 _ rfl; (with_reducible repeat (first | refine blk_drewN ?_ _ | refine blk_drew ?_ | refine blk_alloc ?_ _)); refine blk_put (cs := #[.int .i64 ((rd_T68 l0 x17_1).f0), .int .i64 ((rd_T68 l0 x17_1).f1), .int .i64 ((rd_T68 l0 x17_1).f2), .int .i64 ((rd_T68 l0 x17_1).f3), .int .i64 ((rd_T68 l0 x17_1).f4), .int .i64 0, .int .i64 0, .slice none 0 0, .slice none 0 0]) ?_ 5 _ rfl; (with_reducible repeat (first | refine blk_drewN ?_ _ | refine blk_drew ?_ | refine blk_alloc ?_ _)); refine blk_put (cs := #[.int .i64 ((rd_T68 l0 x17_1).f0), .int .i64 ((rd_T68 l0 x17_1).f1), .int .i64 ((rd_T68 l0 x17_1).f2), .int .i64 ((rd_T68 l0 x17_1).f3), .int .i64 0, .int .i64 0, .int .i64 0, .slice none 0 0, .slice none 0 0]) ?_ 4 _ rfl; (with_reducible repeat (first | refine blk_drewN ?_ _ | refine blk_drew ?_ | refine blk_alloc ?_ _)); refine blk_put (cs := #[.int .i64 ((rd_T68 l0 x17_1).f0), .int .i64 ((rd_T68 l0 x17_1).f1), .int .i64 ((rd_T68 l0 x17_1).f2), .int .i64 0, .int .i64 0, .int .i64 0, .int .i64 0, .slice none 0 0, .slice none 0 0]) ?_ 3 _ rfl; (with_reducible repeat (first | refine blk_drewN ?_ _ | refine blk_drew ?_ | refine blk_alloc ?_ _)); refine blk_put (cs := #[.int .i64 ((rd_T68 l0 x17_1).f0), .int .i64 ((rd_T68 l0 x17_1).f1), .int .i64 0, .int .i64 0, .int .i64 0, .int .i64 0, .int .i64 0, .slice none 0 0, .slice none 0 0]) ?_ 2 _ rfl; (with_reducible repeat (first | refine blk_drewN ?_ _ | refine blk_drew ?_ | refine blk_alloc ?_ _)); refine blk_put (cs := #[.int .i64 ((rd_T68 l0 x17_1).f0), .int .i64 0, .int .i64 0, .int .i64 0, .int .i64 0, .int .i64 0, .int .i64 0, .slice none 0 0, .slice none 0 0]) ?_ 1 _ rfl; (with_reducible repeat (first | refine blk_drewN ?_ _ | refine blk_drew ?_ | refine blk_alloc ?_ _)); refine blk_put (cs := #[.int .i64 0, .int .i64 0, .int .i64 0, .int .i64 0, .int .i64 0, .int .i64 0, .int .i64 0, .slice none 0 0, .slice none 0 0]) ?_ 0 _ rfl; (with_reducible repeat (first | refine blk_drewN ?_ _ | refine blk_drew ?_ | refine blk_alloc ?_ _)); exact BK309.out) hb); clear hb hbox hg; have hnb21 := NB311_309.out; have hnc21 := NB309_311.out; obtain ⟨hcz22_0, hcz22_1, hcz22_2, hcz22_3, hcz22_4, hcz22_5, hcz22_6, hcz22_7, hcz22_8, hfz22_0, hfz22_1, hfz22_2, hfz22_3, hfz22_4, hfz22_5, hfz22_6, hfz22_7, hfz22_8⟩ := bk9 BK311.out; obtain ⟨hcz23_0, hcz23_1, hcz23_2, hcz23_3, hcz23_4, hcz23_5, hcz23_6, hcz23_7, hcz23_8, hfz23_0, hfz23_1, hfz23_2, hfz23_3, hfz23_4, hfz23_5, hfz23_6, hfz23_7, hfz23_8⟩ := bk9 BK309.out) | ((with_reducible refine gate_dst (N := 29) rfl ?_); refine goesF_ (some 29) rfl rfl Try.func126 (by kernel_rfl) rfl (lb := #[]) #[.agg #[.int .i64 ((rd_T68 l0 x17_1).f0), .int .i64 ((rd_T68 l0 x17_1).f1), .int .i64 ((rd_T68 l0 x17_1).f2), .int .i64 ((rd_T68 l0 x17_1).f3), .int .i64 ((rd_T68 l0 x17_1).f4), .int .i64 ((rd_T68 l0 x17_1).f5), .int .i64 ((rd_T68 l0 x17_1).f6), .slice A308_7 ((rd_T68 l0 x17_1).f7).length c308_7, .slice A308_8 ((rd_T68 l0 x17_1).f8).length c308_8], .agg #[.int .i64 ((rd_T68 l1 x17_1).f0), .int .i64 ((rd_T68 l1 x17_1).f1), .int .i64 ((rd_T68 l1 x17_1).f2), .int .i64 ((rd_T68 l1 x17_1).f3), .int .i64 ((rd_T68 l1 x17_1).f4), .int .i64 ((rd_T68 l1 x17_1).f5), .int .i64 ((rd_T68 l1 x17_1).f6), .slice A310_7 ((rd_T68 l1 x17_1).f7).length c310_7, .slice A310_8 ((rd_T68 l1 x17_1).f8).length c310_8]] rfl rfl (by (try simp only [List.map_toArray, List.map_cons, List.map_nil]); first | done | rfl) ?_; (with_reducible refine (impl_EqualTransactions.calls k1 ((rd_T68 l0 x17_1).f0) ((rd_T68 l0 x17_1).f1) ((rd_T68 l0 x17_1).f2) ((rd_T68 l0 x17_1).f3) ((rd_T68 l0 x17_1).f4) ((rd_T68 l0 x17_1).f5) ((rd_T68 l0 x17_1).f6) _ _ ((rd_T68 l0 x17_1).f7) _ _ ((rd_T68 l0 x17_1).f8) ((rd_T68 l1 x17_1).f0) ((rd_T68 l1 x17_1).f1) ((rd_T68 l1 x17_1).f2) ((rd_T68 l1 x17_1).f3) ((rd_T68 l1 x17_1).f4) ((rd_T68 l1 x17_1).f5) ((rd_T68 l1 x17_1).f6) _ _ ((rd_T68 l1 x17_1).f7) _ _ ((rd_T68 l1 x17_1).f8) false _ ?side1 ?side2 ?side3 ?side4 ?side5 ?side6 ?side7 ?side8 A9.out).mono ?_); (case side1 => exact Kd.C_below HR308_7.out (BT HB.out)); (case side2 => exact HC308_7.out); (case side3 => exact Kd.C_below HR308_8.out (BT HB.out)); (case side4 => exact HC308_8.out); (case side5 => exact Kd.C_below HR310_7.out (BT HB.out)); (case side6 => exact HC310_7.out); (case side7 => exact Kd.C_below HR310_8.out (BT HB.out)); (case side8 => exact HC310_8.out); rintro e w24 ⟨rfl, hb⟩; refine ⟨_, rfl, ?_⟩; replace BK309 := AM_ (blk_below (g := gb309) (o := .cells #[.int .i64 ((rd_T68 l0 x17_1).f0), .int .i64 ((rd_T68 l0 x17_1).f1), .int .i64 ((rd_T68 l0 x17_1).f2), .int .i64 ((rd_T68 l0 x17_1).f3), .int .i64 ((rd_T68 l0 x17_1).f4), .int .i64 ((rd_T68 l0 x17_1).f5), .int .i64 ((rd_T68 l0 x17_1).f6), .slice A308_7 ((rd_T68 l0 x17_1).f7).length c308_7, .slice A308_8 ((rd_T68 l0 x17_1).f8).length c308_8] 68 (0, 0)) (by (with_reducible repeat (first | refine blk_drewN ?_ _ | refine blk_drew ?_ | refine blk_alloc ?_ _)); refine blk_far ?_ NB309_311.out _; (with_reducible repeat (first | refine blk_drewN ?_ _ | refine blk_drew ?_ | refine blk_alloc ?_ _)); refine blk_far ?_ NB309_311.out _; (with_reducible repeat (first | refine blk_drewN ?_ _ | refine blk_drew ?_ | refine blk_alloc ?_ _)); refine blk_far ?_ NB309_311.out _; (with_reducible repeat (first | refine blk_drewN ?_ _ | refine blk_drew ?_ | refine blk_alloc ?_ _)); refine blk_far ?_ NB309_311.out _; (with_reducible repeat (first | refine blk_drewN ?_ _ | refine blk_drew ?_ | refine blk_alloc ?_ _)); refine blk_far ?_ NB309_311.out _; (with_reducible repeat (first | refine blk_drewN ?_ _ | refine blk_drew ?_ | refine blk_alloc ?_ _)); refine blk_far ?_ NB309_311.out _; (with_reducible repeat (first | refine blk_drewN ?_ _ | refine blk_drew ?_ | refine blk_alloc ?_ _)); refine blk_far ?_ NB309_311.out _; (with_reducible repeat (first | refine blk_drewN ?_ _ | refine blk_drew ?_ | refine blk_alloc ?_ _)); refine blk_far ?_ NB309_311.out _; (with_reducible repeat (first | refine blk_drewN ?_ _ | refine blk_drew ?_ | refine blk_alloc ?_ _)); refine blk_far ?_ NB309_311.out _; (with_reducible repeat (first | refine blk_drewN ?_ _ | refine blk_drew ?_ | refine blk_alloc ?_ _)); exact BK309.out) hb); replace BK311 := AM_ (blk_below (g := gb311) (o := .cells #[.int .i64 ((rd_T68 l1 x17_1).f0), .int .i64 ((rd_T68 l1 x17_1).f1), .int .i64 ((rd_T68 l1 x17_1).f2), .int .i64 ((rd_T68 l1 x17_1).f3), .int .i64 ((rd_T68 l1 x17_1).f4), .int .i64 ((rd_T68 l1 x17_1).f5), .int .i64 ((rd_T68 l1 x17_1).f6), .slice A310_7 ((rd_T68 l1 x17_1).f7).length c310_7, .slice A310_8 ((rd_T68 l1 x17_1).f8).length c310_8] 68 (0, 0)) (by (with_reducible repeat (first | refine blk_drewN ?_ _ | refine blk_drew ?_ | refine blk_alloc ?_ _)); refine blk_put (cs := #[.int .i64 ((rd_T68 l1 x17_1).f0), .int .i64 ((rd_T68 l1 x17_1).f1), .int .i64 ((rd_T68 l1 x17_1).f2), .int .i64 ((rd_T68 l1 x17_1).f3), .int .i64 ((rd_T68 l1 x17_1).f4), .int .i64 ((rd_T68 l1 x17_1).f5), .int .i64 ((rd_T68 l1 x17_1).f6), .slice A310_7 ((rd_T68 l1 x17_1).f7).length c310_7, .slice none 0 0]) ?_ 8 _ rfl; (with_reducible repeat (first | refine blk_drewN ?_ _ | refine blk_drew ?_ | refine blk_alloc ?_ _)); refine blk_put (cs := #[.int .i64 ((rd_T68 l1 x17_1).f0), .int .i64 ((rd_T68 l1 x17_1).f1), .int .i64 ((rd_T68 l1 x17_1).f2), .int .i64 ((rd_T68 l1 x17_1).f3), .int .i64 ((rd_T68 l1 x17_1).f4), .int .i64 ((rd_T68 l1 x17_1).f5), .int .i64 ((rd_T68 l1 x17_1).f6), .slice none 0 0, .slice none 0 0]) ?_ 7 _ rfl; (with_reducible repeat (first | refine blk_drewN ?_ _ | refine blk_drew ?_ | refine blk_alloc ?_ _)); refine blk_put (cs := #[.int .i64 ((rd_T68 l1 x17_1).f0), .int .i64 ((rd_T68 l1 x17_1).f1), .int .i64 ((rd_T68 l1 x17_1).f2), .int .i64 ((rd_T68 l1 x17_1).f3), .int .i64 ((rd_T68 l1 x17_1).f4), .int .i64 ((rd_T68 l1 x17_1).f5), .int .i64 0, .slice none 0 0, .slice none 0 0]) ?_ 6 _ rfl; (with_reducible repeat (first | refine blk_drewN ?_ _ | refine blk_drew ?_ | refine blk_alloc ?_ _)); refine blk_put (cs := #[.int .i64 ((rd_T68 l1 x17_1).f0), .int .i64 ((rd_T68 l1 x17_1).f1), .int .i64 ((rd_T68 l1 x17_1).f2), .int .i64 ((rd_T68 l1 x17_1).f3), .int .i64 ((rd_T68 l1 x17_1).f4), .int .i64 0, .int .i64 0, .slice none 0 0, .slice none 0 0]) ?_ 5 _ rfl; (with_reducible repeat (first | refine blk_drewN ?_ _ | refine blk_drew ?_ | refine blk_alloc ?_ _)); refine blk_put (cs := #[.int .i64 ((rd_T68 l1 x17_1).f0), .int .i64 ((rd_T68 l1 x17_1).f1), .int .i64 ((rd_T68 l1 x17_1).f2), .int .i64 ((rd_T68 l1 x17_1).f3), .int .i64 0, .int .i64 0, .int .i64 0, .slice none 0 0, .slice none 0 0]) ?_ 4 _ rfl; (with_reducible repeat (first | refine blk_drewN ?_ _ | refine blk_drew ?_ | refine blk_alloc ?_ _)); refine blk_put (cs := #[.int .i64 ((rd_T68 l1 x17_1).f0), .int .i64 ((rd_T68 l1 x17_1).f1), .int .i64 ((rd_T68 l1 x17_1).f2), .int .i64 0, .int .i64 0, .int .i64 0, .int .i64 0, .slice none 0 0, .slice none 0 0]) ?_ 3 _ rfl; (with_reducible repeat (first | refine blk_drewN ?_ _ | refine blk_drew ?_ | refine blk_alloc ?_ _)); refine blk_put (cs := #[.int .i64 ((rd_T68 l1 x17_1).f0), .int .i64 ((rd_T68 l1 x17_1).f1), .int .i64 0, .int .i64 0, .int .i64 0, .int .i64 0, .int .i64 0, .slice none 0 0, .slice none 0 0]) ?_ 2 _ rfl; (with_reducible repeat (first | refine blk_drewN ?_ _ | refine blk_drew ?_ | refine blk_alloc ?_ _)); refine blk_put (cs := #[.int .i64 ((rd_T68 l1 x17_1).f0), .int .i64 0, .int .i64 0, .int .i64 0, .int .i64 0, .int .i64 0, .int .i64 0, .slice none 0 0, .slice none 0 0]) ?_ 1 _ rfl; (with_reducible repeat (first | refine blk_drewN ?_ _ | refine blk_drew ?_ | refine blk_alloc ?_ _)); refine blk_put (cs := #[.int .i64 0, .int .i64 0, .int .i64 0, .int .i64 0, .int .i64 0, .int .i64 0, .int .i64 0, .slice none 0 0, .slice none 0 0]) ?_ 0 _ rfl; (with_reducible repeat (first | refine blk_drewN ?_ _ | refine blk_drew ?_ | refine blk_alloc ?_ _)); exact BK311.out) hb); replace HB := AM_ (below_step (BT HB.out) hb); (try clear hb); (try clear hb2); (try clear hk); (try clear hi)))
    go_ret
    exact QT (BT HB.out)
   subst c10
   have H1 : (impl_Transaction.l0 k1 l1 l0 (l0.length : Int) (wrap64 (x17_1 + 1))) = some r := by rw [if_pos rfl] at H; exact H
   clear H
   have H := H1
   clear H1
   have H' := AM_ H
   clear H
   have p308 : 0 ≤ (x17_1 : Int) := DT
   have q308 : x17_1 < (l0.length : Int) := DT
   obtain ⟨ad308, A308_7, c308_7, A308_8, c308_8, e308, hx308_0, hx308_1, hx308_2, hx308_3, hx308_4, hx308_5, hx308_6, hx308_7, hx308_8, hl308_7, hi308_7, hl308_8, hi308_8⟩ := at_T68 HR0.out x17_1 p308 q308
   cases e308
   replace hx308_0 := BC HB.out hx308_0
   replace hx308_1 := BC HB.out hx308_1
   replace hx308_2 := BC HB.out hx308_2
   replace hx308_3 := BC HB.out hx308_3
   replace hx308_4 := BC HB.out hx308_4
   replace hx308_5 := BC HB.out hx308_5
   replace hx308_6 := BC HB.out hx308_6
   replace hx308_7 := BC HB.out hx308_7
   replace hx308_8 := BC HB.out hx308_8
   have HR308_7 := AM_ hi308_7
   have HC308_7 := AM_ hl308_7
   clear hi308_7 hl308_7
   have HR308_8 := AM_ hi308_8
   have HC308_8 := AM_ hl308_8
   clear hi308_8 hl308_8
   replace p308 := eq_true p308
   replace q308 := eq_true q308
   go_wp2_with (first | ((with_reducible refine gate_dst (N := 8) rfl ?_); refine box_event ?hg (N := 8) ?hd (cs := #[.int .i64 0, .int .i64 0, .int .i64 0, .int .i64 0, .int .i64 0, .int .i64 0, .int .i64 0, .slice none 0 0, .slice none 0 0]) (t := 68) ?hr ?_; (case hd => rfl); (case hg => rfl); (case hr => first | (go_simp; done) | (go_simp; rfl)); intro gb309 hg w11 hbox hb; have BK309 := AM_ (hbox); have GW309 := AM_ ((GS HB.out hg)); have GE309 := AM_ ((GS HB.out hg)); replace HB := AM_ (below_step (BT HB.out) hb); clear hb hbox hg; obtain ⟨hcz12_0, hcz12_1, hcz12_2, hcz12_3, hcz12_4, hcz12_5, hcz12_6, hcz12_7, hcz12_8, hfz12_0, hfz12_1, hfz12_2, hfz12_3, hfz12_4, hfz12_5, hfz12_6, hfz12_7, hfz12_8⟩ := bk9 BK309.out; have p310 : 0 ≤ (x17_1 : Int) := DT; have q310 : x17_1 < (l1.length : Int) := DT; obtain ⟨ad310, A310_7, c310_7, A310_8, c310_8, e310, hx310_0, hx310_1, hx310_2, hx310_3, hx310_4, hx310_5, hx310_6, hx310_7, hx310_8, hl310_7, hi310_7, hl310_8, hi310_8⟩ := at_T68 HR1.out x17_1 p310 q310; cases e310; have hn310_0 : ad310.block ≠ gb309 := Nat.ne_of_lt (Nat.lt_of_lt_of_le (by have := World.block_lt_of_cell? _ _ hx310_0; first | rwa [add_block] at this | exact this) GW309.out); have hn310_1 : ad310.block ≠ gb309 := Nat.ne_of_lt (Nat.lt_of_lt_of_le (by have := World.block_lt_of_cell? _ _ hx310_0; first | rwa [add_block] at this | exact this) GW309.out); have hn310_2 : ad310.block ≠ gb309 := Nat.ne_of_lt (Nat.lt_of_lt_of_le (by have := World.block_lt_of_cell? _ _ hx310_0; first | rwa [add_block] at this | exact this) GW309.out); have hn310_3 : ad310.block ≠ gb309 := Nat.ne_of_lt (Nat.lt_of_lt_of_le (by have := World.block_lt_of_cell? _ _ hx310_0; first | rwa [add_block] at this | exact this) GW309.out); have hn310_4 : ad310.block ≠ gb309 := Nat.ne_of_lt (Nat.lt_of_lt_of_le (by have := World.block_lt_of_cell? _ _ hx310_0; first | rwa [add_block] at this | exact this) GW309.out); have hn310_5 : ad310.block ≠ gb309 := Nat.ne_of_lt (Nat.lt_of_lt_of_le (by have := World.block_lt_of_cell? _ _ hx310_0; first | rwa [add_block] at this | exact this) GW309.out); have hn310_6 : ad310.block ≠ gb309 := Nat.ne_of_lt (Nat.lt_of_lt_of_le (by have := World.block_lt_of_cell? _ _ hx310_0; first | rwa [add_block] at this | exact this) GW309.out); have hn310_7 : ad310.block ≠ gb309 := Nat.ne_of_lt (Nat.lt_of_lt_of_le (by have := World.block_lt_of_cell? _ _ hx310_0; first | rwa [add_block] at this | exact this) GW309.out); have hn310_8 : ad310.block ≠ gb309 := Nat.ne_of_lt (Nat.lt_of_lt_of_le (by have := World.block_lt_of_cell? _ _ hx310_0; first | rwa [add_block] at this | exact this) GW309.out); replace hx310_0 := BD HB.out hx310_0; replace hx310_1 := BD HB.out hx310_1; replace hx310_2 := BD HB.out hx310_2; replace hx310_3 := BD HB.out hx310_3; replace hx310_4 := BD HB.out hx310_4; replace hx310_5 := BD HB.out hx310_5; replace hx310_6 := BD HB.out hx310_6; replace hx310_7 := BD HB.out hx310_7; replace hx310_8 := BD HB.out hx310_8; have HR310_7 := AM_ hi310_7; have HC310_7 := AM_ hl310_7; clear hi310_7 hl310_7; have HR310_8 := AM_ hi310_8; have HC310_8 := AM_ hl310_8; clear hi310_8 hl310_8; replace hx310_0 := (cell_far (p := ⟨gb309, 0, none⟩) (by first | (rw [add_block]; exact hn310_0) | (show (Addr.add _ _).block ≠ _; rw [add_block]; exact hn310_0) | exact hn310_0) (.int .i64 ((rd_T68 l0 x17_1).f0))).trans hx310_0; replace hx310_1 := (cell_far (p := ⟨gb309, 0, none⟩) (by first | (rw [add_block]; exact hn310_0) | (show (Addr.add _ _).block ≠ _; rw [add_block]; exact hn310_0) | exact hn310_0) (.int .i64 ((rd_T68 l0 x17_1).f0))).trans hx310_1; replace hx310_2 := (cell_far (p := ⟨gb309, 0, none⟩) (by first | (rw [add_block]; exact hn310_0) | (show (Addr.add _ _).block ≠ _; rw [add_block]; exact hn310_0) | exact hn310_0) (.int .i64 ((rd_T68 l0 x17_1).f0))).trans hx310_2; replace hx310_3 := (cell_far (p := ⟨gb309, 0, none⟩) (by first | (rw [add_block]; exact hn310_0) | (show (Addr.add _ _).block ≠ _; rw [add_block]; exact hn310_0) | exact hn310_0) (.int .i64 ((rd_T68 l0 x17_1).f0))).trans hx310_3; replace hx310_4 := (cell_far (p := ⟨gb309, 0, none⟩) (by first | (rw [add_block]; exact hn310_0) | (show (Addr.add _ _).block ≠ _; rw [add_block]; exact hn310_0) | exact hn310_0) (.int .i64 ((rd_T68 l0 x17_1).f0))).trans hx310_4; replace hx310_5 := (cell_far (p := ⟨gb309, 0, none⟩) (by first | (rw [add_block]; exact hn310_0) | (show (Addr.add _ _).block ≠ _; rw [add_block]; exact hn310_0) | exact hn310_0) (.int .i64 ((rd_T68 l0 x17_1).f0))).trans hx310_5; replace hx310_6 := (cell_far (p := ⟨gb309, 0, none⟩) (by first | (rw [add_block]; exact hn310_0) | (show (Addr.add _ _).block ≠ _; rw [add_block]; exact hn310_0) | exact hn310_0) (.int .i64 ((rd_T68 l0 x17_1).f0))).trans hx310_6; replace hx310_7 := (cell_far (p := ⟨gb309, 0, none⟩) (by first | (rw [add_block]; exact hn310_0) | (show (Addr.add _ _).block ≠ _; rw [add_block]; exact hn310_0) | exact hn310_0) (.int .i64 ((rd_T68 l0 x17_1).f0))).trans hx310_7; replace hx310_8 := (cell_far (p := ⟨gb309, 0, none⟩) (by first | (rw [add_block]; exact hn310_0) | (show (Addr.add _ _).block ≠ _; rw [add_block]; exact hn310_0) | exact hn310_0) (.int .i64 ((rd_T68 l0 x17_1).f0))).trans hx310_8; replace hx310_0 := (cell_far (p := ⟨gb309, 1, none⟩) (by first | (rw [add_block]; exact hn310_1) | (show (Addr.add _ _).block ≠ _; rw [add_block]; exact hn310_1) | exact hn310_1) (.int .i64 ((rd_T68 l0 x17_1).f1))).trans hx310_0; replace hx310_1 := (cell_far (p := ⟨gb309, 1, none⟩) (by first | (rw [add_block]; exact hn310_1) | (show (Addr.add _ _).block ≠ _; rw [add_block]; exact hn310_1) | exact hn310_1) (.int .i64 ((rd_T68 l0 x17_1).f1))).trans hx310_1; replace hx310_2 := (cell_far (p := ⟨gb309, 1, none⟩) (by first | (rw [add_block]; exact hn310_1) | (show (Addr.add _ _).block ≠ _; rw [add_block]; exact hn310_1) | exact hn310_1) (.int .i64 ((rd_T68 l0 x17_1).f1))).trans hx310_2; replace hx310_3 := (cell_far (p := ⟨gb309, 1, none⟩) (by first | (rw [add_block]; exact hn310_1) | (show (Addr.add _ _).block ≠ _; rw [add_block]; exact hn310_1) | exact hn310_1) (.int .i64 ((rd_T68 l0 x17_1).f1))).trans hx310_3; replace hx310_4 := (cell_far (p := ⟨gb309, 1, none⟩) (by first | (rw [add_block]; exact hn310_1) | (show (Addr.add _ _).block ≠ _; rw [add_block]; exact hn310_1) | exact hn310_1) (.int .i64 ((rd_T68 l0 x17_1).f1))).trans hx310_4; replace hx310_5 := (cell_far (p := ⟨gb309, 1, none⟩) (by first | (rw [add_block]; exact hn310_1) | (show (Addr.add _ _).block ≠ _; rw [add_block]; exact hn310_1) | exact hn310_1) (.int .i64 ((rd_T68 l0 x17_1).f1))).trans hx310_5; replace hx310_6 := (cell_far (p := ⟨gb309, 1, none⟩) (by first | (rw [add_block]; exact hn310_1) | (show (Addr.add _ _).block ≠ _; rw [add_block]; exact hn310_1) | exact hn310_1) (.int .i64 ((rd_T68 l0 x17_1).f1))).trans hx310_6; replace hx310_7 := (cell_far (p := ⟨gb309, 1, none⟩) (by first | (rw [add_block]; exact hn310_1) | (show (Addr.add _ _).block ≠ _; rw [add_block]; exact hn310_1) | exact hn310_1) (.int .i64 ((rd_T68 l0 x17_1).f1))).trans hx310_7; replace hx310_8 := (cell_far (p := ⟨gb309, 1, none⟩) (by first | (rw [add_block]; exact hn310_1) | (show (Addr.add _ _).block ≠ _; rw [add_block]; exact hn310_1) | exact hn310_1) (.int .i64 ((rd_T68 l0 x17_1).f1))).trans hx310_8; replace hx310_0 := (cell_far (p := ⟨gb309, 2, none⟩) (by first | (rw [add_block]; exact hn310_2) | (show (Addr.add _ _).block ≠ _; rw [add_block]; exact hn310_2) | exact hn310_2) (.int .i64 ((rd_T68 l0 x17_1).f2))).trans hx310_0; replace hx310_1 := (cell_far (p := ⟨gb309, 2, none⟩) (by first | (rw [add_block]; exact hn310_2) | (show (Addr.add _ _).block ≠ _; rw [add_block]; exact hn310_2) | exact hn310_2) (.int .i64 ((rd_T68 l0 x17_1).f2))).trans hx310_1; replace hx310_2 := (cell_far (p := ⟨gb309, 2, none⟩) (by first | (rw [add_block]; exact hn310_2) | (show (Addr.add _ _).block ≠ _; rw [add_block]; exact hn310_2) | exact hn310_2) (.int .i64 ((rd_T68 l0 x17_1).f2))).trans hx310_2; replace hx310_3 := (cell_far (p := ⟨gb309, 2, none⟩) (by first | (rw [add_block]; exact hn310_2) | (show (Addr.add _ _).block ≠ _; rw [add_block]; exact hn310_2) | exact hn310_2) (.int .i64 ((rd_T68 l0 x17_1).f2))).trans hx310_3; replace hx310_4 := (cell_far (p := ⟨gb309, 2, none⟩) (by first | (rw [add_block]; exact hn310_2) | (show (Addr.add _ _).block ≠ _; rw [add_block]; exact hn310_2) | exact hn310_2) (.int .i64 ((rd_T68 l0 x17_1).f2))).trans hx310_4; replace hx310_5 := (cell_far (p := ⟨gb309, 2, none⟩) (by first | (rw [add_block]; exact hn310_2) | (show (Addr.add _ _).block ≠ _; rw [add_block]; exact hn310_2) | exact hn310_2) (.int .i64 ((rd_T68 l0 x17_1).f2))).trans hx310_5; replace hx310_6 := (cell_far (p := ⟨gb309, 2, none⟩) (by first | (rw [add_block]; exact hn310_2) | (show (Addr.add _ _).block ≠ _; rw [add_block]; exact hn310_2) | exact hn310_2) (.int .i64 ((rd_T68 l0 x17_1).f2))).trans hx310_6; replace hx310_7 := (cell_far (p := ⟨gb309, 2, none⟩) (by first | (rw [add_block]; exact hn310_2) | (show (Addr.add _ _).block ≠ _; rw [add_block]; exact hn310_2) | exact hn310_2) (.int .i64 ((rd_T68 l0 x17_1).f2))).trans hx310_7; replace hx310_8 := (cell_far (p := ⟨gb309, 2, none⟩) (by first | (rw [add_block]; exact hn310_2) | (show (Addr.add _ _).block ≠ _; rw [add_block]; exact hn310_2) | exact hn310_2) (.int .i64 ((rd_T68 l0 x17_1).f2))).trans hx310_8; replace hx310_0 := (cell_far (p := ⟨gb309, 3, none⟩) (by first | (rw [add_block]; exact hn310_3) | (show (Addr.add _ _).block ≠ _; rw [add_block]; exact hn310_3) | exact hn310_3) (.int .i64 ((rd_T68 l0 x17_1).f3))).trans hx310_0; replace hx310_1 := (cell_far (p := ⟨gb309, 3, none⟩) (by first | (rw [add_block]; exact hn310_3) | (show (Addr.add _ _).block ≠ _; rw [add_block]; exact hn310_3) | exact hn310_3) (.int .i64 ((rd_T68 l0 x17_1).f3))).trans hx310_1; replace hx310_2 := (cell_far (p := ⟨gb309, 3, none⟩) (by first | (rw [add_block]; exact hn310_3) | (show (Addr.add _ _).block ≠ _; rw [add_block]; exact hn310_3) | exact hn310_3) (.int .i64 ((rd_T68 l0 x17_1).f3))).trans hx310_2; replace hx310_3 := (cell_far (p := ⟨gb309, 3, none⟩) (by first | (rw [add_block]; exact hn310_3) | (show (Addr.add _ _).block ≠ _; rw [add_block]; exact hn310_3) | exact hn310_3) (.int .i64 ((rd_T68 l0 x17_1).f3))).trans hx310_3; replace hx310_4 := (cell_far (p := ⟨gb309, 3, none⟩) (by first | (rw [add_block]; exact hn310_3) | (show (Addr.add _ _).block ≠ _; rw [add_block]; exact hn310_3) | exact hn310_3) (.int .i64 ((rd_T68 l0 x17_1).f3))).trans hx310_4; replace hx310_5 := (cell_far (p := ⟨gb309, 3, none⟩) (by first | (rw [add_block]; exact hn310_3) | (show (Addr.add _ _).block ≠ _; rw [add_block]; exact hn310_3) | exact hn310_3) (.int .i64 ((rd_T68 l0 x17_1).f3))).trans hx310_5; replace hx310_6 := (cell_far (p := ⟨gb309, 3, none⟩) (by first | (rw [add_block]; exact hn310_3) | (show (Addr.add _ _).block ≠ _; rw [add_block]; exact hn310_3) | exact hn310_3) (.int .i64 ((rd_T68 l0 x17_1).f3))).trans hx310_6; replace hx310_7 := (cell_far (p := ⟨gb309, 3, none⟩) (by first | (rw [add_block]; exact hn310_3) | (show (Addr.add _ _).block ≠ _; rw [add_block]; exact hn310_3) | exact hn310_3) (.int .i64 ((rd_T68 l0 x17_1).f3))).trans hx310_7; replace hx310_8 := (cell_far (p := ⟨gb309, 3, none⟩) (by first | (rw [add_block]; exact hn310_3) | (show (Addr.add _ _).block ≠ _; rw [add_block]; exact hn310_3) | exact hn310_3) (.int .i64 ((rd_T68 l0 x17_1).f3))).trans hx310_8; replace hx310_0 := (cell_far (p := ⟨gb309, 4, none⟩) (by first | (rw [add_block]; exact hn310_4) | (show (Addr.add _ _).block ≠ _; rw [add_block]; exact hn310_4) | exact hn310_4) (.int .i64 ((rd_T68 l0 x17_1).f4))).trans hx310_0; replace hx310_1 := (cell_far (p := ⟨gb309, 4, none⟩) (by first | (rw [add_block]; exact hn310_4) | (show (Addr.add _ _).block ≠ _; rw [add_block]; exact hn310_4) | exact hn310_4) (.int .i64 ((rd_T68 l0 x17_1).f4))).trans hx310_1; replace hx310_2 := (cell_far (p := ⟨gb309, 4, none⟩) (by first | (rw [add_block]; exact hn310_4) | (show (Addr.add _ _).block ≠ _; rw [add_block]; exact hn310_4) | exact hn310_4) (.int .i64 ((rd_T68 l0 x17_1).f4))).trans hx310_2; replace hx310_3 := (cell_far (p := ⟨gb309, 4, none⟩) (by first | (rw [add_block]; exact hn310_4) | (show (Addr.add _ _).block ≠ _; rw [add_block]; exact hn310_4) | exact hn310_4) (.int .i64 ((rd_T68 l0 x17_1).f4))).trans hx310_3; replace hx310_4 := (cell_far (p := ⟨gb309, 4, none⟩) (by first | (rw [add_block]; exact hn310_4) | (show (Addr.add _ _).block ≠ _; rw [add_block]; exact hn310_4) | exact hn310_4) (.int .i64 ((rd_T68 l0 x17_1).f4))).trans hx310_4; replace hx310_5 := (cell_far (p := ⟨gb309, 4, none⟩) (by first | (rw [add_block]; exact hn310_4) | (show (Addr.add _ _).block ≠ _; rw [add_block]; exact hn310_4) | exact hn310_4) (.int .i64 ((rd_T68 l0 x17_1).f4))).trans hx310_5; replace hx310_6 := (cell_far (p := ⟨gb309, 4, none⟩) (by first | (rw [add_block]; exact hn310_4) | (show (Addr.add _ _).block ≠ _; rw [add_block]; exact hn310_4) | exact hn310_4) (.int .i64 ((rd_T68 l0 x17_1).f4))).trans hx310_6; replace hx310_7 := (cell_far (p := ⟨gb309, 4, none⟩) (by first | (rw [add_block]; exact hn310_4) | (show (Addr.add _ _).block ≠ _; rw [add_block]; exact hn310_4) | exact hn310_4) (.int .i64 ((rd_T68 l0 x17_1).f4))).trans hx310_7; replace hx310_8 := (cell_far (p := ⟨gb309, 4, none⟩) (by first | (rw [add_block]; exact hn310_4) | (show (Addr.add _ _).block ≠ _; rw [add_block]; exact hn310_4) | exact hn310_4) (.int .i64 ((rd_T68 l0 x17_1).f4))).trans hx310_8; replace hx310_0 := (cell_far (p := ⟨gb309, 5, none⟩) (by first | (rw [add_block]; exact hn310_5) | (show (Addr.add _ _).block ≠ _; rw [add_block]; exact hn310_5) | exact hn310_5) (.int .i64 ((rd_T68 l0 x17_1).f5))).trans hx310_0; replace hx310_1 := (cell_far (p := ⟨gb309, 5, none⟩) (by first | (rw [add_block]; exact hn310_5) | (show (Addr.add _ _).block ≠ _; rw [add_block]; exact hn310_5) | exact hn310_5) (.int .i64 ((rd_T68 l0 x17_1).f5))).trans hx310_1; replace hx310_2 := (cell_far (p := ⟨gb309, 5, none⟩) (by first | (rw [add_block]; exact hn310_5) | (show (Addr.add _ _).block ≠ _; rw [add_block]; exact hn310_5) | exact hn310_5) (.int .i64 ((rd_T68 l0 x17_1).f5))).trans hx310_2; replace hx310_3 := (cell_far (p := ⟨gb309, 5, none⟩) (by first | (rw [add_block]; exact hn310_5) | (show (Addr.add _ _).block ≠ _; rw [add_block]; exact hn310_5) | exact hn310_5) (.int .i64 ((rd_T68 l0 x17_1).f5))).trans hx310_3; replace hx310_4 := (cell_far (p := ⟨gb309, 5, none⟩) (by first | (rw [add_block]; exact hn310_5) | (show (Addr.add _ _).block ≠ _; rw [add_block]; exact hn310_5) | exact hn310_5) (.int .i64 ((rd_T68 l0 x17_1).f5))).trans hx310_4; replace hx310_5 := (cell_far (p := ⟨gb309, 5, none⟩) (by first | (rw [add_block]; exact hn310_5) | (show (Addr.add _ _).block ≠ _; rw [add_block]; exact hn310_5) | exact hn310_5) (.int .i64 ((rd_T68 l0 x17_1).f5))).trans hx310_5; replace hx310_6 := (cell_far (p := ⟨gb309, 5, none⟩) (by first | (rw [add_block]; exact hn310_5) | (show (Addr.add _ _).block ≠ _; rw [add_block]; exact hn310_5) | exact hn310_5) (.int .i64 ((rd_T68 l0 x17_1).f5))).trans hx310_6; replace hx310_7 := (cell_far (p := ⟨gb309, 5, none⟩) (by first | (rw [add_block]; exact hn310_5) | (show (Addr.add _ _).block ≠ _; rw [add_block]; exact hn310_5) | exact hn310_5) (.int .i64 ((rd_T68 l0 x17_1).f5))).trans hx310_7; replace hx310_8 := (cell_far (p := ⟨gb309, 5, none⟩) (by first | (rw [add_block]; exact hn310_5) | (show (Addr.add _ _).block ≠ _; rw [add_block]; exact hn310_5) | exact hn310_5) (.int .i64 ((rd_T68 l0 x17_1).f5))).trans hx310_8; replace hx310_0 := (cell_far (p := ⟨gb309, 6, none⟩) (by first | (rw [add_block]; exact hn310_6) | (show (Addr.add _ _).block ≠ _; rw [add_block]; exact hn310_6) | exact hn310_6) (.int .i64 ((rd_T68 l0 x17_1).f6))).trans hx310_0; replace hx310_1 := (cell_far (p := ⟨gb309, 6, none⟩) (by first | (rw [add_block]; exact hn310_6) | (show (Addr.add _ _).block ≠ _; rw [add_block]; exact hn310_6) | exact hn310_6) (.int .i64 ((rd_T68 l0 x17_1).f6))).trans hx310_1; replace hx310_2 := (cell_far (p := ⟨gb309, 6, none⟩) (by first | (rw [add_block]; exact hn310_6) | (show (Addr.add _ _).block ≠ _; rw [add_block]; exact hn310_6) | exact hn310_6) (.int .i64 ((rd_T68 l0 x17_1).f6))).trans hx310_2; replace hx310_3 := (cell_far (p := ⟨gb309, 6, none⟩) (by first | (rw [add_block]; exact hn310_6) | (show (Addr.add _ _).block ≠ _; rw [add_block]; exact hn310_6) | exact hn310_6) (.int .i64 ((rd_T68 l0 x17_1).f6))).trans hx310_3; replace hx310_4 := (cell_far (p := ⟨gb309, 6, none⟩) (by first | (rw [add_block]; exact hn310_6) | (show (Addr.add _ _).block ≠ _; rw [add_block]; exact hn310_6) | exact hn310_6) (.int .i64 ((rd_T68 l0 x17_1).f6))).trans hx310_4; replace hx310_5 := (cell_far (p := ⟨gb309, 6, none⟩) (by first | (rw [add_block]; exact hn310_6) | (show (Addr.add _ _).block ≠ _; rw [add_block]; exact hn310_6) | exact hn310_6) (.int .i64 ((rd_T68 l0 x17_1).f6))).trans hx310_5; replace hx310_6 := (cell_far (p := ⟨gb309, 6, none⟩) (by first | (rw [add_block]; exact hn310_6) | (show (Addr.add _ _).block ≠ _; rw [add_block]; exact hn310_6) | exact hn310_6) (.int .i64 ((rd_T68 l0 x17_1).f6))).trans hx310_6; replace hx310_7 := (cell_far (p := ⟨gb309, 6, none⟩) (by first | (rw [add_block]; exact hn310_6) | (show (Addr.add _ _).block ≠ _; rw [add_block]; exact hn310_6) | exact hn310_6) (.int .i64 ((rd_T68 l0 x17_1).f6))).trans hx310_7; replace hx310_8 := (cell_far (p := ⟨gb309, 6, none⟩) (by first | (rw [add_block]; exact hn310_6) | (show (Addr.add _ _).block ≠ _; rw [add_block]; exact hn310_6) | exact hn310_6) (.int .i64 ((rd_T68 l0 x17_1).f6))).trans hx310_8; replace hx310_0 := (cell_far (p := ⟨gb309, 7, none⟩) (by first | (rw [add_block]; exact hn310_7) | (show (Addr.add _ _).block ≠ _; rw [add_block]; exact hn310_7) | exact hn310_7) (.slice A308_7 ((rd_T68 l0 x17_1).f7).length c308_7)).trans hx310_0; replace hx310_1 := (cell_far (p := ⟨gb309, 7, none⟩) (by first | (rw [add_block]; exact hn310_7) | (show (Addr.add _ _).block ≠ _; rw [add_block]; exact hn310_7) | exact hn310_7) (.slice A308_7 ((rd_T68 l0 x17_1).f7).length c308_7)).trans hx310_1; replace hx310_2 := (cell_far (p := ⟨gb309, 7, none⟩) (by first | (rw [add_block]; exact hn310_7) | (show (Addr.add _ _).block ≠ _; rw [add_block]; exact hn310_7) | exact hn310_7) (.slice A308_7 ((rd_T68 l0 x17_1).f7).length c308_7)).trans hx310_2; replace hx310_3 := (cell_far (p := ⟨gb309, 7, none⟩) (by first | (rw [add_block]; exact hn310_7) | (show (Addr.add _ _).block ≠ _; rw [add_block]; exact hn310_7) | exact hn310_7) (.slice A308_7 ((rd_T68 l0 x17_1).f7).length c308_7)).trans hx310_3; replace hx310_4 := (cell_far (p := ⟨gb309, 7, none⟩) (by first | (rw [add_block]; exact hn310_7) | (show (Addr.add _ _).block ≠ _; rw [add_block]; exact hn310_7) | exact hn310_7) (.slice A308_7 ((rd_T68 l0 x17_1).f7).length c308_7)).trans hx310_4; replace hx310_5 := (cell_far (p := ⟨gb309, 7, none⟩) (by first | (rw [add_block]; exact hn310_7) | (show (Addr.add _ _).block ≠ _; rw [add_block]; exact hn310_7) | exact hn310_7) (.slice A308_7 ((rd_T68 l0 x17_1).f7).length c308_7)).trans hx310_5; replace hx310_6 := (cell_far (p := ⟨gb309, 7, none⟩) (by first | (rw [add_block]; exact hn310_7) | (show (Addr.add _ _).block ≠ _; rw [add_block]; exact hn310_7) | exact hn310_7) (.slice A308_7 ((rd_T68 l0 x17_1).f7).length c308_7)).trans hx310_6; replace hx310_7 := (cell_far (p := ⟨gb309, 7, none⟩) (by first | (rw [add_block]; exact hn310_7) | (show (Addr.add _ _).block ≠ _; rw [add_block]; exact hn310_7) | exact hn310_7) (.slice A308_7 ((rd_T68 l0 x17_1).f7).length c308_7)).trans hx310_7; replace hx310_8 := (cell_far (p := ⟨gb309, 7, none⟩) (by first | (rw [add_block]; exact hn310_7) | (show (Addr.add _ _).block ≠ _; rw [add_block]; exact hn310_7) | exact hn310_7) (.slice A308_7 ((rd_T68 l0 x17_1).f7).length c308_7)).trans hx310_8; replace hx310_0 := (cell_far (p := ⟨gb309, 8, none⟩) (by first | (rw [add_block]; exact hn310_8) | (show (Addr.add _ _).block ≠ _; rw [add_block]; exact hn310_8) | exact hn310_8) (.slice A308_8 ((rd_T68 l0 x17_1).f8).length c308_8)).trans hx310_0; replace hx310_1 := (cell_far (p := ⟨gb309, 8, none⟩) (by first | (rw [add_block]; exact hn310_8) | (show (Addr.add _ _).block ≠ _; rw [add_block]; exact hn310_8) | exact hn310_8) (.slice A308_8 ((rd_T68 l0 x17_1).f8).length c308_8)).trans hx310_1; replace hx310_2 := (cell_far (p := ⟨gb309, 8, none⟩) (by first | (rw [add_block]; exact hn310_8) | (show (Addr.add _ _).block ≠ _; rw [add_block]; exact hn310_8) | exact hn310_8) (.slice A308_8 ((rd_T68 l0 x17_1).f8).length c308_8)).trans hx310_2; replace hx310_3 := (cell_far (p := ⟨gb309, 8, none⟩) (by first | (rw [add_block]; exact hn310_8) | (show (Addr.add _ _).block ≠ _; rw [add_block]; exact hn310_8) | exact hn310_8) (.slice A308_8 ((rd_T68 l0 x17_1).f8).length c308_8)).trans hx310_3; replace hx310_4 := (cell_far (p := ⟨gb309, 8, none⟩) (by first | (rw [add_block]; exact hn310_8) | (show (Addr.add _ _).block ≠ _; rw [add_block]; exact hn310_8) | exact hn310_8) (.slice A308_8 ((rd_T68 l0 x17_1).f8).length c308_8)).trans hx310_4; replace hx310_5 := (cell_far (p := ⟨gb309, 8, none⟩) (by first | (rw [add_block]; exact hn310_8) | (show (Addr.add _ _).block ≠ _; rw [add_block]; exact hn310_8) | exact hn310_8) (.slice A308_8 ((rd_T68 l0 x17_1).f8).length c308_8)).trans hx310_5; replace hx310_6 := (cell_far (p := ⟨gb309, 8, none⟩) (by first | (rw [add_block]; exact hn310_8) | (show (Addr.add _ _).block ≠ _; rw [add_block]; exact hn310_8) | exact hn310_8) (.slice A308_8 ((rd_T68 l0 x17_1).f8).length c308_8)).trans hx310_6; replace hx310_7 := (cell_far (p := ⟨gb309, 8, none⟩) (by first | (rw [add_block]; exact hn310_8) | (show (Addr.add _ _).block ≠ _; rw [add_block]; exact hn310_8) | exact hn310_8) (.slice A308_8 ((rd_T68 l0 x17_1).f8).length c308_8)).trans hx310_7; replace hx310_8 := (cell_far (p := ⟨gb309, 8, none⟩) (by first | (rw [add_block]; exact hn310_8) | (show (Addr.add _ _).block ≠ _; rw [add_block]; exact hn310_8) | exact hn310_8) (.slice A308_8 ((rd_T68 l0 x17_1).f8).length c308_8)).trans hx310_8; clear hn310_0; clear hn310_1; clear hn310_2; clear hn310_3; clear hn310_4; clear hn310_5; clear hn310_6; clear hn310_7; clear hn310_8; replace p310 := eq_true p310; replace q310 := eq_true q310) | ((with_reducible refine gate_dst (N := 9) rfl ?_); refine box_event ?hg (N := 9) ?hd (cs := #[.int .i64 0, .int .i64 0, .int .i64 0, .int .i64 0, .int .i64 0, .int .i64 0, .int .i64 0, .slice none 0 0, .slice none 0 0]) (t := 68) ?hr ?_; (case hd => rfl); (case hg => rfl); (case hr => first | (go_simp; done) | (go_simp; rfl)); intro gb311 hg w13 hbox hb; have BK311 := AM_ (hbox); have GW311 := AM_ ((GS HB.out hg)); have GE311 := AM_ ((GS HB.out hg)); replace HB := AM_ (below_step (BT HB.out) hb); have NB309_311 := AM_ ((by rw [hg]; exact Nat.ne_of_lt (blk_lt (g := gb309) (o := .cells #[.int .i64 ((rd_T68 l0 x17_1).f0), .int .i64 ((rd_T68 l0 x17_1).f1), .int .i64 ((rd_T68 l0 x17_1).f2), .int .i64 ((rd_T68 l0 x17_1).f3), .int .i64 ((rd_T68 l0 x17_1).f4), .int .i64 ((rd_T68 l0 x17_1).f5), .int .i64 ((rd_T68 l0 x17_1).f6), .slice A308_7 ((rd_T68 l0 x17_1).f7).length c308_7, .slice A308_8 ((rd_T68 l0 x17_1).f8).length c308_8] 68 (0, 0)) (by (with_reducible repeat (first | refine blk_drewN ?_ _ | refine blk_drew ?_ | refine blk_alloc ?_ _)); refine blk_put (cs := #[.int .i64 ((rd_T68 l0 x17_1).f0), .int .i64 ((rd_T68 l0 x17_1).f1), .int .i64 ((rd_T68 l0 x17_1).f2), .int .i64 ((rd_T68 l0 x17_1).f3), .int .i64 ((rd_T68 l0 x17_1).f4), .int .i64 ((rd_T68 l0 x17_1).f5), .int .i64 ((rd_T68 l0 x17_1).f6), .slice A308_7 ((rd_T68 l0 x17_1).f7).length c308_7, .slice none 0 0]) ?_ 8 _ rfl; (with_reducible repeat (first | refine blk_drewN ?_ _ | refine blk_drew ?_ | refine blk_alloc ?_ _)); refine blk_put (cs := #[.int .i64 ((rd_T68 l0 x17_1).f0), .int .i64 ((rd_T68 l0 x17_1).f1), .int .i64 ((rd_T68 l0 x17_1).f2), .int .i64 ((rd_T68 l0 x17_1).f3), .int .i64 ((rd_T68 l0 x17_1).f4), .int .i64 ((rd_T68 l0 x17_1).f5), .int .i64 ((rd_T68 l0 x17_1).f6), .slice none 0 0, .slice none 0 0]) ?_ 7 _ rfl; (with_reducible repeat (first | refine blk_drewN ?_ _ | refine blk_drew ?_ | refine blk_alloc ?_ _)); refine blk_put (cs := #[.int .i64 ((rd_T68 l0 x17_1).f0), .int .i64 ((rd_T68 l0 x17_1).f1), .int .i64 ((rd_T68 l0 x17_1).f2), .int .i64 ((rd_T68 l0 x17_1).f3), .int .i64 ((rd_T68 l0 x17_1).f4), .int .i64 ((rd_T68 l0 x17_1).f5), .int .i64 0, .slice none 0 0, .slice none 0 0]) ?_ 6 _ rfl; (with_reducible repeat (first | refine blk_drewN ?_ _ | refine blk_drew ?_ | refine blk_alloc ?_ _)); refine blk_put (cs := #[.int .i64 ((rd_T68 l0 x17_1).f0), .int .i64 ((rd_T68 l0 x17_1).f1), .int .i64 ((rd_T68 l0 x17_1).f2), .int .i64 ((rd_T68 l0 x17_1).f3), .int .i64 ((rd_T68 l0 x17_1).f4), .int .i64 0, .int .i64 0, .slice none 0 0, .slice none 0 0]) ?_ 5 _ rfl; (with_reducible repeat (first | refine blk_drewN ?_ _ | refine blk_drew ?_ | refine blk_alloc ?_ _)); refine blk_put (cs := #[.int .i64 ((rd_T68 l0 x17_1).f0), .int .i64 ((rd_T68 l0 x17_1).f1), .int .i64 ((rd_T68 l0 x17_1).f2), .int .i64 ((rd_T68 l0 x17_1).f3), .int .i64 0, .int .i64 0, .int .i64 0, .slice none 0 0, .slice none 0 0]) ?_ 4 _ rfl; (with_reducible repeat (first | refine blk_drewN ?_ _ | refine blk_drew ?_ | refine blk_alloc ?_ _)); refine blk_put (cs := #[.int .i64 ((rd_T68 l0 x17_1).f0), .int .i64 ((rd_T68 l0 x17_1).f1), .int .i64 ((rd_T68 l0 x17_1).f2), .int .i64 0, .int .i64 0, .int .i64 0, .int .i64 0, .slice none 0 0, .slice none 0 0]) ?_ 3 _ rfl; (with_reducible repeat (first | refine blk_drewN ?_ _ | refine blk_drew ?_ | refine blk_alloc ?_ _)); refine blk_put (cs := #[.int .i64 ((rd_T68 l0 x17_1).f0), .int .i64 ((rd_T68 l0 x17_1).f1), .int .i64 0, .int .i64 0, .int .i64 0, .int .i64 0, .int .i64 0, .slice none 0 0, .slice none 0 0]) ?_ 2 _ rfl; (with_reducible repeat (first | refine blk_drewN ?_ _ | refine blk_drew ?_ | refine blk_alloc ?_ _)); refine blk_put (cs := #[.int .i64 ((rd_T68 l0 x17_1).f0), .int .i64 0, .int .i64 0, .int .i64 0, .int .i64 0, .int .i64 0, .int .i64 0, .slice none 0 0, .slice none 0 0]) ?_ 1 _ rfl; (with_reducible repeat (first | refine blk_drewN ?_ _ | refine blk_drew ?_ | refine blk_alloc ?_ _)); refine blk_put (cs := #[.int .i64 0, .int .i64 0, .int .i64 0, .int .i64 0, .int .i64 0, .int .i64 0, .int .i64 0, .slice none 0 0, .slice none 0 0]) ?_ 0 _ rfl; (with_reducible repeat (first | refine blk_drewN ?_ _ | refine blk_drew ?_ | refine blk_alloc ?_ _)); exact BK309.out)) : gb309 ≠ gb311)); have NB311_309 := AM_ ((by rw [hg]; exact Nat.ne_of_gt (blk_lt (g := gb309) (o := .cells #[.int .i64 ((rd_T68 l0 x17_1).f0), .int .i64 ((rd_T68 l0 x17_1).f1), .int .i64 ((rd_T68 l0 x17_1).f2), .int .i64 ((rd_T68 l0 x17_1).f3), .int .i64 ((rd_T68 l0 x17_1).f4), .int .i64 ((rd_T68 l0 x17_1).f5), .int .i64 ((rd_T68 l0 x17_1).f6), .slice A308_7 ((rd_T68 l0 x17_1).f7).length c308_7, .slice A308_8 ((rd_T68 l0 x17_1).f8).length c308_8] 68 (0, 0)) (by (with_reducible repeat (first | refine blk_drewN ?_ _ | refine blk_drew ?_ | refine blk_alloc ?_ _)); refine blk_put (cs := #[.int .i64 ((rd_T68 l0 x17_1).f0), .int .i64 ((rd_T68 l0 x17_1).f1), .int .i64 ((rd_T68 l0 x17_1).f2), .int .i64 ((rd_T68 l0 x17_1).f3), .int .i64 ((rd_T68 l0 x17_1).f4), .int .i64 ((rd_T68 l0 x17_1).f5), .int .i64 ((rd_T68 l0 x17_1).f6), .slice A308_7 ((rd_T68 l0 x17_1).f7).length c308_7, .slice none 0 0]) ?_ 8 _ rfl; (with_reducible repeat (first | refine blk_drewN ?_ _ | refine blk_drew ?_ | refine blk_alloc ?_ _)); refine blk_put (cs := #[.int .i64 ((rd_T68 l0 x17_1).f0), .int .i64 ((rd_T68 l0 x17_1).f1), .int .i64 ((rd_T68 l0 x17_1).f2), .int .i64 ((rd_T68 l0 x17_1).f3), .int .i64 ((rd_T68 l0 x17_1).f4), .int .i64 ((rd_T68 l0 x17_1).f5), .int .i64 ((rd_T68 l0 x17_1).f6), .slice none 0 0, .slice none 0 0]) ?_ 7 _ rfl; (with_reducible repeat (first | refine blk_drewN ?_ _ | refine blk_drew ?_ | refine blk_alloc ?_ _)); refine blk_put (cs := #[.int .i64 ((rd_T68 l0 x17_1).f0), .int .i64 ((rd_T68 l0 x17_1).f1), .int .i64 ((rd_T68 l0 x17_1).f2), .int .i64 ((rd_T68 l0 x17_1).f3), .int .i64 ((rd_T68 l0 x17_1).f4), .int .i64 ((rd_T68 l0 x17_1).f5), .int .i64 0, .slice none 0 0, .slice none 0 0]) ?_ 6 _ rfl; (with_reducible repeat (first | refine blk_drewN ?_ _ | refine blk_drew ?_ | refine blk_alloc ?_ _)); refine blk_put (cs := #[.int .i64 ((rd_T68 l0 x17_1).f0), .int .i64 ((rd_T68 l0 x17_1).f1), .int .i64 ((rd_T68 l0 x17_1).f2), .int .i64 ((rd_T68 l0 x17_1).f3), .int .i64 ((rd_T68 l0 x17_1).f4), .int .i64 0, .int .i64 0, .slice none 0 0, .slice none 0 0]) ?_ 5 _ rfl; (with_reducible repeat (first | refine blk_drewN ?_ _ | refine blk_drew ?_ | refine blk_alloc ?_ _)); refine blk_put (cs := #[.int .i64 ((rd_T68 l0 x17_1).f0), .int .i64 ((rd_T68 l0 x17_1).f1), .int .i64 ((rd_T68 l0 x17_1).f2), .int .i64 ((rd_T68 l0 x17_1).f3), .int .i64 0, .int .i64 0, .int .i64 0, .slice none 0 0, .slice none 0 0]) ?_ 4 _ rfl; (with_reducible repeat (first | refine blk_drewN ?_ _ | refine blk_drew ?_ | refine blk_alloc ?_ _)); refine blk_put (cs := #[.int .i64 ((rd_T68 l0 x17_1).f0), .int .i64 ((rd_T68 l0 x17_1).f1), .int .i64 ((rd_T68 l0 x17_1).f2), .int .i64 0, .int .i64 0, .int .i64 0, .int .i64 0, .slice none 0 0, .slice none 0 0]) ?_ 3 _ rfl; (with_reducible repeat (first | refine blk_drewN ?_ _ | refine blk_drew ?_ | refine blk_alloc ?_ _)); refine blk_put (cs := #[.int .i64 ((rd_T68 l0 x17_1).f0), .int .i64 ((rd_T68 l0 x17_1).f1), .int .i64 0, .int .i64 0, .int .i64 0, .int .i64 0, .int .i64 0, .slice none 0 0, .slice none 0 0]) ?_ 2 _ rfl; (with_reducible repeat (first | refine blk_drewN ?_ _ | refine blk_drew ?_ | refine blk_alloc ?_ _)); refine blk_put (cs := #[.int .i64 ((rd_T68 l0 x17_1).f0), .int .i64 0, .int .i64 0, .int .i64 0, .int .i64 0, .int .i64 0, .int .i64 0, .slice none 0 0, .slice none 0 0]) ?_ 1 _ rfl; (with_reducible repeat (first | refine blk_drewN ?_ _ | refine blk_drew ?_ | refine blk_alloc ?_ _)); refine blk_put (cs := #[.int .i64 0, .int .i64 0, .int .i64 0, .int .i64 0, .int .i64 0, .int .i64 0, .int .i64 0, .slice none 0 0, .slice none 0 0]) ?_ 0 _ rfl; (with_reducible repeat (first | refine blk_drewN ?_ _ | refine blk_drew ?_ | refine blk_alloc ?_ _)); exact BK309.out)) : gb311 ≠ gb309)); replace BK309 := AM_ (blk_below (g := gb309) (o := .cells #[.int .i64 ((rd_T68 l0 x17_1).f0), .int .i64 ((rd_T68 l0 x17_1).f1), .int .i64 ((rd_T68 l0 x17_1).f2), .int .i64 ((rd_T68 l0 x17_1).f3), .int .i64 ((rd_T68 l0 x17_1).f4), .int .i64 ((rd_T68 l0 x17_1).f5), .int .i64 ((rd_T68 l0 x17_1).f6), .slice A308_7 ((rd_T68 l0 x17_1).f7).length c308_7, .slice A308_8 ((rd_T68 l0 x17_1).f8).length c308_8] 68 (0, 0)) (by (with_reducible repeat (first | refine blk_drewN ?_ _ | refine blk_drew ?_ | refine blk_alloc ?_ _)); refine blk_put (cs := #[.int .i64 ((rd_T68 l0 x17_1).f0), .int .i64 ((rd_T68 l0 x17_1).f1), .int .i64 ((rd_T68 l0 x17_1).f2), .int .i64 ((rd_T68 l0 x17_1).f3), .int .i64 ((rd_T68 l0 x17_1).f4), .int .i64 ((rd_T68 l0 x17_1).f5), .int .i64 ((rd_T68 l0 x17_1).f6), .slice A308_7 ((rd_T68 l0 x17_1).f7).length c308_7, .slice none 0 0]) ?_ 8 _ rfl; (with_reducible repeat (first | refine blk_drewN ?_ _ | refine blk_drew ?_ | refine blk_alloc ?_ _)); refine blk_put (cs := #[.int .i64 ((rd_T68 l0 x17_1).f0), .int .i64 ((rd_T68 l0 x17_1).f1), .int .i64 ((rd_T68 l0 x17_1).f2), .int .i64 ((rd_T68 l0 x17_1).f3), .int .i64 ((rd_T68 l0 x17_1).f4), .int .i64 ((rd_T68 l0 x17_1).f5), .int .i64 ((rd_T68 l0 x17_1).f6), .slice none 0 0, .slice none 0 0]) ?_ 7 _ rfl; (with_reducible repeat (first | refine blk_drewN ?_ _ | refine blk_drew ?_ | refine blk_alloc ?_ _)); refine blk_put (cs := #[.int .i64 ((rd_T68 l0 x17_1).f0), .int .i64 ((rd_T68 l0 x17_1).f1), .int .i64 ((rd_T68 l0 x17_1).f2), .int .i64 ((rd_T68 l0 x17_1).f3), .int .i64 ((rd_T68 l0 x17_1).f4), .int .i64 ((rd_T68 l0 x17_1).f5), .int .i64 0, .slice none 0 0, .slice none 0 0]) ?_ 6 _ rfl; (with_reducible repeat (first | refine blk_drewN ?_ _ | refine blk_drew ?_ | refine blk_alloc ?_ _)); refine blk_put (cs := #[.int .i64 ((rd_T68 l0 x17_1).f0), .int .i64 ((rd_T68 l0 x17_1).f1), .int .i64 ((rd_T68 l0 x17_1).f2), .int .i64 ((rd_T68 l0 x17_1).f3), .int .i64 ((rd_T68 l0 x17_1).f4), .int .i64 0, .int .i64 0, .slice none 0 0, .slice none 0 0]) ?_ 5 _ rfl; (with_reducible repeat (first | refine blk_drewN ?_ _ | refine blk_drew ?_ | refine blk_alloc ?_ _)); refine blk_put (cs := #[.int .i64 ((rd_T68 l0 x17_1).f0), .int .i64 ((rd_T68 l0 x17_1).f1), .int .i64 ((rd_T68 l0 x17_1).f2), .int .i64 ((rd_T68 l0 x17_1).f3), .int .i64 0, .int .i64 0, .int .i64 0, .slice none 0 0, .slice none 0 0]) ?_ 4 _ rfl; (with_reducible repeat (first | refine blk_drewN ?_ _ | refine blk_drew ?_ | refine blk_alloc ?_ _)); refine blk_put (cs := #[.int .i64 ((rd_T68 l0 x17_1).f0), .int .i64 ((rd_T68 l0 x17_1).f1), .int .i64 ((rd_T68 l0 x17_1).f2), .int .i64 0, .int .i64 0, .int .i64 0, .int .i64 0, .slice none 0 0, .slice none 0 0]) ?_ 3 _ rfl; (with_reducible repeat (first | refine blk_drewN ?_ _ | refine blk_drew ?_ | refine blk_alloc ?_ _)); refine blk_put (cs := #[.int .i64 ((rd_T68 l0 x17_1).f0), .int .i64 ((rd_T68 l0 x17_1).f1), .int .i64 0, .int .i64 0, .int .i64 0, .int .i64 0, .int .i64 0, .slice none 0 0, .slice none 0 0]) ?_ 2 _ rfl; (with_reducible repeat (first | refine blk_drewN ?_ _ | refine blk_drew ?_ | refine blk_alloc ?_ _)); refine blk_put (cs := #[.int .i64 ((rd_T68 l0 x17_1).f0), .int .i64 0, .int .i64 0, .int .i64 0, .int .i64 0, .int .i64 0, .int .i64 0, .slice none 0 0, .slice none 0 0]) ?_ 1 _ rfl; (with_reducible repeat (first | refine blk_drewN ?_ _ | refine blk_drew ?_ | refine blk_alloc ?_ _)); refine blk_put (cs := #[.int .i64 0, .int .i64 0, .int .i64 0, .int .i64 0, .int .i64 0, .int .i64 0, .int .i64 0, .slice none 0 0, .slice none 0 0]) ?_ 0 _ rfl; (with_reducible repeat (first | refine blk_drewN ?_ _ | refine blk_drew ?_ | refine blk_alloc ?_ _)); exact BK309.out) hb); clear hb hbox hg; have hnb14 := NB311_309.out; have hnc14 := NB309_311.out; obtain ⟨hcz15_0, hcz15_1, hcz15_2, hcz15_3, hcz15_4, hcz15_5, hcz15_6, hcz15_7, hcz15_8, hfz15_0, hfz15_1, hfz15_2, hfz15_3, hfz15_4, hfz15_5, hfz15_6, hfz15_7, hfz15_8⟩ := bk9 BK311.out; obtain ⟨hcz16_0, hcz16_1, hcz16_2, hcz16_3, hcz16_4, hcz16_5, hcz16_6, hcz16_7, hcz16_8, hfz16_0, hfz16_1, hfz16_2, hfz16_3, hfz16_4, hfz16_5, hfz16_6, hfz16_7, hfz16_8⟩ := bk9 BK309.out) | ((with_reducible refine gate_dst (N := 29) rfl ?_); refine goesF_ (some 29) rfl rfl Try.func126 (by kernel_rfl) rfl (lb := #[]) #[.agg #[.int .i64 ((rd_T68 l0 x17_1).f0), .int .i64 ((rd_T68 l0 x17_1).f1), .int .i64 ((rd_T68 l0 x17_1).f2), .int .i64 ((rd_T68 l0 x17_1).f3), .int .i64 ((rd_T68 l0 x17_1).f4), .int .i64 ((rd_T68 l0 x17_1).f5), .int .i64 ((rd_T68 l0 x17_1).f6), .slice A308_7 ((rd_T68 l0 x17_1).f7).length c308_7, .slice A308_8 ((rd_T68 l0 x17_1).f8).length c308_8], .agg #[.int .i64 ((rd_T68 l1 x17_1).f0), .int .i64 ((rd_T68 l1 x17_1).f1), .int .i64 ((rd_T68 l1 x17_1).f2), .int .i64 ((rd_T68 l1 x17_1).f3), .int .i64 ((rd_T68 l1 x17_1).f4), .int .i64 ((rd_T68 l1 x17_1).f5), .int .i64 ((rd_T68 l1 x17_1).f6), .slice A310_7 ((rd_T68 l1 x17_1).f7).length c310_7, .slice A310_8 ((rd_T68 l1 x17_1).f8).length c310_8]] rfl rfl (by (try simp only [List.map_toArray, List.map_cons, List.map_nil]); first | done | rfl) ?_; (with_reducible refine (impl_EqualTransactions.calls k1 ((rd_T68 l0 x17_1).f0) ((rd_T68 l0 x17_1).f1) ((rd_T68 l0 x17_1).f2) ((rd_T68 l0 x17_1).f3) ((rd_T68 l0 x17_1).f4) ((rd_T68 l0 x17_1).f5) ((rd_T68 l0 x17_1).f6) _ _ ((rd_T68 l0 x17_1).f7) _ _ ((rd_T68 l0 x17_1).f8) ((rd_T68 l1 x17_1).f0) ((rd_T68 l1 x17_1).f1) ((rd_T68 l1 x17_1).f2) ((rd_T68 l1 x17_1).f3) ((rd_T68 l1 x17_1).f4) ((rd_T68 l1 x17_1).f5) ((rd_T68 l1 x17_1).f6) _ _ ((rd_T68 l1 x17_1).f7) _ _ ((rd_T68 l1 x17_1).f8) true _ ?side1 ?side2 ?side3 ?side4 ?side5 ?side6 ?side7 ?side8 A9.out).mono ?_); (case side1 => exact Kd.C_below HR308_7.out (BT HB.out)); (case side2 => exact HC308_7.out); (case side3 => exact Kd.C_below HR308_8.out (BT HB.out)); (case side4 => exact HC308_8.out); (case side5 => exact Kd.C_below HR310_7.out (BT HB.out)); (case side6 => exact HC310_7.out); (case side7 => exact Kd.C_below HR310_8.out (BT HB.out)); (case side8 => exact HC310_8.out); rintro e w17 ⟨rfl, hb⟩; refine ⟨_, rfl, ?_⟩; replace BK309 := AM_ (blk_below (g := gb309) (o := .cells #[.int .i64 ((rd_T68 l0 x17_1).f0), .int .i64 ((rd_T68 l0 x17_1).f1), .int .i64 ((rd_T68 l0 x17_1).f2), .int .i64 ((rd_T68 l0 x17_1).f3), .int .i64 ((rd_T68 l0 x17_1).f4), .int .i64 ((rd_T68 l0 x17_1).f5), .int .i64 ((rd_T68 l0 x17_1).f6), .slice A308_7 ((rd_T68 l0 x17_1).f7).length c308_7, .slice A308_8 ((rd_T68 l0 x17_1).f8).length c308_8] 68 (0, 0)) (by (with_reducible repeat (first | refine blk_drewN ?_ _ | refine blk_drew ?_ | refine blk_alloc ?_ _)); refine blk_far ?_ NB309_311.out _; (with_reducible repeat (first | refine blk_drewN ?_ _ | refine blk_drew ?_ | refine blk_alloc ?_ _)); refine blk_far ?_ NB309_311.out _; (with_reducible repeat (first | refine blk_drewN ?_ _ | refine blk_drew ?_ | refine blk_alloc ?_ _)); refine blk_far ?_ NB309_311.out _; (with_reducible repeat (first | refine blk_drewN ?_ _ | refine blk_drew ?_ | refine blk_alloc ?_ _)); refine blk_far ?_ NB309_311.out _; (with_reducible repeat (first | refine blk_drewN ?_ _ | refine blk_drew ?_ | refine blk_alloc ?_ _)); refine blk_far ?_ NB309_311.out _; (with_reducible repeat (first | refine blk_drewN ?_ _ | refine blk_drew ?_ | refine blk_alloc ?_ _)); refine blk_far ?_ NB309_311.out _; (with_reducible repeat (first | refine blk_drewN ?_ _ | refine blk_drew ?_ | refine blk_alloc ?_ _)); refine blk_far ?_ NB309_311.out _; (with_reducible repeat (first | refine blk_drewN ?_ _ | refine blk_drew ?_ | refine blk_alloc ?_ _)); refine blk_far ?_ NB309_311.out _; (with_reducible repeat (first | refine blk_drewN ?_ _ | refine blk_drew ?_ | refine blk_alloc ?_ _)); refine blk_far ?_ NB309_311.out _; (with_reducible repeat (first | refine blk_drewN ?_ _ | refine blk_drew ?_ | refine blk_alloc ?_ _)); exact BK309.out) hb); replace BK311 := AM_ (blk_below (g := gb311) (o := .cells #[.int .i64 ((rd_T68 l1 x17_1).f0), .int .i64 ((rd_T68 l1 x17_1).f1), .int .i64 ((rd_T68 l1 x17_1).f2), .int .i64 ((rd_T68 l1 x17_1).f3), .int .i64 ((rd_T68 l1 x17_1).f4), .int .i64 ((rd_T68 l1 x17_1).f5), .int .i64 ((rd_T68 l1 x17_1).f6), .slice A310_7 ((rd_T68 l1 x17_1).f7).length c310_7, .slice A310_8 ((rd_T68 l1 x17_1).f8).length c310_8] 68 (0, 0)) (by (with_reducible repeat (first | refine blk_drewN ?_ _ | refine blk_drew ?_ | refine blk_alloc ?_ _)); refine blk_put (cs := #[.int .i64 ((rd_T68 l1 x17_1).f0), .int .i64 ((rd_T68 l1 x17_1).f1), .int .i64 ((rd_T68 l1 x17_1).f2), .int .i64 ((rd_T68 l1 x17_1).f3), .int .i64 ((rd_T68 l1 x17_1).f4), .int .i64 ((rd_T68 l1 x17_1).f5), .int .i64 ((rd_T68 l1 x17_1).f6), .slice A310_7 ((rd_T68 l1 x17_1).f7).length c310_7, .slice none 0 0]) ?_ 8 _ rfl; (with_reducible repeat (first | refine blk_drewN ?_ _ | refine blk_drew ?_ | refine blk_alloc ?_ _)); refine blk_put (cs := #[.int .i64 ((rd_T68 l1 x17_1).f0), .int .i64 ((rd_T68 l1 x17_1).f1), .int .i64 ((rd_T68 l1 x17_1).f2), .int .i64 ((rd_T68 l1 x17_1).f3), .int .i64 ((rd_T68 l1 x17_1).f4), .int .i64 ((rd_T68 l1 x17_1).f5), .int .i64 ((rd_T68 l1 x17_1).f6), .slice none 0 0, .slice none 0 0]) ?_ 7 _ rfl; (with_reducible repeat (first | refine blk_drewN ?_ _ | refine blk_drew ?_ | refine blk_alloc ?_ _)); refine blk_put (cs := #[.int .i64 ((rd_T68 l1 x17_1).f0), .int .i64 ((rd_T68 l1 x17_1).f1), .int .i64 ((rd_T68 l1 x17_1).f2), .int .i64 ((rd_T68 l1 x17_1).f3), .int .i64 ((rd_T68 l1 x17_1).f4), .int .i64 ((rd_T68 l1 x17_1).f5), .int .i64 0, .slice none 0 0, .slice none 0 0]) ?_ 6 _ rfl; (with_reducible repeat (first | refine blk_drewN ?_ _ | refine blk_drew ?_ | refine blk_alloc ?_ _)); refine blk_put (cs := #[.int .i64 ((rd_T68 l1 x17_1).f0), .int .i64 ((rd_T68 l1 x17_1).f1), .int .i64 ((rd_T68 l1 x17_1).f2), .int .i64 ((rd_T68 l1 x17_1).f3), .int .i64 ((rd_T68 l1 x17_1).f4), .int .i64 0, .int .i64 0, .slice none 0 0, .slice none 0 0]) ?_ 5 _ rfl; (with_reducible repeat (first | refine blk_drewN ?_ _ | refine blk_drew ?_ | refine blk_alloc ?_ _)); refine blk_put (cs := #[.int .i64 ((rd_T68 l1 x17_1).f0), .int .i64 ((rd_T68 l1 x17_1).f1), .int .i64 ((rd_T68 l1 x17_1).f2), .int .i64 ((rd_T68 l1 x17_1).f3), .int .i64 0, .int .i64 0, .int .i64 0, .slice none 0 0, .slice none 0 0]) ?_ 4 _ rfl; (with_reducible repeat (first | refine blk_drewN ?_ _ | refine blk_drew ?_ | refine blk_alloc ?_ _)); refine blk_put (cs := #[.int .i64 ((rd_T68 l1 x17_1).f0), .int .i64 ((rd_T68 l1 x17_1).f1), .int .i64 ((rd_T68 l1 x17_1).f2), .int .i64 0, .int .i64 0, .int .i64 0, .int .i64 0, .slice none 0 0, .slice none 0 0]) ?_ 3 _ rfl; (with_reducible repeat (first | refine blk_drewN ?_ _ | refine blk_drew ?_ | refine blk_alloc ?_ _)); refine blk_put (cs := #[.int .i64 ((rd_T68 l1 x17_1).f0), .int .i64 ((rd_T68 l1 x17_1).f1), .int .i64 0, .int .i64 0, .int .i64 0, .int .i64 0, .int .i64 0, .slice none 0 0, .slice none 0 0]) ?_ 2 _ rfl; (with_reducible repeat (first | refine blk_drewN ?_ _ | refine blk_drew ?_ | refine blk_alloc ?_ _)); refine blk_put (cs := #[.int .i64 ((rd_T68 l1 x17_1).f0), .int .i64 0, .int .i64 0, .int .i64 0, .int .i64 0, .int .i64 0, .int .i64 0, .slice none 0 0, .slice none 0 0]) ?_ 1 _ rfl; (with_reducible repeat (first | refine blk_drewN ?_ _ | refine blk_drew ?_ | refine blk_alloc ?_ _)); refine blk_put (cs := #[.int .i64 0, .int .i64 0, .int .i64 0, .int .i64 0, .int .i64 0, .int .i64 0, .int .i64 0, .slice none 0 0, .slice none 0 0]) ?_ 0 _ rfl; (with_reducible repeat (first | refine blk_drewN ?_ _ | refine blk_drew ?_ | refine blk_alloc ?_ _)); exact BK311.out) hb); replace HB := AM_ (below_step (BT HB.out) hb); (try clear hb); (try clear hb2); (try clear hk); (try clear hi)))
   go_roundg k1
   case measure => have := HK1.out; omega
   case rel => exact ⟨(wrap64 (x17_1 + 1)), (by first | rfl | (simp; done) | (simp [*]; done)), H', ⟨by have := HK1.out; omega⟩, ⟨BT HB.out⟩⟩

/-! ### impl_Lock: function 127 -/
def impl_Lock.l0 : Nat → List (S150) → List (S150) → Int → Int → Option (Bool)
 | 0, _, _, _, _ => none
 | k + 1, x0, x1, x12, x13 => if x13 < x12 then (if 0 ≤ x13 then (if x13 < (x0.length : Int) then (if x13 < (x1.length : Int) then (if (!(((rd_T150 x0 x13).f0) == ((rd_T150 x1 x13).f0)) || (!(((rd_T150 x0 x13).f1) == ((rd_T150 x1 x13).f1)))) = true then (some false) else (impl_Lock.l0 k x0 x1 x12 (wrap64 (x13 + 1)))) else (none)) else (none)) else (none)) else (some true)
def impl_Lock.f (k : Nat) (l0 : List (S150)) (l1 : List (S150)) : Option (Bool) := if (l0.length : Int) = (l1.length : Int) then (impl_Lock.l0 k l0 l1 (l0.length : Int) 0) else (some false)
theorem impl_Lock.mono_l : ∀ k, (∀ y0 y1 y2 y3, LeO (impl_Lock.l0 k y0 y1 y2 y3) (impl_Lock.l0 (k + 1) y0 y1 y2 y3))
 | 0 => fun _ _ _ _ r h => by simp [impl_Lock.l0] at h
 | k + 1 => by
  have ih0 := impl_Lock.mono_l k
  ·intro y0 y1 y2 y3
   unfold impl_Lock.l0
   repeat' first
   | (with_reducible exact ih0 _ _ _ _)
   | (with_reducible exact LeO.refl _)
   | (with_reducible exact LeO.none _)
   | (with_reducible refine LeO.ite ?_ ?_)
   | (with_reducible refine LeO.bind ?_ (fun _ => ?_))
   | exact ih0 _ _ _ _
   | exact LeO.none _
   | refine LeO.ite ?_ ?_
   | refine LeO.bind ?_ (fun _ => ?_)
theorem impl_Lock.mono : ∀ a0 a1 k, LeO (impl_Lock.f k a0 a1) (impl_Lock.f (k + 1) a0 a1) := by
 intro a0 a1 k
 have ih0 := impl_Lock.mono_l k
 unfold impl_Lock.f
 repeat' first
   | (with_reducible exact ih0 _ _ _ _)
   | (with_reducible exact LeO.refl _)
   | (with_reducible exact LeO.none _)
   | (with_reducible refine LeO.ite ?_ ?_)
   | (with_reducible refine LeO.bind ?_ (fun _ => ?_))
   | exact ih0 _ _ _ _
   | exact LeO.none _
   | refine LeO.ite ?_ ?_
   | refine LeO.bind ?_ (fun _ => ?_)
set_option maxHeartbeats 8000000 in
set_option maxRecDepth 100000 in
theorem impl_Lock.calls (k : Nat) (A0 : Option Addr) (c0 : Nat) (l0 : List (S150)) (A1 : Option Addr) (c1 : Nat) (l1 : List (S150)) (r : Bool) (w : World) (hr0 : Kd.C k150 w A0 l0.length l0) (hc0 : l0.length ≤ c0) (hr1 : Kd.C k150 w A1 l1.length l1) (hc1 : l1.length ≤ c1) (h : impl_Lock.f k l0 l1 = some r) :
  Calls Try.prog 127 #[.slice A0 l0.length c0, .slice A1 l1.length c1] w fun e w' => e = .returned (.bool r) ∧ Drawn0 w w' := by
 have hu150 := Try.underlying150
 have HR0 := AM_ hr0
 have HC0 := AM_ hc0
 clear hr0 hc0
 have HR1 := AM_ hr1
 have HC1 := AM_ hc1
 clear hr1 hc1
 have H : (if (l0.length : Int) = (l1.length : Int) then (impl_Lock.l0 k l0 l1 (l0.length : Int) 0) else (some false)) = some r := h
 clear h
 by_cases c3 : (l0.length : Int) = (l1.length : Int)
 rotate_left
 ·rw [if_neg c3] at H
  have c3b0 : ((l0.length : Int) == (l1.length : Int)) = false := beq_eq_false_iff_ne.mpr c3
  have c3b1 : ((l0.length : Int) != (l1.length : Int)) = true := bne_iff_ne.mpr c3
  have c3b2 : (l0.length == l1.length) = false := by first | simpa using c3 | (simp at c3 ⊢; omega)
  obtain rfl := Option.some.inj H
  go_enter Try.func127, Try.ntmps127
  go_wp2
  repeat (go_quiet (fail); try go_wp2)
  go_ret
  exact ⟨by first | rfl | (simp; done) | (simp [*]; done), by repeat (first | exact Drawn0.refl _ | apply Drawn0.step)⟩
 rw [if_pos c3] at H
 have c3b0 : ((l0.length : Int) == (l1.length : Int)) = true := beq_iff_eq.mpr c3
 have c3b1 : ((l0.length : Int) != (l1.length : Int)) = false := bne_eq_false_iff_eq.mpr c3
 have c3b2 : (l0.length == l1.length) = true := by first | simpa using c3 | (simp at c3 ⊢; omega)
 clear c3
 have H' := AM_ H
 clear H
 go_enter Try.func127, Try.ntmps127
 go_wp2
 repeat (go_quiet (fail); try go_wp2)
 go_loopg [13] k (fun kq v13 w' => ∃ (x13_1 : Int), v13 = .int .i64 x13_1 ∧ Aside0 (impl_Lock.l0 kq l0 l1 (l0.length : Int) x13_1 = some r) ∧ Aside0 (kq ≤ k) ∧ Drawn0 w w')
 case atStart => exact ⟨(0), (by first | rfl | (simp; done) | (simp [*]; done)), H', ⟨Nat.le_refl _⟩, by repeat (first | exact Drawn0.refl _ | apply Drawn0.step)⟩
 case round =>
  clear H'
  try clear c1
  try clear p2
  try clear c3
  try clear c3b0
  try clear c3b1
  try clear c3b2
  obtain ⟨x13_1, rfl, HA, HK1, ⟨m1, rfl⟩⟩ := hrel
  cases gk with
  | zero => exact absurd HA.out (by simp [impl_Lock.l0])
  | succ k1 =>
   have H := HA.out
   clear HA
   simp only [impl_Lock.l0] at H
   by_cases c4 : x13_1 < (l0.length : Int)
   rotate_left
   ·rw [if_neg c4] at H
    have c4b0 : decide (x13_1 < (l0.length : Int)) = false := decide_eq_false c4
    clear c4
    obtain rfl := Option.some.inj H
    go_wp2
    repeat (go_quiet (fail); try go_wp2)
    go_ret
    exact ⟨by first | rfl | (simp; done) | (simp [*]; done), by repeat (first | exact Drawn0.refl _ | apply Drawn0.step)⟩
   rw [if_pos c4] at H
   have c4b0 : decide (x13_1 < (l0.length : Int)) = true := decide_eq_true c4
   clear c4
   by_cases c5 : 0 ≤ x13_1
   rotate_left
   ·rw [if_neg c5] at H
    exact absurd H (by simp)
   rw [if_pos c5] at H
   have c5b0 : decide (0 ≤ x13_1) = true := decide_eq_true c5
   clear c5
   by_cases c6 : x13_1 < (l0.length : Int)
   rotate_left
   ·rw [if_neg c6] at H
    exact absurd H (by simp)
   rw [if_pos c6] at H
   have c6b0 : decide (x13_1 < (l0.length : Int)) = true := decide_eq_true c6
   clear c6
   by_cases c7 : x13_1 < (l1.length : Int)
   rotate_left
   ·rw [if_neg c7] at H
    exact absurd H (by simp)
   rw [if_pos c7] at H
   have c7b0 : decide (x13_1 < (l1.length : Int)) = true := decide_eq_true c7
   clear c7
   by_cases c8 : (!(((rd_T150 l0 x13_1).f0) == ((rd_T150 l1 x13_1).f0)) || (!(((rd_T150 l0 x13_1).f1) == ((rd_T150 l1 x13_1).f1)))) = true
   ·rw [if_pos c8] at H
    have c8b0 : (!(((rd_T150 l0 x13_1).f0) == ((rd_T150 l1 x13_1).f0)) || (!(((rd_T150 l0 x13_1).f1) == ((rd_T150 l1 x13_1).f1)))) = true := c8
    clear c8
    obtain rfl := Option.some.inj H
    have p313 : 0 ≤ (x13_1 : Int) := DT
    have q313 : x13_1 < (l0.length : Int) := DT
    obtain ⟨ad313, e313, hx313_0, hx313_1⟩ := at_T150 HR0.out x13_1 p313 q313
    cases e313
    replace p313 := eq_true p313
    replace q313 := eq_true q313
    have p314 : 0 ≤ (x13_1 : Int) := DT
    have q314 : x13_1 < (l1.length : Int) := DT
    obtain ⟨ad314, e314, hx314_0, hx314_1⟩ := at_T150 HR1.out x13_1 p314 q314
    cases e314
    replace p314 := eq_true p314
    replace q314 := eq_true q314
    go_wp2
    repeat (go_quiet (fail); try go_wp2)
    go_ret
    exact ⟨by first | rfl | (simp; done) | (simp [*]; done), by repeat (first | exact Drawn0.refl _ | apply Drawn0.step)⟩
   rw [if_neg c8] at H
   have c8b0 : (!(((rd_T150 l0 x13_1).f0) == ((rd_T150 l1 x13_1).f0)) || (!(((rd_T150 l0 x13_1).f1) == ((rd_T150 l1 x13_1).f1)))) = false := by simpa using c8
   clear c8
   have H' := AM_ H
   clear H
   have p313 : 0 ≤ (x13_1 : Int) := DT
   have q313 : x13_1 < (l0.length : Int) := DT
   obtain ⟨ad313, e313, hx313_0, hx313_1⟩ := at_T150 HR0.out x13_1 p313 q313
   cases e313
   replace p313 := eq_true p313
   replace q313 := eq_true q313
   have p314 : 0 ≤ (x13_1 : Int) := DT
   have q314 : x13_1 < (l1.length : Int) := DT
   obtain ⟨ad314, e314, hx314_0, hx314_1⟩ := at_T150 HR1.out x13_1 p314 q314
   cases e314
   replace p314 := eq_true p314
   replace q314 := eq_true q314
   go_wp2
   repeat (go_quiet (fail); try go_wp2)
   go_roundg k1
   case measure => have := HK1.out; omega
   case rel => exact ⟨(wrap64 (x13_1 + 1)), (by first | rfl | (simp; done) | (simp [*]; done)), H', ⟨by have := HK1.out; omega⟩, by repeat (first | exact Drawn0.refl _ | apply Drawn0.step)⟩

/-! ### impl_Wait: function 128 -/
def impl_Wait.l0 : Nat → List (S36) → List (S36) → Int → Int → Option (Bool)
 | 0, _, _, _, _ => none
 | k + 1, x0, x1, x12, x13 => if x13 < x12 then (if 0 ≤ x13 then (if x13 < (x0.length : Int) then (if x13 < (x1.length : Int) then (if (!(((rd_T36 x0 x13).f0) == ((rd_T36 x1 x13).f0)) || (!(((rd_T36 x0 x13).f1) == ((rd_T36 x1 x13).f1)))) = true then (some false) else (impl_Wait.l0 k x0 x1 x12 (wrap64 (x13 + 1)))) else (none)) else (none)) else (none)) else (some true)
def impl_Wait.f (k : Nat) (l0 : List (S36)) (l1 : List (S36)) : Option (Bool) := if (l0.length : Int) = (l1.length : Int) then (impl_Wait.l0 k l0 l1 (l0.length : Int) 0) else (some false)
theorem impl_Wait.mono_l : ∀ k, (∀ y0 y1 y2 y3, LeO (impl_Wait.l0 k y0 y1 y2 y3) (impl_Wait.l0 (k + 1) y0 y1 y2 y3))
 | 0 => fun _ _ _ _ r h => by simp [impl_Wait.l0] at h
 | k + 1 => by
  have ih0 := impl_Wait.mono_l k
  ·intro y0 y1 y2 y3
   unfold impl_Wait.l0
   repeat' first
   | (with_reducible exact ih0 _ _ _ _)
   | (with_reducible exact LeO.refl _)
   | (with_reducible exact LeO.none _)
   | (with_reducible refine LeO.ite ?_ ?_)
   | (with_reducible refine LeO.bind ?_ (fun _ => ?_))
   | exact ih0 _ _ _ _
   | exact LeO.none _
   | refine LeO.ite ?_ ?_
   | refine LeO.bind ?_ (fun _ => ?_)
theorem impl_Wait.mono : ∀ a0 a1 k, LeO (impl_Wait.f k a0 a1) (impl_Wait.f (k + 1) a0 a1) := by
 intro a0 a1 k
 have ih0 := impl_Wait.mono_l k
 unfold impl_Wait.f
 repeat' first
   | (with_reducible exact ih0 _ _ _ _)
   | (with_reducible exact LeO.refl _)
   | (with_reducible exact LeO.none _)
   | (with_reducible refine LeO.ite ?_ ?_)
   | (with_reducible refine LeO.bind ?_ (fun _ => ?_))
   | exact ih0 _ _ _ _
   | exact LeO.none _
   | refine LeO.ite ?_ ?_
   | refine LeO.bind ?_ (fun _ => ?_)
set_option maxHeartbeats 8000000 in
set_option maxRecDepth 100000 in
theorem impl_Wait.calls (k : Nat) (A0 : Option Addr) (c0 : Nat) (l0 : List (S36)) (A1 : Option Addr) (c1 : Nat) (l1 : List (S36)) (r : Bool) (w : World) (hr0 : Kd.C k36 w A0 l0.length l0) (hc0 : l0.length ≤ c0) (hr1 : Kd.C k36 w A1 l1.length l1) (hc1 : l1.length ≤ c1) (h : impl_Wait.f k l0 l1 = some r) :
  Calls Try.prog 128 #[.slice A0 l0.length c0, .slice A1 l1.length c1] w fun e w' => e = .returned (.bool r) ∧ Drawn0 w w' := by
 have hu36 := Try.underlying36
 have HR0 := AM_ hr0
 have HC0 := AM_ hc0
 clear hr0 hc0
 have HR1 := AM_ hr1
 have HC1 := AM_ hc1
 clear hr1 hc1
 have H : (if (l0.length : Int) = (l1.length : Int) then (impl_Wait.l0 k l0 l1 (l0.length : Int) 0) else (some false)) = some r := h
 clear h
 by_cases c3 : (l0.length : Int) = (l1.length : Int)
 rotate_left
 ·rw [if_neg c3] at H
  have c3b0 : ((l0.length : Int) == (l1.length : Int)) = false := beq_eq_false_iff_ne.mpr c3
  have c3b1 : ((l0.length : Int) != (l1.length : Int)) = true := bne_iff_ne.mpr c3
  have c3b2 : (l0.length == l1.length) = false := by first | simpa using c3 | (simp at c3 ⊢; omega)
  obtain rfl := Option.some.inj H
  go_enter Try.func128, Try.ntmps128
  go_wp2
  repeat (go_quiet (fail); try go_wp2)
  go_ret
  exact ⟨by first | rfl | (simp; done) | (simp [*]; done), by repeat (first | exact Drawn0.refl _ | apply Drawn0.step)⟩
 rw [if_pos c3] at H
 have c3b0 : ((l0.length : Int) == (l1.length : Int)) = true := beq_iff_eq.mpr c3
 have c3b1 : ((l0.length : Int) != (l1.length : Int)) = false := bne_eq_false_iff_eq.mpr c3
 have c3b2 : (l0.length == l1.length) = true := by first | simpa using c3 | (simp at c3 ⊢; omega)
 clear c3
 have H' := AM_ H
 clear H
 go_enter Try.func128, Try.ntmps128
 go_wp2
 repeat (go_quiet (fail); try go_wp2)
 go_loopg [13] k (fun kq v13 w' => ∃ (x13_1 : Int), v13 = .int .i64 x13_1 ∧ Aside0 (impl_Wait.l0 kq l0 l1 (l0.length : Int) x13_1 = some r) ∧ Aside0 (kq ≤ k) ∧ Drawn0 w w')
 case atStart => exact ⟨(0), (by first | rfl | (simp; done) | (simp [*]; done)), H', ⟨Nat.le_refl _⟩, by repeat (first | exact Drawn0.refl _ | apply Drawn0.step)⟩
 case round =>
  clear H'
  try clear c1
  try clear p2
  try clear c3
  try clear c3b0
  try clear c3b1
  try clear c3b2
  obtain ⟨x13_1, rfl, HA, HK1, ⟨m1, rfl⟩⟩ := hrel
  cases gk with
  | zero => exact absurd HA.out (by simp [impl_Wait.l0])
  | succ k1 =>
   have H := HA.out
   clear HA
   simp only [impl_Wait.l0] at H
   by_cases c4 : x13_1 < (l0.length : Int)
   rotate_left
   ·rw [if_neg c4] at H
    have c4b0 : decide (x13_1 < (l0.length : Int)) = false := decide_eq_false c4
    clear c4
    obtain rfl := Option.some.inj H
    go_wp2
    repeat (go_quiet (fail); try go_wp2)
    go_ret
    exact ⟨by first | rfl | (simp; done) | (simp [*]; done), by repeat (first | exact Drawn0.refl _ | apply Drawn0.step)⟩
   rw [if_pos c4] at H
   have c4b0 : decide (x13_1 < (l0.length : Int)) = true := decide_eq_true c4
   clear c4
   by_cases c5 : 0 ≤ x13_1
   rotate_left
   ·rw [if_neg c5] at H
    exact absurd H (by simp)
   rw [if_pos c5] at H
   have c5b0 : decide (0 ≤ x13_1) = true := decide_eq_true c5
   clear c5
   by_cases c6 : x13_1 < (l0.length : Int)
   rotate_left
   ·rw [if_neg c6] at H
    exact absurd H (by simp)
   rw [if_pos c6] at H
   have c6b0 : decide (x13_1 < (l0.length : Int)) = true := decide_eq_true c6
   clear c6
   by_cases c7 : x13_1 < (l1.length : Int)
   rotate_left
   ·rw [if_neg c7] at H
    exact absurd H (by simp)
   rw [if_pos c7] at H
   have c7b0 : decide (x13_1 < (l1.length : Int)) = true := decide_eq_true c7
   clear c7
   by_cases c8 : (!(((rd_T36 l0 x13_1).f0) == ((rd_T36 l1 x13_1).f0)) || (!(((rd_T36 l0 x13_1).f1) == ((rd_T36 l1 x13_1).f1)))) = true
   ·rw [if_pos c8] at H
    have c8b0 : (!(((rd_T36 l0 x13_1).f0) == ((rd_T36 l1 x13_1).f0)) || (!(((rd_T36 l0 x13_1).f1) == ((rd_T36 l1 x13_1).f1)))) = true := c8
    clear c8
    obtain rfl := Option.some.inj H
    have p315 : 0 ≤ (x13_1 : Int) := DT
    have q315 : x13_1 < (l0.length : Int) := DT
    obtain ⟨ad315, e315, hx315_0, hx315_1⟩ := at_T36 HR0.out x13_1 p315 q315
    cases e315
    replace p315 := eq_true p315
    replace q315 := eq_true q315
    have p316 : 0 ≤ (x13_1 : Int) := DT
    have q316 : x13_1 < (l1.length : Int) := DT
    obtain ⟨ad316, e316, hx316_0, hx316_1⟩ := at_T36 HR1.out x13_1 p316 q316
    cases e316
    replace p316 := eq_true p316
    replace q316 := eq_true q316
    go_wp2
    repeat (go_quiet (fail); try go_wp2)
    go_ret
    exact ⟨by first | rfl | (simp; done) | (simp [*]; done), by repeat (first | exact Drawn0.refl _ | apply Drawn0.step)⟩
   rw [if_neg c8] at H
   have c8b0 : (!(((rd_T36 l0 x13_1).f0) == ((rd_T36 l1 x13_1).f0)) || (!(((rd_T36 l0 x13_1).f1) == ((rd_T36 l1 x13_1).f1)))) = false := by simpa using c8
   clear c8
   have H' := AM_ H
   clear H
   have p315 : 0 ≤ (x13_1 : Int) := DT
   have q315 : x13_1 < (l0.length : Int) := DT
   obtain ⟨ad315, e315, hx315_0, hx315_1⟩ := at_T36 HR0.out x13_1 p315 q315
   cases e315
   replace p315 := eq_true p315
   replace q315 := eq_true q315
   have p316 : 0 ≤ (x13_1 : Int) := DT
   have q316 : x13_1 < (l1.length : Int) := DT
   obtain ⟨ad316, e316, hx316_0, hx316_1⟩ := at_T36 HR1.out x13_1 p316 q316
   cases e316
   replace p316 := eq_true p316
   replace q316 := eq_true q316
   go_wp2
   repeat (go_quiet (fail); try go_wp2)
   go_roundg k1
   case measure => have := HK1.out; omega
   case rel => exact ⟨(wrap64 (x13_1 + 1)), (by first | rfl | (simp; done) | (simp [*]; done)), H', ⟨by have := HK1.out; omega⟩, by repeat (first | exact Drawn0.refl _ | apply Drawn0.step)⟩

/-! ### impl_EqualEngines: function 48 -/
def impl_EqualEngines.f (k : Nat) (a0_0 : Bool) (l0_1 : List (List (S76))) (l0_2 : List (S68)) (l0_3 : List (S150)) (l0_4 : List (S36)) (a0_5 : Int) (a1_0 : Bool) (l1_1 : List (List (S76))) (l1_2 : List (S68)) (l1_3 : List (S150)) (l1_4 : List (S36)) (a1_5 : Int) : Option (Bool) := if (a0_0 == a1_0) = true then (if a0_5 = a1_5 then ((impl_EqualStores.f k l0_1 l1_1).bind fun t319 => (if t319 = true then ((impl_Transaction.f k l0_2 l1_2).bind fun t320 => (if t320 = true then ((impl_Lock.f k l0_3 l1_3).bind fun t321 => (if t321 = true then ((impl_Wait.f k l0_4 l1_4).bind fun t322 => (some t322)) else (some false))) else (some false))) else (some false))) else (some false)) else (some false)
theorem impl_EqualEngines.mono : ∀ a0 a1 a2 a3 a4 a5 a6 a7 a8 a9 a10 a11 k, LeO (impl_EqualEngines.f k a0 a1 a2 a3 a4 a5 a6 a7 a8 a9 a10 a11) (impl_EqualEngines.f (k + 1) a0 a1 a2 a3 a4 a5 a6 a7 a8 a9 a10 a11) := by
 intro a0 a1 a2 a3 a4 a5 a6 a7 a8 a9 a10 a11 k
 unfold impl_EqualEngines.f
 repeat' first
   | (with_reducible exact impl_EqualStores.mono _ _ _)
   | (with_reducible exact impl_Lock.mono _ _ _)
   | (with_reducible exact impl_Transaction.mono _ _ _)
   | (with_reducible exact impl_Wait.mono _ _ _)
   | (with_reducible exact LeO.refl _)
   | (with_reducible exact LeO.none _)
   | (with_reducible refine LeO.ite ?_ ?_)
   | (with_reducible refine LeO.bind ?_ (fun _ => ?_))
   | exact impl_EqualStores.mono _ _ _
   | exact impl_Lock.mono _ _ _
   | exact impl_Transaction.mono _ _ _
   | exact impl_Wait.mono _ _ _
   | exact LeO.none _
   | refine LeO.ite ?_ ?_
   | refine LeO.bind ?_ (fun _ => ?_)
set_option maxHeartbeats 8000000 in
set_option maxRecDepth 100000 in
theorem impl_EqualEngines.calls (k : Nat) (a0_0 : Bool) (A0_1 : Option Addr) (c0_1 : Nat) (l0_1 : List (List (S76))) (A0_2 : Option Addr) (c0_2 : Nat) (l0_2 : List (S68)) (A0_3 : Option Addr) (c0_3 : Nat) (l0_3 : List (S150)) (A0_4 : Option Addr) (c0_4 : Nat) (l0_4 : List (S36)) (a0_5 : Int) (a1_0 : Bool) (A1_1 : Option Addr) (c1_1 : Nat) (l1_1 : List (List (S76))) (A1_2 : Option Addr) (c1_2 : Nat) (l1_2 : List (S68)) (A1_3 : Option Addr) (c1_3 : Nat) (l1_3 : List (S150)) (A1_4 : Option Addr) (c1_4 : Nat) (l1_4 : List (S36)) (a1_5 : Int) (r : Bool) (w : World) (hr0_1 : Kd.C (Kd.slice 76 k76) w A0_1 l0_1.length l0_1) (hc0_1 : l0_1.length ≤ c0_1) (hr0_2 : Kd.C k68 w A0_2 l0_2.length l0_2) (hc0_2 : l0_2.length ≤ c0_2) (hr0_3 : Kd.C k150 w A0_3 l0_3.length l0_3) (hc0_3 : l0_3.length ≤ c0_3) (hr0_4 : Kd.C k36 w A0_4 l0_4.length l0_4) (hc0_4 : l0_4.length ≤ c0_4) (hr1_1 : Kd.C (Kd.slice 76 k76) w A1_1 l1_1.length l1_1) (hc1_1 : l1_1.length ≤ c1_1) (hr1_2 : Kd.C k68 w A1_2 l1_2.length l1_2) (hc1_2 : l1_2.length ≤ c1_2) (hr1_3 : Kd.C k150 w A1_3 l1_3.length l1_3) (hc1_3 : l1_3.length ≤ c1_3) (hr1_4 : Kd.C k36 w A1_4 l1_4.length l1_4) (hc1_4 : l1_4.length ≤ c1_4) (h : impl_EqualEngines.f k a0_0 l0_1 l0_2 l0_3 l0_4 a0_5 a1_0 l1_1 l1_2 l1_3 l1_4 a1_5 = some r) :
  Calls Try.prog 48 #[.agg #[.bool a0_0, .slice A0_1 l0_1.length c0_1, .slice A0_2 l0_2.length c0_2, .slice A0_3 l0_3.length c0_3, .slice A0_4 l0_4.length c0_4, .int .i64 a0_5], .agg #[.bool a1_0, .slice A1_1 l1_1.length c1_1, .slice A1_2 l1_2.length c1_2, .slice A1_3 l1_3.length c1_3, .slice A1_4 l1_4.length c1_4, .int .i64 a1_5]] w fun e w' => e = .returned (.bool r) ∧ Below w.heap.size w w' := by
 have hu53 := Try.underlying53
 have hu49 := Try.underlying49
 have HR0_1 := AM_ hr0_1
 have HC0_1 := AM_ hc0_1
 clear hr0_1 hc0_1
 have HR0_2 := AM_ hr0_2
 have HC0_2 := AM_ hc0_2
 clear hr0_2 hc0_2
 have HR0_3 := AM_ hr0_3
 have HC0_3 := AM_ hc0_3
 clear hr0_3 hc0_3
 have HR0_4 := AM_ hr0_4
 have HC0_4 := AM_ hc0_4
 clear hr0_4 hc0_4
 have HR1_1 := AM_ hr1_1
 have HC1_1 := AM_ hc1_1
 clear hr1_1 hc1_1
 have HR1_2 := AM_ hr1_2
 have HC1_2 := AM_ hc1_2
 clear hr1_2 hc1_2
 have HR1_3 := AM_ hr1_3
 have HC1_3 := AM_ hc1_3
 clear hr1_3 hc1_3
 have HR1_4 := AM_ hr1_4
 have HC1_4 := AM_ hc1_4
 clear hr1_4 hc1_4
 have HB := AM_ (Below.refl w.heap.size w)
 have H : (if (a0_0 == a1_0) = true then (if a0_5 = a1_5 then ((impl_EqualStores.f k l0_1 l1_1).bind fun t319 => (if t319 = true then ((impl_Transaction.f k l0_2 l1_2).bind fun t320 => (if t320 = true then ((impl_Lock.f k l0_3 l1_3).bind fun t321 => (if t321 = true then ((impl_Wait.f k l0_4 l1_4).bind fun t322 => (some t322)) else (some false))) else (some false))) else (some false))) else (some false)) else (some false)) = some r := h
 clear h
 by_cases c3 : (a0_0 == a1_0) = true
 rotate_left
 ·rw [if_neg c3] at H
  have c3b0 : (a0_0 == a1_0) = false := by simpa using c3
  (try (have c3b1 : decide (a0_0 = a1_0) = false := by simpa using c3))
  (try (have c3b2 : (a0_0 == a1_0) = false := by simpa using c3))
  (try (have c3b3 : ¬ (a0_0 = a1_0) := by simpa using c3))
  clear c3
  obtain rfl := Option.some.inj H
  go_enter Try.func48, Try.ntmps48
  go_wp2_with (first | ((with_reducible refine gate_dst (N := 2) rfl ?_); refine box_event ?hg (N := 2) ?hd (cs := #[.bool a0_0, .slice A0_1 l0_1.length c0_1, .slice A0_2 l0_2.length c0_2, .slice A0_3 l0_3.length c0_3, .slice A0_4 l0_4.length c0_4, .int .i64 a0_5]) (t := 53) ?hr ?_; (case hd => rfl); (case hg => rfl); (case hr => first | (go_simp; done) | (go_simp; rfl)); intro gb317 hg w54 hbox hb; have BK317 := AM_ (hbox); have GW317 := AM_ ((GS HB.out hg)); have GE317 := AM_ ((GS HB.out hg)); replace HB := AM_ (below_step (BT HB.out) hb); clear hb hbox hg) | ((with_reducible refine gate_dst (N := 3) rfl ?_); refine box_event ?hg (N := 3) ?hd (cs := #[.bool a1_0, .slice A1_1 l1_1.length c1_1, .slice A1_2 l1_2.length c1_2, .slice A1_3 l1_3.length c1_3, .slice A1_4 l1_4.length c1_4, .int .i64 a1_5]) (t := 53) ?hr ?_; (case hd => rfl); (case hg => rfl); (case hr => first | (go_simp; done) | (go_simp; rfl)); intro gb318 hg w55 hbox hb; have BK318 := AM_ (hbox); have GW318 := AM_ ((GS HB.out hg)); have GE318 := AM_ ((GS HB.out hg)); replace HB := AM_ (below_step (BT HB.out) hb); have NB317_318 := AM_ ((NL BK317.out hg)); have NB318_317 := AM_ ((NG BK317.out hg)); replace BK317 := AM_ (BB BK317.out hb); clear hb hbox hg; have hnb56 := NB317_318.out; have hnc56 := NB318_317.out; obtain ⟨hcz57_0, hcz57_1, hcz57_2, hcz57_3, hcz57_4, hcz57_5, hfz57_0, hfz57_1, hfz57_2, hfz57_3, hfz57_4, hfz57_5⟩ := bk6 BK317.out; obtain ⟨hcz58_0, hcz58_1, hcz58_2, hcz58_3, hcz58_4, hcz58_5, hfz58_0, hfz58_1, hfz58_2, hfz58_3, hfz58_4, hfz58_5⟩ := bk6 BK318.out))
  go_ret
  exact QT (BT HB.out)
 rw [if_pos c3] at H
 have c3b0 : (a0_0 == a1_0) = true := c3
 (try (have c3b1 : decide (a0_0 = a1_0) = true := by simpa using c3))
 (try (have c3b2 : (a0_0 == a1_0) = true := by simpa using c3))
 clear c3
 by_cases c4 : a0_5 = a1_5
 rotate_left
 ·rw [if_neg c4] at H
  have c4b0 : (a0_5 == a1_5) = false := beq_eq_false_iff_ne.mpr c4
  have c4b1 : (a0_5 != a1_5) = true := bne_iff_ne.mpr c4
  obtain rfl := Option.some.inj H
  go_enter Try.func48, Try.ntmps48
  go_wp2_with (first | ((with_reducible refine gate_dst (N := 2) rfl ?_); refine box_event ?hg (N := 2) ?hd (cs := #[.bool a0_0, .slice A0_1 l0_1.length c0_1, .slice A0_2 l0_2.length c0_2, .slice A0_3 l0_3.length c0_3, .slice A0_4 l0_4.length c0_4, .int .i64 a0_5]) (t := 53) ?hr ?_; (case hd => rfl); (case hg => rfl); (case hr => first | (go_simp; done) | (go_simp; rfl)); intro gb317 hg w49 hbox hb; have BK317 := AM_ (hbox); have GW317 := AM_ ((GS HB.out hg)); have GE317 := AM_ ((GS HB.out hg)); replace HB := AM_ (below_step (BT HB.out) hb); clear hb hbox hg) | ((with_reducible refine gate_dst (N := 3) rfl ?_); refine box_event ?hg (N := 3) ?hd (cs := #[.bool a1_0, .slice A1_1 l1_1.length c1_1, .slice A1_2 l1_2.length c1_2, .slice A1_3 l1_3.length c1_3, .slice A1_4 l1_4.length c1_4, .int .i64 a1_5]) (t := 53) ?hr ?_; (case hd => rfl); (case hg => rfl); (case hr => first | (go_simp; done) | (go_simp; rfl)); intro gb318 hg w50 hbox hb; have BK318 := AM_ (hbox); have GW318 := AM_ ((GS HB.out hg)); have GE318 := AM_ ((GS HB.out hg)); replace HB := AM_ (below_step (BT HB.out) hb); have NB317_318 := AM_ ((NL BK317.out hg)); have NB318_317 := AM_ ((NG BK317.out hg)); replace BK317 := AM_ (BB BK317.out hb); clear hb hbox hg; have hnb51 := NB317_318.out; have hnc51 := NB318_317.out; obtain ⟨hcz52_0, hcz52_1, hcz52_2, hcz52_3, hcz52_4, hcz52_5, hfz52_0, hfz52_1, hfz52_2, hfz52_3, hfz52_4, hfz52_5⟩ := bk6 BK317.out; obtain ⟨hcz53_0, hcz53_1, hcz53_2, hcz53_3, hcz53_4, hcz53_5, hfz53_0, hfz53_1, hfz53_2, hfz53_3, hfz53_4, hfz53_5⟩ := bk6 BK318.out))
  go_ret
  exact QT (BT HB.out)
 rw [if_pos c4] at H
 have c4b0 : (a0_5 == a1_5) = true := beq_iff_eq.mpr c4
 have c4b1 : (a0_5 != a1_5) = false := bne_eq_false_iff_eq.mpr c4
 clear c4
 replace H := Option.bind_eq_some_iff.mp H
 obtain ⟨t319, A50, H⟩ := H
 replace H : (if t319 = true then ((impl_Transaction.f k l0_2 l1_2).bind fun t320 => (if t320 = true then ((impl_Lock.f k l0_3 l1_3).bind fun t321 => (if t321 = true then ((impl_Wait.f k l0_4 l1_4).bind fun t322 => (some t322)) else (some false))) else (some false))) else (some false)) = some r := H
 have A5 := AM_ A50
 clear A50
 by_cases c6 : t319 = true
 rotate_left
 ·replace c6 := Bool.eq_false_iff.mpr c6
  subst c6
  have H1 : (some false) = some r := by rw [if_neg (show ¬ (false = true) by decide)] at H; exact H
  clear H
  have H := H1
  clear H1
  obtain rfl := Option.some.inj H
  go_enter Try.func48, Try.ntmps48
  go_wp2_with (first | ((with_reducible refine gate_dst (N := 2) rfl ?_); refine box_event ?hg (N := 2) ?hd (cs := #[.bool a0_0, .slice A0_1 l0_1.length c0_1, .slice A0_2 l0_2.length c0_2, .slice A0_3 l0_3.length c0_3, .slice A0_4 l0_4.length c0_4, .int .i64 a0_5]) (t := 53) ?hr ?_; (case hd => rfl); (case hg => rfl); (case hr => first | (go_simp; done) | (go_simp; rfl)); intro gb317 hg w43 hbox hb; have BK317 := AM_ (hbox); have GW317 := AM_ ((GS HB.out hg)); have GE317 := AM_ ((GS HB.out hg)); replace HB := AM_ (below_step (BT HB.out) hb); clear hb hbox hg) | ((with_reducible refine gate_dst (N := 3) rfl ?_); refine box_event ?hg (N := 3) ?hd (cs := #[.bool a1_0, .slice A1_1 l1_1.length c1_1, .slice A1_2 l1_2.length c1_2, .slice A1_3 l1_3.length c1_3, .slice A1_4 l1_4.length c1_4, .int .i64 a1_5]) (t := 53) ?hr ?_; (case hd => rfl); (case hg => rfl); (case hr => first | (go_simp; done) | (go_simp; rfl)); intro gb318 hg w44 hbox hb; have BK318 := AM_ (hbox); have GW318 := AM_ ((GS HB.out hg)); have GE318 := AM_ ((GS HB.out hg)); replace HB := AM_ (below_step (BT HB.out) hb); have NB317_318 := AM_ ((NL BK317.out hg)); have NB318_317 := AM_ ((NG BK317.out hg)); replace BK317 := AM_ (BB BK317.out hb); clear hb hbox hg; have hnb45 := NB317_318.out; have hnc45 := NB318_317.out; obtain ⟨hcz46_0, hcz46_1, hcz46_2, hcz46_3, hcz46_4, hcz46_5, hfz46_0, hfz46_1, hfz46_2, hfz46_3, hfz46_4, hfz46_5⟩ := bk6 BK317.out; obtain ⟨hcz47_0, hcz47_1, hcz47_2, hcz47_3, hcz47_4, hcz47_5, hfz47_0, hfz47_1, hfz47_2, hfz47_3, hfz47_4, hfz47_5⟩ := bk6 BK318.out) | (go_at_call 124; (with_reducible refine (impl_EqualStores.calls k _ _ l0_1 _ _ l1_1 false _ ?side1 ?side2 ?side3 ?side4 A5.out).mono ?_); (case side1 => exact CB HR0_1.out HB.out); (case side2 => exact HC0_1.out); (case side3 => exact CB HR1_1.out HB.out); (case side4 => exact HC1_1.out); rintro e w48 ⟨rfl, hb⟩; replace BK317 := AM_ (BB BK317.out hb); replace BK318 := AM_ (BB BK318.out hb); replace HB := AM_ (below_step (BT HB.out) hb); (try clear hb); (try clear hb2); (try clear hk); (try clear hi)))
  go_ret
  exact QT (BT HB.out)
 subst c6
 have H1 : ((impl_Transaction.f k l0_2 l1_2).bind fun t320 => (if t320 = true then ((impl_Lock.f k l0_3 l1_3).bind fun t321 => (if t321 = true then ((impl_Wait.f k l0_4 l1_4).bind fun t322 => (some t322)) else (some false))) else (some false))) = some r := by rw [if_pos rfl] at H; exact H
 clear H
 have H := H1
 clear H1
 replace H := Option.bind_eq_some_iff.mp H
 obtain ⟨t320, A70, H⟩ := H
 replace H : (if t320 = true then ((impl_Lock.f k l0_3 l1_3).bind fun t321 => (if t321 = true then ((impl_Wait.f k l0_4 l1_4).bind fun t322 => (some t322)) else (some false))) else (some false)) = some r := H
 have A7 := AM_ A70
 clear A70
 by_cases c8 : t320 = true
 rotate_left
 ·replace c8 := Bool.eq_false_iff.mpr c8
  subst c8
  have H1 : (some false) = some r := by rw [if_neg (show ¬ (false = true) by decide)] at H; exact H
  clear H
  have H := H1
  clear H1
  obtain rfl := Option.some.inj H
  go_enter Try.func48, Try.ntmps48
  go_wp2_with (first | ((with_reducible refine gate_dst (N := 2) rfl ?_); refine box_event ?hg (N := 2) ?hd (cs := #[.bool a0_0, .slice A0_1 l0_1.length c0_1, .slice A0_2 l0_2.length c0_2, .slice A0_3 l0_3.length c0_3, .slice A0_4 l0_4.length c0_4, .int .i64 a0_5]) (t := 53) ?hr ?_; (case hd => rfl); (case hg => rfl); (case hr => first | (go_simp; done) | (go_simp; rfl)); intro gb317 hg w34 hbox hb; have BK317 := AM_ (hbox); have GW317 := AM_ ((GS HB.out hg)); have GE317 := AM_ ((GS HB.out hg)); replace HB := AM_ (below_step (BT HB.out) hb); clear hb hbox hg) | ((with_reducible refine gate_dst (N := 3) rfl ?_); refine box_event ?hg (N := 3) ?hd (cs := #[.bool a1_0, .slice A1_1 l1_1.length c1_1, .slice A1_2 l1_2.length c1_2, .slice A1_3 l1_3.length c1_3, .slice A1_4 l1_4.length c1_4, .int .i64 a1_5]) (t := 53) ?hr ?_; (case hd => rfl); (case hg => rfl); (case hr => first | (go_simp; done) | (go_simp; rfl)); intro gb318 hg w35 hbox hb; have BK318 := AM_ (hbox); have GW318 := AM_ ((GS HB.out hg)); have GE318 := AM_ ((GS HB.out hg)); replace HB := AM_ (below_step (BT HB.out) hb); have NB317_318 := AM_ ((NL BK317.out hg)); have NB318_317 := AM_ ((NG BK317.out hg)); replace BK317 := AM_ (BB BK317.out hb); clear hb hbox hg; have hnb36 := NB317_318.out; have hnc36 := NB318_317.out; obtain ⟨hcz37_0, hcz37_1, hcz37_2, hcz37_3, hcz37_4, hcz37_5, hfz37_0, hfz37_1, hfz37_2, hfz37_3, hfz37_4, hfz37_5⟩ := bk6 BK317.out; obtain ⟨hcz38_0, hcz38_1, hcz38_2, hcz38_3, hcz38_4, hcz38_5, hfz38_0, hfz38_1, hfz38_2, hfz38_3, hfz38_4, hfz38_5⟩ := bk6 BK318.out) | (go_at_call 124; (with_reducible refine (impl_EqualStores.calls k _ _ l0_1 _ _ l1_1 true _ ?side1 ?side2 ?side3 ?side4 A5.out).mono ?_); (case side1 => exact CB HR0_1.out HB.out); (case side2 => exact HC0_1.out); (case side3 => exact CB HR1_1.out HB.out); (case side4 => exact HC1_1.out); rintro e w39 ⟨rfl, hb⟩; replace BK317 := AM_ (BB BK317.out hb); replace BK318 := AM_ (BB BK318.out hb); replace HB := AM_ (below_step (BT HB.out) hb); (try clear hb); (try clear hb2); (try clear hk); (try clear hi); obtain ⟨hcz40_0, hcz40_1, hcz40_2, hcz40_3, hcz40_4, hcz40_5, hfz40_0, hfz40_1, hfz40_2, hfz40_3, hfz40_4, hfz40_5⟩ := bk6 BK317.out; obtain ⟨hcz41_0, hcz41_1, hcz41_2, hcz41_3, hcz41_4, hcz41_5, hfz41_0, hfz41_1, hfz41_2, hfz41_3, hfz41_4, hfz41_5⟩ := bk6 BK318.out) | (go_at_call 125; (with_reducible refine (impl_Transaction.calls k _ _ l0_2 _ _ l1_2  false _ ?side1 ?side2 ?side3 ?side4 A7.out).mono ?_); (case side1 => exact CB HR0_2.out HB.out); (case side2 => exact HC0_2.out); (case side3 => exact CB HR1_2.out HB.out); (case side4 => exact HC1_2.out); rintro e w42 ⟨rfl, hb⟩; replace BK317 := AM_ (BB BK317.out hb); replace BK318 := AM_ (BB BK318.out hb); replace HB := AM_ (below_step (BT HB.out) hb); (try clear hb); (try clear hb2); (try clear hk); (try clear hi)))
  go_ret
  exact QT (BT HB.out)
 subst c8
 have H1 : ((impl_Lock.f k l0_3 l1_3).bind fun t321 => (if t321 = true then ((impl_Wait.f k l0_4 l1_4).bind fun t322 => (some t322)) else (some false))) = some r := by rw [if_pos rfl] at H; exact H
 clear H
 have H := H1
 clear H1
 replace H := Option.bind_eq_some_iff.mp H
 obtain ⟨t321, A90, H⟩ := H
 replace H : (if t321 = true then ((impl_Wait.f k l0_4 l1_4).bind fun t322 => (some t322)) else (some false)) = some r := H
 have A9 := AM_ A90
 clear A90
 by_cases c10 : t321 = true
 rotate_left
 ·replace c10 := Bool.eq_false_iff.mpr c10
  subst c10
  have H1 : (some false) = some r := by rw [if_neg (show ¬ (false = true) by decide)] at H; exact H
  clear H
  have H := H1
  clear H1
  obtain rfl := Option.some.inj H
  go_enter Try.func48, Try.ntmps48
  go_wp2_with (first | ((with_reducible refine gate_dst (N := 2) rfl ?_); refine box_event ?hg (N := 2) ?hd (cs := #[.bool a0_0, .slice A0_1 l0_1.length c0_1, .slice A0_2 l0_2.length c0_2, .slice A0_3 l0_3.length c0_3, .slice A0_4 l0_4.length c0_4, .int .i64 a0_5]) (t := 53) ?hr ?_; (case hd => rfl); (case hg => rfl); (case hr => first | (go_simp; done) | (go_simp; rfl)); intro gb317 hg w23 hbox hb; have BK317 := AM_ (hbox); have GW317 := AM_ ((GS HB.out hg)); have GE317 := AM_ ((GS HB.out hg)); replace HB := AM_ (below_step (BT HB.out) hb); clear hb hbox hg) | ((with_reducible refine gate_dst (N := 3) rfl ?_); refine box_event ?hg (N := 3) ?hd (cs := #[.bool a1_0, .slice A1_1 l1_1.length c1_1, .slice A1_2 l1_2.length c1_2, .slice A1_3 l1_3.length c1_3, .slice A1_4 l1_4.length c1_4, .int .i64 a1_5]) (t := 53) ?hr ?_; (case hd => rfl); (case hg => rfl); (case hr => first | (go_simp; done) | (go_simp; rfl)); intro gb318 hg w24 hbox hb; have BK318 := AM_ (hbox); have GW318 := AM_ ((GS HB.out hg)); have GE318 := AM_ ((GS HB.out hg)); replace HB := AM_ (below_step (BT HB.out) hb); have NB317_318 := AM_ ((NL BK317.out hg)); have NB318_317 := AM_ ((NG BK317.out hg)); replace BK317 := AM_ (BB BK317.out hb); clear hb hbox hg; have hnb25 := NB317_318.out; have hnc25 := NB318_317.out; obtain ⟨hcz26_0, hcz26_1, hcz26_2, hcz26_3, hcz26_4, hcz26_5, hfz26_0, hfz26_1, hfz26_2, hfz26_3, hfz26_4, hfz26_5⟩ := bk6 BK317.out; obtain ⟨hcz27_0, hcz27_1, hcz27_2, hcz27_3, hcz27_4, hcz27_5, hfz27_0, hfz27_1, hfz27_2, hfz27_3, hfz27_4, hfz27_5⟩ := bk6 BK318.out) | (go_at_call 124; (with_reducible refine (impl_EqualStores.calls k _ _ l0_1 _ _ l1_1 true _ ?side1 ?side2 ?side3 ?side4 A5.out).mono ?_); (case side1 => exact CB HR0_1.out HB.out); (case side2 => exact HC0_1.out); (case side3 => exact CB HR1_1.out HB.out); (case side4 => exact HC1_1.out); rintro e w28 ⟨rfl, hb⟩; replace BK317 := AM_ (BB BK317.out hb); replace BK318 := AM_ (BB BK318.out hb); replace HB := AM_ (below_step (BT HB.out) hb); (try clear hb); (try clear hb2); (try clear hk); (try clear hi); obtain ⟨hcz29_0, hcz29_1, hcz29_2, hcz29_3, hcz29_4, hcz29_5, hfz29_0, hfz29_1, hfz29_2, hfz29_3, hfz29_4, hfz29_5⟩ := bk6 BK317.out; obtain ⟨hcz30_0, hcz30_1, hcz30_2, hcz30_3, hcz30_4, hcz30_5, hfz30_0, hfz30_1, hfz30_2, hfz30_3, hfz30_4, hfz30_5⟩ := bk6 BK318.out) | (go_at_call 125; (with_reducible refine (impl_Transaction.calls k _ _ l0_2 _ _ l1_2  true _ ?side1 ?side2 ?side3 ?side4 A7.out).mono ?_); (case side1 => exact CB HR0_2.out HB.out); (case side2 => exact HC0_2.out); (case side3 => exact CB HR1_2.out HB.out); (case side4 => exact HC1_2.out); rintro e w31 ⟨rfl, hb⟩; replace BK317 := AM_ (BB BK317.out hb); replace BK318 := AM_ (BB BK318.out hb); replace HB := AM_ (below_step (BT HB.out) hb); (try clear hb); (try clear hb2); (try clear hk); (try clear hi); obtain ⟨hcz32_0, hcz32_1, hcz32_2, hcz32_3, hcz32_4, hcz32_5, hfz32_0, hfz32_1, hfz32_2, hfz32_3, hfz32_4, hfz32_5⟩ := bk6 BK317.out; obtain ⟨hcz33_0, hcz33_1, hcz33_2, hcz33_3, hcz33_4, hcz33_5, hfz33_0, hfz33_1, hfz33_2, hfz33_3, hfz33_4, hfz33_5⟩ := bk6 BK318.out) | (go_at_call 127; (with_reducible refine (impl_Lock.calls k _ _ l0_3 _ _ l1_3 false _ ?side1 ?side2 ?side3 ?side4 A9.out).mono ?_); (case side1 => exact CB HR0_3.out HB.out); (case side2 => exact HC0_3.out); (case side3 => exact CB HR1_3.out HB.out); (case side4 => exact HC1_3.out); rintro e w' ⟨rfl, ⟨nd, rfl⟩⟩))
  go_ret
  exact QT (BT HB.out)
 subst c10
 have H1 : ((impl_Wait.f k l0_4 l1_4).bind fun t322 => (some t322)) = some r := by rw [if_pos rfl] at H; exact H
 clear H
 have H := H1
 clear H1
 replace H := Option.bind_eq_some_iff.mp H
 obtain ⟨t322, A110, H⟩ := H
 replace H : (some t322) = some r := H
 have A11 := AM_ A110
 clear A110
 obtain rfl := Option.some.inj H
 go_enter Try.func48, Try.ntmps48
 go_wp2_with (first | ((with_reducible refine gate_dst (N := 2) rfl ?_); refine box_event ?hg (N := 2) ?hd (cs := #[.bool a0_0, .slice A0_1 l0_1.length c0_1, .slice A0_2 l0_2.length c0_2, .slice A0_3 l0_3.length c0_3, .slice A0_4 l0_4.length c0_4, .int .i64 a0_5]) (t := 53) ?hr ?_; (case hd => rfl); (case hg => rfl); (case hr => first | (go_simp; done) | (go_simp; rfl)); intro gb317 hg w12 hbox hb; have BK317 := AM_ (hbox); have GW317 := AM_ ((GS HB.out hg)); have GE317 := AM_ ((GS HB.out hg)); replace HB := AM_ (below_step (BT HB.out) hb); clear hb hbox hg) | ((with_reducible refine gate_dst (N := 3) rfl ?_); refine box_event ?hg (N := 3) ?hd (cs := #[.bool a1_0, .slice A1_1 l1_1.length c1_1, .slice A1_2 l1_2.length c1_2, .slice A1_3 l1_3.length c1_3, .slice A1_4 l1_4.length c1_4, .int .i64 a1_5]) (t := 53) ?hr ?_; (case hd => rfl); (case hg => rfl); (case hr => first | (go_simp; done) | (go_simp; rfl)); intro gb318 hg w13 hbox hb; have BK318 := AM_ (hbox); have GW318 := AM_ ((GS HB.out hg)); have GE318 := AM_ ((GS HB.out hg)); replace HB := AM_ (below_step (BT HB.out) hb); have NB317_318 := AM_ ((NL BK317.out hg)); have NB318_317 := AM_ ((NG BK317.out hg)); replace BK317 := AM_ (BB BK317.out hb); clear hb hbox hg; have hnb14 := NB317_318.out; have hnc14 := NB318_317.out; obtain ⟨hcz15_0, hcz15_1, hcz15_2, hcz15_3, hcz15_4, hcz15_5, hfz15_0, hfz15_1, hfz15_2, hfz15_3, hfz15_4, hfz15_5⟩ := bk6 BK317.out; obtain ⟨hcz16_0, hcz16_1, hcz16_2, hcz16_3, hcz16_4, hcz16_5, hfz16_0, hfz16_1, hfz16_2, hfz16_3, hfz16_4, hfz16_5⟩ := bk6 BK318.out) | (go_at_call 124; (with_reducible refine (impl_EqualStores.calls k _ _ l0_1 _ _ l1_1 true _ ?side1 ?side2 ?side3 ?side4 A5.out).mono ?_); (case side1 => exact CB HR0_1.out HB.out); (case side2 => exact HC0_1.out); (case side3 => exact CB HR1_1.out HB.out); (case side4 => exact HC1_1.out); rintro e w17 ⟨rfl, hb⟩; replace BK317 := AM_ (BB BK317.out hb); replace BK318 := AM_ (BB BK318.out hb); replace HB := AM_ (below_step (BT HB.out) hb); (try clear hb); (try clear hb2); (try clear hk); (try clear hi); obtain ⟨hcz18_0, hcz18_1, hcz18_2, hcz18_3, hcz18_4, hcz18_5, hfz18_0, hfz18_1, hfz18_2, hfz18_3, hfz18_4, hfz18_5⟩ := bk6 BK317.out; obtain ⟨hcz19_0, hcz19_1, hcz19_2, hcz19_3, hcz19_4, hcz19_5, hfz19_0, hfz19_1, hfz19_2, hfz19_3, hfz19_4, hfz19_5⟩ := bk6 BK318.out) | (go_at_call 125; (with_reducible refine (impl_Transaction.calls k _ _ l0_2 _ _ l1_2  true _ ?side1 ?side2 ?side3 ?side4 A7.out).mono ?_); (case side1 => exact CB HR0_2.out HB.out); (case side2 => exact HC0_2.out); (case side3 => exact CB HR1_2.out HB.out); (case side4 => exact HC1_2.out); rintro e w20 ⟨rfl, hb⟩; replace BK317 := AM_ (BB BK317.out hb); replace BK318 := AM_ (BB BK318.out hb); replace HB := AM_ (below_step (BT HB.out) hb); (try clear hb); (try clear hb2); (try clear hk); (try clear hi); obtain ⟨hcz21_0, hcz21_1, hcz21_2, hcz21_3, hcz21_4, hcz21_5, hfz21_0, hfz21_1, hfz21_2, hfz21_3, hfz21_4, hfz21_5⟩ := bk6 BK317.out; obtain ⟨hcz22_0, hcz22_1, hcz22_2, hcz22_3, hcz22_4, hcz22_5, hfz22_0, hfz22_1, hfz22_2, hfz22_3, hfz22_4, hfz22_5⟩ := bk6 BK318.out) | (go_at_call 127; (with_reducible refine (impl_Lock.calls k _ _ l0_3 _ _ l1_3 true _ ?side1 ?side2 ?side3 ?side4 A9.out).mono ?_); (case side1 => exact CB HR0_3.out HB.out); (case side2 => exact HC0_3.out); (case side3 => exact CB HR1_3.out HB.out); (case side4 => exact HC1_3.out); rintro e w' ⟨rfl, ⟨nd, rfl⟩⟩) | (go_at_call 128; (with_reducible refine (impl_Wait.calls k _ _ l0_4 _ _ l1_4 t322 _ ?side1 ?side2 ?side3 ?side4 A11.out).mono ?_); (case side1 => repeat (first | exact (Kd.C_below HR0_4.out (BT HB.out)) | (with_reducible refine Kd.C_alloc ?_ _) | (with_reducible refine Kd.C_drewN ?_ _) | (with_reducible refine Kd.C_drew ?_))); (case side2 => exact HC0_4.out); (case side3 => repeat (first | exact (Kd.C_below HR1_4.out (BT HB.out)) | (with_reducible refine Kd.C_alloc ?_ _) | (with_reducible refine Kd.C_drewN ?_ _) | (with_reducible refine Kd.C_drew ?_))); (case side4 => exact HC1_4.out); rintro e w' ⟨rfl, ⟨nd, rfl⟩⟩))
 go_ret
 exact QT (BT HB.out)

end Go.Proofs.Ytakpkmlbklahhaa.PFnExactEqualEngines
