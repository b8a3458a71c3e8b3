-- Printed by a program of mine (wip/myprint.py), which runs the printer of the kit with contracts of mine beside it.
import Derived.Test.YtakpkmlbklahhaaPFnExactWriteCodex0
import Derived.Test.YtakpkmlbklahhaaPFnExactWriteCodex13
namespace Go.Proofs.Ytakpkmlbklahhaa.PFnExactWriteCode
open Go.RowKit Go.Proofs.YtakpkmlbklahhaaW.PrintWords Go.Proofs.YtakpkmlbklahhaaW.PrintLast Go.Proofs.YtakpkmlbklahhaaW.PrintMore
attribute [local go_sem] max2_int min2_int max_two min_two max_three min_three max_four min_four   -- for this text's walks alone
set_option linter.unusedVariables false
set_option linter.unusedSimpArgs false

/-! ### spec_IsValidStore: function 140 -/
def spec_IsValidStore.l0 : Nat → Int → List (List (S76)) → Option (Bool)
 | 0, _, _ => none
 | k + 1, x3, x281000 => if x3 < (x281000.length : Int) then (if 0 ≤ x3 then ((spec_IsValidChain.f k (rd_L6 x281000 x3)).bind fun t282 => (if t282 = true then (if 0 < ((rd_L6 x281000 x3).length : Int) then (if ((rd_T76 (rd_L6 x281000 x3) 0).f2) > 0 then (if ((rd_L6 x281000 x3).length : Int) > 50 then (some false) else (spec_IsValidStore.l0 k (wrap64 (x3 + 1)) x281000)) else (if ((rd_L6 x281000 x3).length : Int) > 50 then (some false) else (spec_IsValidStore.l0 k (wrap64 (x3 + 1)) x281000))) else (none)) else (some false))) else (none)) else (some ((x281000.length : Int) == 6))
def spec_IsValidStore.f (k : Nat) (l0_0 : List (List (S76))) : Option (Bool) := spec_IsValidStore.l0 k 0 l0_0
theorem spec_IsValidStore.mono_l : ∀ k, (∀ y0 y1, LeO (spec_IsValidStore.l0 k y0 y1) (spec_IsValidStore.l0 (k + 1) y0 y1))
 | 0 => fun _ _ r h => by simp [spec_IsValidStore.l0] at h
 | k + 1 => by
  have ih0 := spec_IsValidStore.mono_l k
  ·intro y0 y1
   unfold spec_IsValidStore.l0
   repeat' first
   | (with_reducible exact ih0 _ _)
   | (with_reducible exact spec_IsValidChain.mono _ _)
   | (with_reducible exact LeO.refl _)
   | (with_reducible exact LeO.none _)
   | (with_reducible refine LeO.ite ?_ ?_)
   | (with_reducible refine LeO.bind ?_ (fun _ => ?_))
   | exact ih0 _ _
   | exact spec_IsValidChain.mono _ _
   | exact LeO.none _
   | refine LeO.ite ?_ ?_
   | refine LeO.bind ?_ (fun _ => ?_)
theorem spec_IsValidStore.mono : ∀ a0 k, LeO (spec_IsValidStore.f k a0) (spec_IsValidStore.f (k + 1) a0) := by
 intro a0 k
 have ih0 := spec_IsValidStore.mono_l k
 unfold spec_IsValidStore.f
 repeat' first
   | (with_reducible exact ih0 _ _)
   | (with_reducible exact spec_IsValidChain.mono _ _)
   | (with_reducible exact LeO.refl _)
   | (with_reducible exact LeO.none _)
   | (with_reducible refine LeO.ite ?_ ?_)
   | (with_reducible refine LeO.bind ?_ (fun _ => ?_))
   | exact ih0 _ _
   | exact spec_IsValidChain.mono _ _
   | exact LeO.none _
   | refine LeO.ite ?_ ?_
   | refine LeO.bind ?_ (fun _ => ?_)
set_option maxHeartbeats 8000000 in
set_option maxRecDepth 100000 in
theorem spec_IsValidStore.calls (k : Nat) (A0_0 : Option Addr) (c0_0 : Nat) (l0_0 : List (List (S76))) (r : Bool) (w : World) (hr0_0 : Kd.C (Kd.slice 76 k76) w A0_0 l0_0.length l0_0) (hc0_0 : l0_0.length ≤ c0_0) (h : spec_IsValidStore.f k l0_0 = some r) :
  Calls Try.prog 140 #[.agg #[.slice A0_0 l0_0.length c0_0]] w fun e w' => e = .returned (.bool r) ∧ Below w.heap.size w w' := by
 have hu49 := Try.underlying49
 have HR0_0 := AM_ hr0_0
 have HC0_0 := AM_ hc0_0
 clear hr0_0 hc0_0
 have HB := AM_ (Below.refl w.heap.size w)
 have H : (spec_IsValidStore.l0 k 0 l0_0) = some r := h
 clear h
 have H' := AM_ H
 clear H
 go_enter Try.func140, Try.ntmps140
 go_wp2_with (first | ((with_reducible refine gate_dst (N := 1) rfl ?_); (try (refine gate_guard (by rfl) ?_; dsimp only)); refine box_event ?hg (N := 1) ?hd (cs := #[.slice A0_0 l0_0.length c0_0]) (t := 49) ?hr ?_; (case hd => rfl); (case hg => rfl); (case hr => first | (go_simp; done) | (go_simp; rfl)); intro gb280 hg w2 hbox hb; have BK280 := AM_ (hbox); have GW280 := AM_ ((GS HB.out hg)); have GE280 := AM_ ((GS HB.out hg)); replace HB := AM_ (below_step (BT HB.out) hb); clear hb hbox hg))
 go_loopg [3] k (fun kq v3 w' => ∃ (x3_1 : Int), v3 = .int .i64 x3_1 ∧ Aside0 (spec_IsValidStore.l0 kq x3_1 l0_0 = some r) ∧ Aside0 (kq ≤ k) ∧ Aside0 (w'.heap[gb280]? = some (.cells #[(.slice A0_0 l0_0.length c0_0)] 49 (0, 0))) ∧ Aside0 (Below w.heap.size w w'))
 case atStart => exact ⟨(0), (by first | rfl | (simp; done) | (simp [*]; done)), H', ⟨Nat.le_refl _⟩, ⟨BH BK280.out⟩, ⟨BT HB.out⟩⟩
 case round =>
  clear H'
  try clear c1
  try clear p2
  obtain ⟨x3_1, rfl, HA, HK1, BK280, HB⟩ := hrel
  cases gk with
  | zero => exact absurd HA.out (by simp [spec_IsValidStore.l0])
  | succ k1 =>
   have H := HA.out
   clear HA
   simp only [spec_IsValidStore.l0] at H
   by_cases c3 : x3_1 < (l0_0.length : Int)
   rotate_left
   ·rw [if_neg c3] at H
    have c3b0 : decide (x3_1 < (l0_0.length : Int)) = false := decide_eq_false c3
    clear c3
    obtain rfl := Option.some.inj H
    obtain ⟨hcz25_0, hfz25_0⟩ := bk1 BK280.out
    go_wp2
    go_ret
    exact QT (BT HB.out)
   rw [if_pos c3] at H
   have c3b0 : decide (x3_1 < (l0_0.length : Int)) = true := decide_eq_true c3
   clear c3
   by_cases c4 : 0 ≤ x3_1
   rotate_left
   ·rw [if_neg c4] at H
    exact absurd H (by simp)
   rw [if_pos c4] at H
   have c4b0 : decide (0 ≤ x3_1) = true := decide_eq_true c4
   clear c4
   replace H := Option.bind_eq_some_iff.mp H
   obtain ⟨t282, A50, H⟩ := H
   replace H : (if t282 = true then (if 0 < ((rd_L6 l0_0 x3_1).length : Int) then (if ((rd_T76 (rd_L6 l0_0 x3_1) 0).f2) > 0 then (if ((rd_L6 l0_0 x3_1).length : Int) > 50 then (some false) else (spec_IsValidStore.l0 k1 (wrap64 (x3_1 + 1)) l0_0)) else (if ((rd_L6 l0_0 x3_1).length : Int) > 50 then (some false) else (spec_IsValidStore.l0 k1 (wrap64 (x3_1 + 1)) l0_0))) else (none)) else (some false)) = some r := H
   have A5 := AM_ A50
   clear A50
   by_cases c6 : t282 = true
   rotate_left
   ·replace c6 := Bool.eq_false_iff.mpr c6
    subst c6
    have H1 : (some false) = some r := by rw [if_neg (show ¬ (false = true) by decide)] at H; exact H
    clear H
    have H := H1
    clear H1
    obtain rfl := Option.some.inj H
    obtain ⟨hcz23_0, hfz23_0⟩ := bk1 BK280.out
    have p281 : 0 ≤ (x3_1 : Int) := DT
    have q281 : x3_1 < (l0_0.length : Int) := DT
    obtain ⟨ad281, A281_0, c281_0, e281, hx281_0, hl281_0, hi281_0⟩ := at_L6 HR0_0.out x3_1 p281 q281
    cases e281
    replace hx281_0 := BC HB.out hx281_0
    have HR281_0 := AM_ hi281_0
    have HC281_0 := AM_ hl281_0
    clear hi281_0 hl281_0
    replace p281 := eq_true p281
    replace q281 := eq_true q281
    go_wp2_with (first | ((with_reducible refine gate_callee (f := 136) rfl ?_); refine goesL_ (some 16) rfl rfl Try.func136 (by kernel_rfl) rfl #[.slice A281_0 (rd_L6 l0_0 x3_1).length c281_0] rfl (by (try simp only [List.map_toArray, List.map_cons, List.map_nil]); first | done | rfl | (simp only [List.length_drop, List.length_take]; rfl)) ?_; (with_reducible refine (spec_IsValidChain.calls k1 _ _ (rd_L6 l0_0 x3_1) false _ ?side1 ?side2 A5.out).mono ?_); (case side1 => exact CB HR281_0.out HB.out); (case side2 => exact HC281_0.out); rintro e w24 ⟨rfl, hb⟩; refine ⟨_, rfl, ?_⟩; replace BK280 := AM_ (BB BK280.out hb); replace HB := AM_ (below_step (BT HB.out) hb); (try clear hb); (try clear hb2); (try clear hk); (try clear hi)))
    go_ret
    exact QT (BT HB.out)
   subst c6
   have H1 : (if 0 < ((rd_L6 l0_0 x3_1).length : Int) then (if ((rd_T76 (rd_L6 l0_0 x3_1) 0).f2) > 0 then (if ((rd_L6 l0_0 x3_1).length : Int) > 50 then (some false) else (spec_IsValidStore.l0 k1 (wrap64 (x3_1 + 1)) l0_0)) else (if ((rd_L6 l0_0 x3_1).length : Int) > 50 then (some false) else (spec_IsValidStore.l0 k1 (wrap64 (x3_1 + 1)) l0_0))) else (none)) = some r := by rw [if_pos rfl] at H; exact H
   clear H
   have H := H1
   clear H1
   by_cases c7 : 0 < ((rd_L6 l0_0 x3_1).length : Int)
   rotate_left
   ·rw [if_neg c7] at H
    exact absurd H (by simp)
   rw [if_pos c7] at H
   have c7b0 : decide (0 < ((rd_L6 l0_0 x3_1).length : Int)) = true := decide_eq_true c7
   have c7b1 : decide (0 < (rd_L6 l0_0 x3_1).length) = true := decide_eq_true (by omega)
   clear c7
   by_cases c8 : ((rd_T76 (rd_L6 l0_0 x3_1) 0).f2) > 0
   rotate_left
   ·rw [if_neg c8] at H
    have c8b0 : decide (0 < ((rd_T76 (rd_L6 l0_0 x3_1) 0).f2)) = false := decide_eq_false c8
    clear c8
    by_cases c16 : ((rd_L6 l0_0 x3_1).length : Int) > 50
    ·rw [if_pos c16] at H
     have c16b0 : decide (50 < ((rd_L6 l0_0 x3_1).length : Int)) = true := decide_eq_true c16
     have c16b1 : decide (50 < (rd_L6 l0_0 x3_1).length) = true := decide_eq_true (by omega)
     clear c16
     obtain rfl := Option.some.inj H
     obtain ⟨hcz17_0, hfz17_0⟩ := bk1 BK280.out
     have p281 : 0 ≤ (x3_1 : Int) := DT
     have q281 : x3_1 < (l0_0.length : Int) := DT
     obtain ⟨ad281, A281_0, c281_0, e281, hx281_0, hl281_0, hi281_0⟩ := at_L6 HR0_0.out x3_1 p281 q281
     cases e281
     replace hx281_0 := BC HB.out hx281_0
     have HR281_0 := AM_ hi281_0
     have HC281_0 := AM_ hl281_0
     clear hi281_0 hl281_0
     replace p281 := eq_true p281
     replace q281 := eq_true q281
     go_wp2_with (first | ((with_reducible refine gate_callee (f := 136) rfl ?_); refine goesL_ (some 16) rfl rfl Try.func136 (by kernel_rfl) rfl #[.slice A281_0 (rd_L6 l0_0 x3_1).length c281_0] rfl (by (try simp only [List.map_toArray, List.map_cons, List.map_nil]); first | done | rfl | (simp only [List.length_drop, List.length_take]; rfl)) ?_; (with_reducible refine (spec_IsValidChain.calls k1 _ _ (rd_L6 l0_0 x3_1) true _ ?side1 ?side2 A5.out).mono ?_); (case side1 => exact CB HR281_0.out HB.out); (case side2 => exact HC281_0.out); rintro e w18 ⟨rfl, hb⟩; refine ⟨_, rfl, ?_⟩; replace BK280 := AM_ (BB BK280.out hb); replace HB := AM_ (below_step (BT HB.out) hb); (try clear hb); (try clear hb2); (try clear hk); (try clear hi); obtain ⟨hcz19_0, hfz19_0⟩ := bk1 BK280.out; have p283 : 0 ≤ (x3_1 : Int) := DT; have q283 : x3_1 < (l0_0.length : Int) := DT; obtain ⟨ad283, A283_0, c283_0, e283, hx283_0, hl283_0, hi283_0⟩ := at_L6 HR0_0.out x3_1 p283 q283; obtain rfl : ad281 = ad283 := (by injection e283); replace hx283_0 := BD HB.out hx283_0; have HR283_0 := AM_ hi283_0; have HC283_0 := AM_ hl283_0; clear hi283_0 hl283_0; replace p283 := eq_true p283; replace q283 := eq_true q283; have p284 : 0 ≤ (0 : Int) := (by omega); have q284 : 0 < ((rd_L6 l0_0 x3_1).length : Int) := DT; obtain ⟨ad284, e284, hx284_0, hx284_1, hx284_2, hx284_3, hx284_4⟩ := at_T76 HR283_0.out 0 p284 q284; cases e284; have qi284 : (0 < (rd_L6 l0_0 x3_1).length) = True := eq_true (by omega); (try rw [show ((0 : Int)).toNat = 0 from rfl] at hx284_0); (try rw [show 0 * 5 = 0 from rfl] at hx284_0); (try rw [Addr.add_zero'] at hx284_0); (try rw [show ((0 : Int)).toNat = 0 from rfl] at hx284_1); (try rw [show 0 * 5 = 0 from rfl] at hx284_1); (try rw [Addr.add_zero'] at hx284_1); (try rw [show ((0 : Int)).toNat = 0 from rfl] at hx284_2); (try rw [show 0 * 5 = 0 from rfl] at hx284_2); (try rw [Addr.add_zero'] at hx284_2); (try rw [show ((0 : Int)).toNat = 0 from rfl] at hx284_3); (try rw [show 0 * 5 = 0 from rfl] at hx284_3); (try rw [Addr.add_zero'] at hx284_3); (try rw [show ((0 : Int)).toNat = 0 from rfl] at hx284_4); (try rw [show 0 * 5 = 0 from rfl] at hx284_4); (try rw [Addr.add_zero'] at hx284_4); replace hx284_0 := BD HB.out hx284_0; replace hx284_1 := BD HB.out hx284_1; replace hx284_2 := BD HB.out hx284_2; replace hx284_3 := BD HB.out hx284_3; replace hx284_4 := BD HB.out hx284_4; replace p284 := eq_true p284; replace q284 := eq_true q284; have p287 : 0 ≤ (x3_1 : Int) := DT; have q287 : x3_1 < (l0_0.length : Int) := DT; obtain ⟨ad287, A287_0, c287_0, e287, hx287_0, hl287_0, hi287_0⟩ := at_L6 HR0_0.out x3_1 p287 q287; obtain rfl : ad281 = ad287 := (by injection e287); replace hx287_0 := BD HB.out hx287_0; have HR287_0 := AM_ hi287_0; have HC287_0 := AM_ hl287_0; clear hi287_0 hl287_0; replace p287 := eq_true p287; replace q287 := eq_true q287; have ea_ := Option.some.inj (hx283_0.symm.trans hx287_0); injection ea_ with ea_ en_ ec_; subst ea_; subst ec_; clear en_))
     go_ret
     exact QT (BT HB.out)
    rw [if_neg c16] at H
    have c16b0 : decide (50 < ((rd_L6 l0_0 x3_1).length : Int)) = false := decide_eq_false c16
    have c16b1 : decide (50 < (rd_L6 l0_0 x3_1).length) = false := decide_eq_false (by omega)
    clear c16
    have H' := AM_ H
    clear H
    obtain ⟨hcz20_0, hfz20_0⟩ := bk1 BK280.out
    have p281 : 0 ≤ (x3_1 : Int) := DT
    have q281 : x3_1 < (l0_0.length : Int) := DT
    obtain ⟨ad281, A281_0, c281_0, e281, hx281_0, hl281_0, hi281_0⟩ := at_L6 HR0_0.out x3_1 p281 q281
    cases e281
    replace hx281_0 := BC HB.out hx281_0
    have HR281_0 := AM_ hi281_0
    have HC281_0 := AM_ hl281_0
    clear hi281_0 hl281_0
    replace p281 := eq_true p281
    replace q281 := eq_true q281
    go_wp2_with (first | ((with_reducible refine gate_callee (f := 136) rfl ?_); refine goesL_ (some 16) rfl rfl Try.func136 (by kernel_rfl) rfl #[.slice A281_0 (rd_L6 l0_0 x3_1).length c281_0] rfl (by (try simp only [List.map_toArray, List.map_cons, List.map_nil]); first | done | rfl | (simp only [List.length_drop, List.length_take]; rfl)) ?_; (with_reducible refine (spec_IsValidChain.calls k1 _ _ (rd_L6 l0_0 x3_1) true _ ?side1 ?side2 A5.out).mono ?_); (case side1 => exact CB HR281_0.out HB.out); (case side2 => exact HC281_0.out); rintro e w21 ⟨rfl, hb⟩; refine ⟨_, rfl, ?_⟩; replace BK280 := AM_ (BB BK280.out hb); replace HB := AM_ (below_step (BT HB.out) hb); (try clear hb); (try clear hb2); (try clear hk); (try clear hi); obtain ⟨hcz22_0, hfz22_0⟩ := bk1 BK280.out; have p283 : 0 ≤ (x3_1 : Int) := DT; have q283 : x3_1 < (l0_0.length : Int) := DT; obtain ⟨ad283, A283_0, c283_0, e283, hx283_0, hl283_0, hi283_0⟩ := at_L6 HR0_0.out x3_1 p283 q283; obtain rfl : ad281 = ad283 := (by injection e283); replace hx283_0 := BD HB.out hx283_0; have HR283_0 := AM_ hi283_0; have HC283_0 := AM_ hl283_0; clear hi283_0 hl283_0; replace p283 := eq_true p283; replace q283 := eq_true q283; have p284 : 0 ≤ (0 : Int) := (by omega); have q284 : 0 < ((rd_L6 l0_0 x3_1).length : Int) := DT; obtain ⟨ad284, e284, hx284_0, hx284_1, hx284_2, hx284_3, hx284_4⟩ := at_T76 HR283_0.out 0 p284 q284; cases e284; have qi284 : (0 < (rd_L6 l0_0 x3_1).length) = True := eq_true (by omega); (try rw [show ((0 : Int)).toNat = 0 from rfl] at hx284_0); (try rw [show 0 * 5 = 0 from rfl] at hx284_0); (try rw [Addr.add_zero'] at hx284_0); (try rw [show ((0 : Int)).toNat = 0 from rfl] at hx284_1); (try rw [show 0 * 5 = 0 from rfl] at hx284_1); (try rw [Addr.add_zero'] at hx284_1); (try rw [show ((0 : Int)).toNat = 0 from rfl] at hx284_2); (try rw [show 0 * 5 = 0 from rfl] at hx284_2); (try rw [Addr.add_zero'] at hx284_2); (try rw [show ((0 : Int)).toNat = 0 from rfl] at hx284_3); (try rw [show 0 * 5 = 0 from rfl] at hx284_3); (try rw [Addr.add_zero'] at hx284_3); (try rw [show ((0 : Int)).toNat = 0 from rfl] at hx284_4); (try rw [show 0 * 5 = 0 from rfl] at hx284_4); (try rw [Addr.add_zero'] at hx284_4); replace hx284_0 := BD HB.out hx284_0; replace hx284_1 := BD HB.out hx284_1; replace hx284_2 := BD HB.out hx284_2; replace hx284_3 := BD HB.out hx284_3; replace hx284_4 := BD HB.out hx284_4; replace p284 := eq_true p284; replace q284 := eq_true q284; have p287 : 0 ≤ (x3_1 : Int) := DT; have q287 : x3_1 < (l0_0.length : Int) := DT; obtain ⟨ad287, A287_0, c287_0, e287, hx287_0, hl287_0, hi287_0⟩ := at_L6 HR0_0.out x3_1 p287 q287; obtain rfl : ad281 = ad287 := (by injection e287); replace hx287_0 := BD HB.out hx287_0; have HR287_0 := AM_ hi287_0; have HC287_0 := AM_ hl287_0; clear hi287_0 hl287_0; replace p287 := eq_true p287; replace q287 := eq_true q287; have ea_ := Option.some.inj (hx283_0.symm.trans hx287_0); injection ea_ with ea_ en_ ec_; subst ea_; subst ec_; clear en_))
    go_roundg k1
    case measure => have := HK1.out; omega
    case rel => exact ⟨(wrap64 (x3_1 + 1)), (by first | rfl | (simp; done) | (simp [*]; done)), H', ⟨by have := HK1.out; omega⟩, ⟨BH BK280.out⟩, ⟨BT HB.out⟩⟩
   rw [if_pos c8] at H
   have c8b0 : decide (0 < ((rd_T76 (rd_L6 l0_0 x3_1) 0).f2)) = true := decide_eq_true c8
   clear c8
   by_cases c9 : ((rd_L6 l0_0 x3_1).length : Int) > 50
   ·rw [if_pos c9] at H
    have c9b0 : decide (50 < ((rd_L6 l0_0 x3_1).length : Int)) = true := decide_eq_true c9
    have c9b1 : decide (50 < (rd_L6 l0_0 x3_1).length) = true := decide_eq_true (by omega)
    clear c9
    obtain rfl := Option.some.inj H
    obtain ⟨hcz10_0, hfz10_0⟩ := bk1 BK280.out
    have p281 : 0 ≤ (x3_1 : Int) := DT
    have q281 : x3_1 < (l0_0.length : Int) := DT
    obtain ⟨ad281, A281_0, c281_0, e281, hx281_0, hl281_0, hi281_0⟩ := at_L6 HR0_0.out x3_1 p281 q281
    cases e281
    replace hx281_0 := BC HB.out hx281_0
    have HR281_0 := AM_ hi281_0
    have HC281_0 := AM_ hl281_0
    clear hi281_0 hl281_0
    replace p281 := eq_true p281
    replace q281 := eq_true q281
    go_wp2_with (first | ((with_reducible refine gate_callee (f := 136) rfl ?_); refine goesL_ (some 16) rfl rfl Try.func136 (by kernel_rfl) rfl #[.slice A281_0 (rd_L6 l0_0 x3_1).length c281_0] rfl (by (try simp only [List.map_toArray, List.map_cons, List.map_nil]); first | done | rfl | (simp only [List.length_drop, List.length_take]; rfl)) ?_; (with_reducible refine (spec_IsValidChain.calls k1 _ _ (rd_L6 l0_0 x3_1) true _ ?side1 ?side2 A5.out).mono ?_); (case side1 => exact CB HR281_0.out HB.out); (case side2 => exact HC281_0.out); rintro e w11 ⟨rfl, hb⟩; refine ⟨_, rfl, ?_⟩; replace BK280 := AM_ (BB BK280.out hb); replace HB := AM_ (below_step (BT HB.out) hb); (try clear hb); (try clear hb2); (try clear hk); (try clear hi); obtain ⟨hcz12_0, hfz12_0⟩ := bk1 BK280.out; have p283 : 0 ≤ (x3_1 : Int) := DT; have q283 : x3_1 < (l0_0.length : Int) := DT; obtain ⟨ad283, A283_0, c283_0, e283, hx283_0, hl283_0, hi283_0⟩ := at_L6 HR0_0.out x3_1 p283 q283; obtain rfl : ad281 = ad283 := (by injection e283); replace hx283_0 := BD HB.out hx283_0; have HR283_0 := AM_ hi283_0; have HC283_0 := AM_ hl283_0; clear hi283_0 hl283_0; replace p283 := eq_true p283; replace q283 := eq_true q283; have p284 : 0 ≤ (0 : Int) := (by omega); have q284 : 0 < ((rd_L6 l0_0 x3_1).length : Int) := DT; obtain ⟨ad284, e284, hx284_0, hx284_1, hx284_2, hx284_3, hx284_4⟩ := at_T76 HR283_0.out 0 p284 q284; cases e284; have qi284 : (0 < (rd_L6 l0_0 x3_1).length) = True := eq_true (by omega); (try rw [show ((0 : Int)).toNat = 0 from rfl] at hx284_0); (try rw [show 0 * 5 = 0 from rfl] at hx284_0); (try rw [Addr.add_zero'] at hx284_0); (try rw [show ((0 : Int)).toNat = 0 from rfl] at hx284_1); (try rw [show 0 * 5 = 0 from rfl] at hx284_1); (try rw [Addr.add_zero'] at hx284_1); (try rw [show ((0 : Int)).toNat = 0 from rfl] at hx284_2); (try rw [show 0 * 5 = 0 from rfl] at hx284_2); (try rw [Addr.add_zero'] at hx284_2); (try rw [show ((0 : Int)).toNat = 0 from rfl] at hx284_3); (try rw [show 0 * 5 = 0 from rfl] at hx284_3); (try rw [Addr.add_zero'] at hx284_3); (try rw [show ((0 : Int)).toNat = 0 from rfl] at hx284_4); (try rw [show 0 * 5 = 0 from rfl] at hx284_4); (try rw [Addr.add_zero'] at hx284_4); replace hx284_0 := BD HB.out hx284_0; replace hx284_1 := BD HB.out hx284_1; replace hx284_2 := BD HB.out hx284_2; replace hx284_3 := BD HB.out hx284_3; replace hx284_4 := BD HB.out hx284_4; replace p284 := eq_true p284; replace q284 := eq_true q284; have p285 : 0 ≤ (x3_1 : Int) := DT; have q285 : x3_1 < (l0_0.length : Int) := DT; obtain ⟨ad285, A285_0, c285_0, e285, hx285_0, hl285_0, hi285_0⟩ := at_L6 HR0_0.out x3_1 p285 q285; obtain rfl : ad281 = ad285 := (by injection e285); replace hx285_0 := BD HB.out hx285_0; have HR285_0 := AM_ hi285_0; have HC285_0 := AM_ hl285_0; clear hi285_0 hl285_0; replace p285 := eq_true p285; replace q285 := eq_true q285; have ea_ := Option.some.inj (hx283_0.symm.trans hx285_0); injection ea_ with ea_ en_ ec_; subst ea_; subst ec_; clear en_))
    go_ret
    exact QT (BT HB.out)
   rw [if_neg c9] at H
   have c9b0 : decide (50 < ((rd_L6 l0_0 x3_1).length : Int)) = false := decide_eq_false c9
   have c9b1 : decide (50 < (rd_L6 l0_0 x3_1).length) = false := decide_eq_false (by omega)
   clear c9
   have H' := AM_ H
   clear H
   obtain ⟨hcz13_0, hfz13_0⟩ := bk1 BK280.out
   have p281 : 0 ≤ (x3_1 : Int) := DT
   have q281 : x3_1 < (l0_0.length : Int) := DT
   obtain ⟨ad281, A281_0, c281_0, e281, hx281_0, hl281_0, hi281_0⟩ := at_L6 HR0_0.out x3_1 p281 q281
   cases e281
   replace hx281_0 := BC HB.out hx281_0
   have HR281_0 := AM_ hi281_0
   have HC281_0 := AM_ hl281_0
   clear hi281_0 hl281_0
   replace p281 := eq_true p281
   replace q281 := eq_true q281
   go_wp2_with (first | ((with_reducible refine gate_callee (f := 136) rfl ?_); refine goesL_ (some 16) rfl rfl Try.func136 (by kernel_rfl) rfl #[.slice A281_0 (rd_L6 l0_0 x3_1).length c281_0] rfl (by (try simp only [List.map_toArray, List.map_cons, List.map_nil]); first | done | rfl | (simp only [List.length_drop, List.length_take]; rfl)) ?_; (with_reducible refine (spec_IsValidChain.calls k1 _ _ (rd_L6 l0_0 x3_1) true _ ?side1 ?side2 A5.out).mono ?_); (case side1 => exact CB HR281_0.out HB.out); (case side2 => exact HC281_0.out); rintro e w14 ⟨rfl, hb⟩; refine ⟨_, rfl, ?_⟩; replace BK280 := AM_ (BB BK280.out hb); replace HB := AM_ (below_step (BT HB.out) hb); (try clear hb); (try clear hb2); (try clear hk); (try clear hi); obtain ⟨hcz15_0, hfz15_0⟩ := bk1 BK280.out; have p283 : 0 ≤ (x3_1 : Int) := DT; have q283 : x3_1 < (l0_0.length : Int) := DT; obtain ⟨ad283, A283_0, c283_0, e283, hx283_0, hl283_0, hi283_0⟩ := at_L6 HR0_0.out x3_1 p283 q283; obtain rfl : ad281 = ad283 := (by injection e283); replace hx283_0 := BD HB.out hx283_0; have HR283_0 := AM_ hi283_0; have HC283_0 := AM_ hl283_0; clear hi283_0 hl283_0; replace p283 := eq_true p283; replace q283 := eq_true q283; have p284 : 0 ≤ (0 : Int) := (by omega); have q284 : 0 < ((rd_L6 l0_0 x3_1).length : Int) := DT; obtain ⟨ad284, e284, hx284_0, hx284_1, hx284_2, hx284_3, hx284_4⟩ := at_T76 HR283_0.out 0 p284 q284; cases e284; have qi284 : (0 < (rd_L6 l0_0 x3_1).length) = True := eq_true (by omega); (try rw [show ((0 : Int)).toNat = 0 from rfl] at hx284_0); (try rw [show 0 * 5 = 0 from rfl] at hx284_0); (try rw [Addr.add_zero'] at hx284_0); (try rw [show ((0 : Int)).toNat = 0 from rfl] at hx284_1); (try rw [show 0 * 5 = 0 from rfl] at hx284_1); (try rw [Addr.add_zero'] at hx284_1); (try rw [show ((0 : Int)).toNat = 0 from rfl] at hx284_2); (try rw [show 0 * 5 = 0 from rfl] at hx284_2); (try rw [Addr.add_zero'] at hx284_2); (try rw [show ((0 : Int)).toNat = 0 from rfl] at hx284_3); (try rw [show 0 * 5 = 0 from rfl] at hx284_3); (try rw [Addr.add_zero'] at hx284_3); (try rw [show ((0 : Int)).toNat = 0 from rfl] at hx284_4); (try rw [show 0 * 5 = 0 from rfl] at hx284_4); (try rw [Addr.add_zero'] at hx284_4); replace hx284_0 := BD HB.out hx284_0; replace hx284_1 := BD HB.out hx284_1; replace hx284_2 := BD HB.out hx284_2; replace hx284_3 := BD HB.out hx284_3; replace hx284_4 := BD HB.out hx284_4; replace p284 := eq_true p284; replace q284 := eq_true q284; have p285 : 0 ≤ (x3_1 : Int) := DT; have q285 : x3_1 < (l0_0.length : Int) := DT; obtain ⟨ad285, A285_0, c285_0, e285, hx285_0, hl285_0, hi285_0⟩ := at_L6 HR0_0.out x3_1 p285 q285; obtain rfl : ad281 = ad285 := (by injection e285); replace hx285_0 := BD HB.out hx285_0; have HR285_0 := AM_ hi285_0; have HC285_0 := AM_ hl285_0; clear hi285_0 hl285_0; replace p285 := eq_true p285; replace q285 := eq_true q285; have ea_ := Option.some.inj (hx283_0.symm.trans hx285_0); injection ea_ with ea_ en_ ec_; subst ea_; subst ec_; clear en_; have p286 : 0 ≤ (x3_1 : Int) := DT; have q286 : x3_1 < (l0_0.length : Int) := DT; obtain ⟨ad286, A286_0, c286_0, e286, hx286_0, hl286_0, hi286_0⟩ := at_L6 HR0_0.out x3_1 p286 q286; obtain rfl : ad281 = ad286 := (by injection e286); replace hx286_0 := BD HB.out hx286_0; have HR286_0 := AM_ hi286_0; have HC286_0 := AM_ hl286_0; clear hi286_0 hl286_0; replace p286 := eq_true p286; replace q286 := eq_true q286; have ea_ := Option.some.inj (hx283_0.symm.trans hx286_0); injection ea_ with ea_ en_ ec_; subst ea_; subst ec_; clear en_))
   go_roundg k1
   case measure => have := HK1.out; omega
   case rel => exact ⟨(wrap64 (x3_1 + 1)), (by first | rfl | (simp; done) | (simp [*]; done)), H', ⟨by have := HK1.out; omega⟩, ⟨BH BK280.out⟩, ⟨BT HB.out⟩⟩

/-! ### spec_l5Before: function 196 -/
def spec_l5Before.f (a0_0 : Int) (a0_1 : Int) (a1_0 : Int) (a1_1 : Int) : Option (Bool) := if a0_0 < a1_0 then (some true) else (if a0_0 = a1_0 then (some (decide (a0_1 < a1_1))) else (some false))
set_option maxHeartbeats 8000000 in
set_option maxRecDepth 100000 in
theorem spec_l5Before.calls (a0_0 : Int) (a0_1 : Int) (a1_0 : Int) (a1_1 : Int) (r : Bool) (w : World) (h : spec_l5Before.f a0_0 a0_1 a1_0 a1_1 = some r) :
  Calls Try.prog 196 #[.agg #[.int .i64 a0_0, .int .i64 a0_1], .agg #[.int .i64 a1_0, .int .i64 a1_1]] w fun e w' => e = .returned (.bool r) ∧ Below w.heap.size w w' := by
 have hu165 := Try.underlying165
 have HB := AM_ (Below.refl w.heap.size w)
 have H : (if a0_0 < a1_0 then (some true) else (if a0_0 = a1_0 then (some (decide (a0_1 < a1_1))) else (some false))) = some r := h
 clear h
 by_cases c3 : a0_0 < a1_0
 ·rw [if_pos c3] at H
  have c3b0 : decide (a0_0 < a1_0) = true := decide_eq_true c3
  clear c3
  obtain rfl := Option.some.inj H
  go_enter Try.func196, Try.ntmps196
  go_wp2_with (first | ((with_reducible refine gate_dst (N := 2) rfl ?_); refine box_event ?hg (N := 2) ?hd (cs := #[.int .i64 a0_0, .int .i64 a0_1]) (t := 165) ?hr ?_; (case hd => rfl); (case hg => rfl); (case hr => first | (go_simp; done) | (go_simp; rfl)); intro gb288 hg w4 hbox hb; have BK288 := AM_ (hbox); have GW288 := AM_ ((GS HB.out hg)); have GE288 := AM_ ((GS HB.out hg)); replace HB := AM_ (below_step (BT HB.out) hb); clear hb hbox hg) | ((with_reducible refine gate_dst (N := 3) rfl ?_); refine box_event ?hg (N := 3) ?hd (cs := #[.int .i64 a1_0, .int .i64 a1_1]) (t := 165) ?hr ?_; (case hd => rfl); (case hg => rfl); (case hr => first | (go_simp; done) | (go_simp; rfl)); intro gb289 hg w5 hbox hb; have BK289 := AM_ (hbox); have GW289 := AM_ ((GS HB.out hg)); have GE289 := AM_ ((GS HB.out hg)); replace HB := AM_ (below_step (BT HB.out) hb); have NB288_289 := AM_ ((NL BK288.out hg)); have NB289_288 := AM_ ((NG BK288.out hg)); replace BK288 := AM_ (BB BK288.out hb); clear hb hbox hg; have hnb6 := NB288_289.out; have hnc6 := NB289_288.out; obtain ⟨hcz7_0, hcz7_1, hfz7_0, hfz7_1⟩ := bk2 BK288.out; obtain ⟨hcz8_0, hcz8_1, hfz8_0, hfz8_1⟩ := bk2 BK289.out))
  go_ret
  exact QT (BT HB.out)
 rw [if_neg c3] at H
 have c3b0 : decide (a0_0 < a1_0) = false := decide_eq_false c3
 clear c3
 by_cases c9 : a0_0 = a1_0
 rotate_left
 ·rw [if_neg c9] at H
  have c9b0 : (a0_0 == a1_0) = false := beq_eq_false_iff_ne.mpr c9
  have c9b1 : (a0_0 != a1_0) = true := bne_iff_ne.mpr c9
  obtain rfl := Option.some.inj H
  go_enter Try.func196, Try.ntmps196
  go_wp2_with (first | ((with_reducible refine gate_dst (N := 2) rfl ?_); refine box_event ?hg (N := 2) ?hd (cs := #[.int .i64 a0_0, .int .i64 a0_1]) (t := 165) ?hr ?_; (case hd => rfl); (case hg => rfl); (case hr => first | (go_simp; done) | (go_simp; rfl)); intro gb288 hg w15 hbox hb; have BK288 := AM_ (hbox); have GW288 := AM_ ((GS HB.out hg)); have GE288 := AM_ ((GS HB.out hg)); replace HB := AM_ (below_step (BT HB.out) hb); clear hb hbox hg) | ((with_reducible refine gate_dst (N := 3) rfl ?_); refine box_event ?hg (N := 3) ?hd (cs := #[.int .i64 a1_0, .int .i64 a1_1]) (t := 165) ?hr ?_; (case hd => rfl); (case hg => rfl); (case hr => first | (go_simp; done) | (go_simp; rfl)); intro gb289 hg w16 hbox hb; have BK289 := AM_ (hbox); have GW289 := AM_ ((GS HB.out hg)); have GE289 := AM_ ((GS HB.out hg)); replace HB := AM_ (below_step (BT HB.out) hb); have NB288_289 := AM_ ((NL BK288.out hg)); have NB289_288 := AM_ ((NG BK288.out hg)); replace BK288 := AM_ (BB BK288.out hb); clear hb hbox hg; have hnb17 := NB288_289.out; have hnc17 := NB289_288.out; obtain ⟨hcz18_0, hcz18_1, hfz18_0, hfz18_1⟩ := bk2 BK288.out; obtain ⟨hcz19_0, hcz19_1, hfz19_0, hfz19_1⟩ := bk2 BK289.out))
  go_ret
  exact QT (BT HB.out)
 rw [if_pos c9] at H
 have c9b0 : (a0_0 == a1_0) = true := beq_iff_eq.mpr c9
 have c9b1 : (a0_0 != a1_0) = false := bne_eq_false_iff_eq.mpr c9
 clear c9
 obtain rfl := Option.some.inj H
 go_enter Try.func196, Try.ntmps196
 go_wp2_with (first | ((with_reducible refine gate_dst (N := 2) rfl ?_); refine box_event ?hg (N := 2) ?hd (cs := #[.int .i64 a0_0, .int .i64 a0_1]) (t := 165) ?hr ?_; (case hd => rfl); (case hg => rfl); (case hr => first | (go_simp; done) | (go_simp; rfl)); intro gb288 hg w10 hbox hb; have BK288 := AM_ (hbox); have GW288 := AM_ ((GS HB.out hg)); have GE288 := AM_ ((GS HB.out hg)); replace HB := AM_ (below_step (BT HB.out) hb); clear hb hbox hg) | ((with_reducible refine gate_dst (N := 3) rfl ?_); refine box_event ?hg (N := 3) ?hd (cs := #[.int .i64 a1_0, .int .i64 a1_1]) (t := 165) ?hr ?_; (case hd => rfl); (case hg => rfl); (case hr => first | (go_simp; done) | (go_simp; rfl)); intro gb289 hg w11 hbox hb; have BK289 := AM_ (hbox); have GW289 := AM_ ((GS HB.out hg)); have GE289 := AM_ ((GS HB.out hg)); replace HB := AM_ (below_step (BT HB.out) hb); have NB288_289 := AM_ ((NL BK288.out hg)); have NB289_288 := AM_ ((NG BK288.out hg)); replace BK288 := AM_ (BB BK288.out hb); clear hb hbox hg; have hnb12 := NB288_289.out; have hnc12 := NB289_288.out; obtain ⟨hcz13_0, hcz13_1, hfz13_0, hfz13_1⟩ := bk2 BK288.out; obtain ⟨hcz14_0, hcz14_1, hfz14_0, hfz14_1⟩ := bk2 BK289.out))
 go_ret
 exact QT (BT HB.out)

end Go.Proofs.Ytakpkmlbklahhaa.PFnExactWriteCode
