-- Printed by wip/myprint.py.
import Derived.Test.YtdfbmaiboadodaaGreatDoorPFnExactParseHistoryx13
import Derived.Test.YtdfbmaiboadodaaGreatDoorPFnExactParseHistoryx14
namespace Go.Proofs.YtdfbmaiboadodaaGreatDoor.PFnExactParseHistory
open Go.RowKit Go.Proofs.YtdfbmaiboadodaaGreatDoorW.PrintWords Go.Proofs.YtdfbmaiboadodaaGreatDoorW.PrintLast Go.Proofs.YtdfbmaiboadodaaGreatDoorW.PrintMore
set_option maxHeartbeats 8000000
set_option maxRecDepth 100000
set_option linter.unusedVariables false
set_option linter.unusedSimpArgs false

/-! ### impl_FormatHistory: function 16 -/
def impl_FormatHistory.l0 : Nat → List ByteArray → List (S33) → Int → Int → Option (ByteArray)
 | 0, _, _, _, _ => none
 | k + 1, x3, x15, x16, x17 => if x17 < x16 then (if 0 ≤ x17 then (if x17 < (x15.length : Int) then ((impl_FormatInt.f ((rd_T33 x15 x17).f0)).bind fun t374 => (if t374.size + 1 ≤ 9223372036854775807 then ((impl_FormatInt.f ((rd_T33 x15 x17).f1)).bind fun t375 => (if (t374 ++ (⟨#[64]⟩ : ByteArray)).size + t375.size ≤ 9223372036854775807 then ((impl_formatAccesses.f k ((rd_T33 x15 x17).f2) ((rd_T33 x15 x17).f3)).bind fun t376 => (if ((t374 ++ (⟨#[64]⟩ : ByteArray)) ++ t375).size + t376.size ≤ 9223372036854775807 then (if x3.length < 8796093022208 then (impl_FormatHistory.l0 k (x3 ++ [((t374 ++ (⟨#[64]⟩ : ByteArray)) ++ t375) ++ t376]) x15 x16 (wrap64 (x17 + 1))) else (none)) else (none))) else (none))) else (none))) else (none)) else (none)) else ((strings_Join.f x3 (⟨#[59, 32]⟩ : ByteArray)).bind fun t380 => (some t380))
def impl_FormatHistory.f (k : Nat) (l0 : List (S33)) : Option (ByteArray) := if (l0.length : Int) = 0 then (some (⟨#[110, 111, 110, 101]⟩ : ByteArray)) else ((impl_IsHistory.f k l0).bind fun t368 => (if t368 = true then (impl_FormatHistory.l0 k (([] : List ByteArray)) l0 (l0.length : Int) 0) else (some (⟨#[]⟩ : ByteArray))))
theorem impl_FormatHistory.mono_l : ∀ k, (∀ y0 y1 y2 y3, LeO (impl_FormatHistory.l0 k y0 y1 y2 y3) (impl_FormatHistory.l0 (k + 1) y0 y1 y2 y3))
 | 0 => fun _ _ _ _ r h => by simp [impl_FormatHistory.l0] at h
 | k + 1 => by
  have ih0 := impl_FormatHistory.mono_l k
  ·intro y0 y1 y2 y3
   unfold impl_FormatHistory.l0
   repeat' first
   | (with_reducible exact ih0 _ _ _ _)
   | (with_reducible exact impl_IsHistory.mono _ _)
   | (with_reducible exact impl_formatAccesses.mono _ _ _)
   | (with_reducible first | exact LeO.refl _ | exact LeO.none _ | refine LeO.ite ?_ ?_ | refine LeO.bind ?_ (fun _ => ?_))
   | exact ih0 _ _ _ _
   | exact impl_IsHistory.mono _ _
   | exact impl_formatAccesses.mono _ _ _
   | exact LeO.none _ | refine LeO.ite ?_ ?_ | refine LeO.bind ?_ (fun _ => ?_)
theorem impl_FormatHistory.mono : ∀ a0 k, LeO (impl_FormatHistory.f k a0) (impl_FormatHistory.f (k + 1) a0) := by
 intro a0 k
 have ih0 := impl_FormatHistory.mono_l k
 unfold impl_FormatHistory.f
 repeat' first
   | (with_reducible exact ih0 _ _ _ _)
   | (with_reducible exact impl_IsHistory.mono _ _)
   | (with_reducible exact impl_formatAccesses.mono _ _ _)
   | (with_reducible first | exact LeO.refl _ | exact LeO.none _ | refine LeO.ite ?_ ?_ | refine LeO.bind ?_ (fun _ => ?_))
   | exact ih0 _ _ _ _
   | exact impl_IsHistory.mono _ _
   | exact impl_formatAccesses.mono _ _ _
   | exact LeO.none _ | refine LeO.ite ?_ ?_ | refine LeO.bind ?_ (fun _ => ?_)
def impl_FormatHistory.T9 : Bool × List (List Nat × List Nat) := (true, [([], []), ([], []), ([1], [1]), ([2], [2]), ([3], [3]), ([], []), ([5], [5]), ([6, 3], [6]), ([4, 7], [4, 7]), ([], []), ([9], [9]), ([], []), ([11], [11]), ([10, 12, 7], [10, 12]), ([8, 13], [8, 13]), ([14], [14]), ([0, 15, 13], [0, 15]), ([16, 16, 0, 1, 2, 3, 4, 5, 6, 7, 8, 9, 10, 11, 12, 13, 14, 15, 16], [0, 16])])
def impl_FormatHistory.B9 : List Nat := [0, 0, 2, 6, 14, 0, 32, 110, 254, 0, 512, 0, 2048, 7918, 16382, 32766, 65535, 131071]
theorem impl_FormatHistory.tab9 : rtab .any (opsOf Tryz.f16 9) = impl_FormatHistory.T9 := by kernel_rfl
theorem impl_FormatHistory.bits9 : waitsOk impl_FormatHistory.T9.2 impl_FormatHistory.B9 = true := by kernel_rfl
theorem impl_FormatHistory.calls (k : Nat) (A0 : Option Addr) (c0 : Nat) (l0 : List (S33)) (r : ByteArray) (w : World) (hr0 : Kd.C k33 w A0 l0.length l0) (hc0 : l0.length ≤ c0) (hTB : Tryz.TB w) (h : impl_FormatHistory.f k l0 = some r) :
  Calls Tryz.prog 16 #[.slice A0 l0.length c0] w fun e w' => e = .returned (.string r) ∧ Below w.heap.size w w' := by
 have hu33 := Tryz.underlying33
 have HR0 := AM_ hr0
 have HC0 := AM_ hc0
 clear hr0 hc0
 have HB := AM_ (Below.refl w.heap.size w)
 have H : (if (l0.length : Int) = 0 then (some (⟨#[110, 111, 110, 101]⟩ : ByteArray)) else ((impl_IsHistory.f k l0).bind fun t368 => (if t368 = true then (impl_FormatHistory.l0 k (([] : List ByteArray)) l0 (l0.length : Int) 0) else (some (⟨#[]⟩ : ByteArray))))) = some r := h
 clear h
 by_cases c2 : (l0.length : Int) = 0
 ·rw [if_pos c2] at H
  have c2b0 : ((l0.length : Int) == 0) = true := beq_iff_eq.mpr c2
  have c2b1 : ((l0.length : Int) != 0) = false := bne_eq_false_iff_eq.mpr c2
  clear c2
  obtain rfl := Option.some.inj H
  go_enter Tryz.func16, Tryz.ntmps16
  go_wp2
  go_ret
  exact QT (BT HB.out)
 rw [if_neg c2] at H
 have c2b0 : ((l0.length : Int) == 0) = false := beq_eq_false_iff_ne.mpr c2
 have c2b1 : ((l0.length : Int) != 0) = true := bne_iff_ne.mpr c2
 have c2b2 : ¬ (l0 = []) := fun h_ => c2 (by rw [h_]; rfl)
 replace H := Option.bind_eq_some_iff.mp H
 obtain ⟨t368, A30, H⟩ := H
 replace H : (if t368 = true then (impl_FormatHistory.l0 k (([] : List ByteArray)) l0 (l0.length : Int) 0) else (some (⟨#[]⟩ : ByteArray))) = some r := H
 have A3 := AM_ A30
 clear A30
 by_cases c4 : t368 = true
 rotate_left
 ·replace c4 := Bool.eq_false_iff.mpr c4
  subst c4
  have H1 : (some (⟨#[]⟩ : ByteArray)) = some r := by rw [if_neg (show ¬ (false = true) by decide)] at H; exact H
  clear H
  have H := H1
  clear H1
  obtain rfl := Option.some.inj H
  go_enter Tryz.func16, Tryz.ntmps16
  go_wp2_with (first | ((with_reducible refine gate_callee (f := 33) rfl ?_); refine goesL_ (some 12) rfl rfl Tryz.func33 (by kernel_rfl) rfl #[.slice A0 l0.length c0] rfl (by (try simp only [List.map_toArray, List.map_cons, List.map_nil]); first | done | rfl | (simp only [List.length_drop, List.length_take]; rfl)) ?_; (with_reducible refine (impl_IsHistory.calls k _ _ l0 false _ ?side1 ?side2 A3.out).mono ?_); (case side1 => repeat (first | exact HR0.out | (with_reducible refine Kd.C_alloc ?_ _) | (with_reducible refine Kd.C_drewN ?_ _) | (with_reducible refine Kd.C_drew ?_))); (case side2 => exact HC0.out); rintro e w29 ⟨rfl, hb⟩; refine ⟨_, rfl, ?_⟩; replace HB := AM_ (below_step (BT HB.out) hb); (try clear hb); (try clear hb2); (try clear hk); (try clear hi)))
  go_ret
  exact QT (BT HB.out)
 subst c4
 have H1 : (impl_FormatHistory.l0 k (([] : List ByteArray)) l0 (l0.length : Int) 0) = some r := by rw [if_pos rfl] at H; exact H
 clear H
 have H := H1
 clear H1
 obtain ⟨y369, hy369⟩ : ∃ y_ : List ByteArray, y_ = (([] : List ByteArray)) := ⟨_, rfl⟩
 replace H : (impl_FormatHistory.l0 k y369 l0 (l0.length : Int) 0) = some r := by first | (rw [hy369]; with_reducible exact H) | (have H2_ := (Option.bind_some _ _).symm.trans H; rw [hy369]; with_reducible exact H2_) | (have H2_ := (Option.bind_some _ _).symm.trans H; with_reducible exact H2_) | with_reducible exact H | (rw [hy369]; exact H) | exact H
 have Ny369 := AM_ hy369
 clear hy369
 have H' := AM_ H
 clear H
 go_enter Tryz.func16, Tryz.ntmps16
 go_wp2_with (first | ((with_reducible refine gate_callee (f := 33) rfl ?_); refine goesL_ (some 12) rfl rfl Tryz.func33 (by kernel_rfl) rfl #[.slice A0 l0.length c0] rfl (by (try simp only [List.map_toArray, List.map_cons, List.map_nil]); first | done | rfl | (simp only [List.length_drop, List.length_take]; rfl)) ?_; (with_reducible refine (impl_IsHistory.calls k _ _ l0 true _ ?side1 ?side2 A3.out).mono ?_); (case side1 => repeat (first | exact HR0.out | (with_reducible refine Kd.C_alloc ?_ _) | (with_reducible refine Kd.C_drewN ?_ _) | (with_reducible refine Kd.C_drew ?_))); (case side2 => exact HC0.out); rintro e w5 ⟨rfl, hb⟩; refine ⟨_, rfl, ?_⟩; replace HB := AM_ (below_step (BT HB.out) hb); (try clear hb); (try clear hb2); (try clear hk); (try clear hi)) | ((with_reducible refine gate_dst (N := 14) rfl ?_); refine Kd.R_lit Kd.string _ 9 ?hg (N := 14) ?hd (xs := ([] : List ByteArray)) (inner := []) (ok := fun _ => True) (okp := fun _ => True) ?hr ?hp (fun _ hk => hk) trivial (Below.refl _ _) (Nat.le_refl _) (by simp) ?_; (case hd => rfl); (case hg => rfl); (case hr => first | (go_simp; done) | (go_simp; rfl)); (case hp => exact (Reps.none _ _)); intro v370 w6 ho7 hb hg_ hnew_; clear hg_ hnew_; (first | rw [← Ny369.out] at ho7 | (simp only [Int.reduceToNat] at ho7; rw [← Ny369.out] at ho7)); have HO371 := AM_ (Kd.R_lower ho7 (below_size (BT HB.out))); replace HB := AM_ (below_step (BT HB.out) hb); clear hb ho7))
 go_loopg [3, 17] k (fun kq v3 v17 w' => ∃ (x3_1 : List ByteArray) (x17_1 : Int), v17 = .int .i64 x17_1 ∧ Aside0 (impl_FormatHistory.l0 kq x3_1 l0 (l0.length : Int) x17_1 = some r) ∧ Aside0 (kq ≤ k) ∧ Aside0 (Kd.R Kd.string 9 w' w.heap.size (fun _ => True) v3 x3_1) ∧ Aside0 (Below w.heap.size w w'))
 case atStart => exact ⟨(y369), (0), (by first | rfl | (simp; done) | (simp [*]; done)), H', ⟨Nat.le_refl _⟩, ⟨RT HO371.out⟩, ⟨BT HB.out⟩⟩
 case round =>
  clear H'
  try clear c1
  try clear c2
  try clear c2b0
  try clear c2b1
  try clear c2b2
  try clear p2
  try clear c3
  try clear c4
  obtain ⟨x3_1, x17_1, rfl, HA, HK1, HO_3, HB⟩ := hrel
  cases gk with
  | zero => exact absurd HA.out (by simp [impl_FormatHistory.l0])
  | succ k1 =>
   have H := HA.out
   clear HA
   simp only [impl_FormatHistory.l0] at H
   by_cases c8 : x17_1 < (l0.length : Int)
   rotate_left
   ·rw [if_neg c8] at H
    have c8b0 : decide (x17_1 < (l0.length : Int)) = false := decide_eq_false c8
    clear c8
    replace H := Option.bind_eq_some_iff.mp H
    obtain ⟨t380, A260, H⟩ := H
    replace H : (some t380) = some r := H
    have A26 := AM_ A260
    clear A260
    obtain rfl := Option.some.inj H
    obtain ⟨Ao27, co27, eo27⟩ := Kd.R_slice HO_3.out
    subst eo27
    go_wp2_with (first | ((with_reducible refine gate_callee (f := 36) rfl ?_); refine goesL_ (some 40) rfl rfl Tryz.func36 (by kernel_rfl) rfl #[.slice Ao27 x3_1.length co27, .string (⟨#[59, 32]⟩ : ByteArray)] rfl (by (try simp only [List.map_toArray, List.map_cons, List.map_nil]); first | done | rfl | (simp only [List.length_drop, List.length_take]; rfl)) ?_; (with_reducible refine (strings_Join.calls _ _ x3_1 (⟨#[59, 32]⟩ : ByteArray) t380 _ ?side1 ?side2 A26.out).mono ?_); (case side1 => exact Kd.C_below (Kd.R_reads' HO_3.out).2.2 (BL (Below.refl _ _) rfl rfl rfl rfl)); (case side2 => exact (Kd.R_reads' HO_3.out).2.1); rintro e w28 ⟨rfl, hb⟩; refine ⟨_, rfl, ?_⟩; replace HO_3 := AM_ (Kd.R_below (RT HO_3.out) hb); replace HB := AM_ (below_step (BT HB.out) hb); (try clear hb); (try clear hb2); (try clear hk); (try clear hi)))
    go_ret
    exact QT (BT HB.out)
   rw [if_pos c8] at H
   have c8b0 : decide (x17_1 < (l0.length : Int)) = true := decide_eq_true c8
   clear c8
   replace H := HI H
   obtain ⟨c9, H⟩ := H
   have c9b0 : decide (0 ≤ x17_1) = true := decide_eq_true c9
   clear c9
   replace H := HI H
   obtain ⟨c10, H⟩ := H
   have c10b0 : decide (x17_1 < (l0.length : Int)) = true := decide_eq_true c10
   clear c10
   replace H := Option.bind_eq_some_iff.mp H
   obtain ⟨t374, A110, H⟩ := H
   replace H : (if t374.size + 1 ≤ 9223372036854775807 then ((impl_FormatInt.f ((rd_T33 l0 x17_1).f1)).bind fun t375 => (if (t374 ++ (⟨#[64]⟩ : ByteArray)).size + t375.size ≤ 9223372036854775807 then ((impl_formatAccesses.f k1 ((rd_T33 l0 x17_1).f2) ((rd_T33 l0 x17_1).f3)).bind fun t376 => (if ((t374 ++ (⟨#[64]⟩ : ByteArray)) ++ t375).size + t376.size ≤ 9223372036854775807 then (if x3_1.length < 8796093022208 then (impl_FormatHistory.l0 k1 (x3_1 ++ [((t374 ++ (⟨#[64]⟩ : ByteArray)) ++ t375) ++ t376]) l0 (l0.length : Int) (wrap64 (x17_1 + 1))) else (none)) else (none))) else (none))) else (none)) = some r := H
   have A11 := AM_ A110
   clear A110
   replace H := HI H
   obtain ⟨c12, H⟩ := H
   have c12b0 := eq_true c12
   have c12b1 : decide (t374.size + 1 ≤ 9223372036854775807) = true := decide_eq_true c12
   try have c12b2 : (9223372036854775807 < t374.size + 1) = False := eq_false (Nat.not_lt.2 c12)
   replace H := Option.bind_eq_some_iff.mp H
   obtain ⟨t375, A130, H⟩ := H
   replace H : (if (t374 ++ (⟨#[64]⟩ : ByteArray)).size + t375.size ≤ 9223372036854775807 then ((impl_formatAccesses.f k1 ((rd_T33 l0 x17_1).f2) ((rd_T33 l0 x17_1).f3)).bind fun t376 => (if ((t374 ++ (⟨#[64]⟩ : ByteArray)) ++ t375).size + t376.size ≤ 9223372036854775807 then (if x3_1.length < 8796093022208 then (impl_FormatHistory.l0 k1 (x3_1 ++ [((t374 ++ (⟨#[64]⟩ : ByteArray)) ++ t375) ++ t376]) l0 (l0.length : Int) (wrap64 (x17_1 + 1))) else (none)) else (none))) else (none)) = some r := H
   have A13 := AM_ A130
   clear A130
   replace H := HI H
   obtain ⟨c14, H⟩ := H
   have c14b0 := eq_true c14
   have c14b1 : decide ((t374 ++ (⟨#[64]⟩ : ByteArray)).size + t375.size ≤ 9223372036854775807) = true := decide_eq_true c14
   try have c14b2 : (9223372036854775807 < (t374 ++ (⟨#[64]⟩ : ByteArray)).size + t375.size) = False := eq_false (Nat.not_lt.2 c14)
   try have c14b3 : (9223372036854775807 < t374.size + 1 + t375.size) = False := by have h_ := c14; simp only [ByteArray.size_append] at h_; exact eq_false (Nat.not_lt.2 h_)
   replace H := Option.bind_eq_some_iff.mp H
   obtain ⟨t376, A150, H⟩ := H
   replace H : (if ((t374 ++ (⟨#[64]⟩ : ByteArray)) ++ t375).size + t376.size ≤ 9223372036854775807 then (if x3_1.length < 8796093022208 then (impl_FormatHistory.l0 k1 (x3_1 ++ [((t374 ++ (⟨#[64]⟩ : ByteArray)) ++ t375) ++ t376]) l0 (l0.length : Int) (wrap64 (x17_1 + 1))) else (none)) else (none)) = some r := H
   have A15 := AM_ A150
   clear A150
   replace H := HI H
   obtain ⟨c16, H⟩ := H
   have c16b0 := eq_true c16
   have c16b1 : decide (((t374 ++ (⟨#[64]⟩ : ByteArray)) ++ t375).size + t376.size ≤ 9223372036854775807) = true := decide_eq_true c16
   try have c16b2 : (9223372036854775807 < ((t374 ++ (⟨#[64]⟩ : ByteArray)) ++ t375).size + t376.size) = False := eq_false (Nat.not_lt.2 c16)
   try have c16b3 : (9223372036854775807 < t374.size + 1 + t375.size + t376.size) = False := by have h_ := c16; simp only [ByteArray.size_append] at h_; exact eq_false (Nat.not_lt.2 h_)
   replace H := HI H
   obtain ⟨c17, H⟩ := H
   have LMc17 := AM_ c17
   clear c17
   obtain ⟨y377, hy377⟩ : ∃ y_ : List ByteArray, y_ = (x3_1 ++ [((t374 ++ (⟨#[64]⟩ : ByteArray)) ++ t375) ++ t376]) := ⟨_, rfl⟩
   replace H : (impl_FormatHistory.l0 k1 y377 l0 (l0.length : Int) (wrap64 (x17_1 + 1))) = some r := by first | (rw [hy377]; with_reducible exact H) | (have H2_ := (Option.bind_some _ _).symm.trans H; rw [hy377]; with_reducible exact H2_) | (have H2_ := (Option.bind_some _ _).symm.trans H; with_reducible exact H2_) | with_reducible exact H | (rw [hy377]; exact H) | exact H
   have Ny377 := AM_ hy377
   clear hy377
   have H' := AM_ H
   clear H
   have p372 : 0 ≤ (x17_1 : Int) := DT
   have q372 : x17_1 < (l0.length : Int) := DT
   obtain ⟨ad372, A372_2, c372_2, A372_3, c372_3, e372, hx372_0, hx372_1, hx372_2, hx372_3, hl372_2, hi372_2, hl372_3, hi372_3⟩ := at_T33 HR0.out x17_1 p372 q372
   cases e372
   replace hx372_0 := BC HB.out hx372_0
   replace hx372_1 := BC HB.out hx372_1
   replace hx372_2 := BC HB.out hx372_2
   replace hx372_3 := BC HB.out hx372_3
   have HR372_2 := AM_ hi372_2
   have HC372_2 := AM_ hl372_2
   clear hi372_2 hl372_2
   have HR372_3 := AM_ hi372_3
   have HC372_3 := AM_ hl372_3
   clear hi372_3 hl372_3
   replace p372 := eq_true p372
   replace q372 := eq_true q372
   try go_wp2_with (first | ((with_reducible refine gate_dst (N := 5) rfl ?_); refine box_event ?hg (N := 5) ?hd (cs := #[.int .i64 0, .int .i64 0, .slice none 0 0, .slice none 0 0]) (t := 33) ?hr ?_; (case hd => rfl); (case hg => rfl); (case hr => first | (go_simp; done) | (go_simp; rfl)); intro gb373 hg w18 hbox hb; replace HO_3 := AM_ (Kd.R_below (RT HO_3.out) hb); have BK373 := AM_ (hbox); have GW373 := AM_ ((GS HB.out hg)); have GE373 := AM_ ((GS HB.out hg)); replace HB := AM_ (below_step (BT HB.out) hb); clear hb hbox hg; obtain ⟨hcz19_0, hcz19_1, hcz19_2, hcz19_3, hfz19_0, hfz19_1, hfz19_2, hfz19_3⟩ := bk4 BK373.out))
   have n0_ : Aside0 (Kd.R Kd.string 9 ((((w18.setCell ⟨gb373, 0, none⟩ (.int .i64 ((rd_T33 l0 x17_1).f0))).setCell ⟨gb373, 1, none⟩ (.int .i64 ((rd_T33 l0 x17_1).f1))).setCell ⟨gb373, 2, none⟩ (.slice A372_2 ((rd_T33 l0 x17_1).f2).length c372_2)).setCell ⟨gb373, 3, none⟩ (.slice A372_3 ((rd_T33 l0 x17_1).f3).length c372_3)) w.heap.size (fun _ => True) u3 x3_1) := ⟨by (with_reducible repeat (first | apply Kd.R_alloc | apply Kd.R_drewN | apply Kd.R_drew)); exact Kd.R_mono (Kd.R_far (p := ⟨gb373, 3, none⟩) (Kd.R_far (p := ⟨gb373, 2, none⟩) (Kd.R_far (p := ⟨gb373, 1, none⟩) (Kd.R_far (p := ⟨gb373, 0, none⟩) (Kd.R_types HO_3.out BK373.out (by decide)) (fun _ hk => hk.2) (.int .i64 ((rd_T33 l0 x17_1).f0))) (fun _ hk => hk.2) (.int .i64 ((rd_T33 l0 x17_1).f1))) (fun _ hk => hk.2) (.slice A372_2 ((rd_T33 l0 x17_1).f2).length c372_2)) (fun _ hk => hk.2) (.slice A372_3 ((rd_T33 l0 x17_1).f3).length c372_3)) (fun _ hk => trivial)⟩
   have n1_ : Aside0 (((((w18.setCell ⟨gb373, 0, none⟩ (.int .i64 ((rd_T33 l0 x17_1).f0))).setCell ⟨gb373, 1, none⟩ (.int .i64 ((rd_T33 l0 x17_1).f1))).setCell ⟨gb373, 2, none⟩ (.slice A372_2 ((rd_T33 l0 x17_1).f2).length c372_2)).setCell ⟨gb373, 3, none⟩ (.slice A372_3 ((rd_T33 l0 x17_1).f3).length c372_3)).heap[gb373]? = some (.cells #[.int .i64 ((rd_T33 l0 x17_1).f0), .int .i64 ((rd_T33 l0 x17_1).f1), .slice A372_2 ((rd_T33 l0 x17_1).f2).length c372_2, .slice A372_3 ((rd_T33 l0 x17_1).f3).length c372_3] 33 (0, 0))) := ⟨BQ BK373.out⟩
   have n2_ : Aside0 (Below w.heap.size w ((((w18.setCell ⟨gb373, 0, none⟩ (.int .i64 ((rd_T33 l0 x17_1).f0))).setCell ⟨gb373, 1, none⟩ (.int .i64 ((rd_T33 l0 x17_1).f1))).setCell ⟨gb373, 2, none⟩ (.slice A372_2 ((rd_T33 l0 x17_1).f2).length c372_2)).setCell ⟨gb373, 3, none⟩ (.slice A372_3 ((rd_T33 l0 x17_1).f3).length c372_3))) := ⟨BT HB.out⟩
   (try clear HO_3)
   (try clear BK373)
   (try clear HB)
   generalize ((((w18.setCell ⟨gb373, 0, none⟩ (.int .i64 ((rd_T33 l0 x17_1).f0))).setCell ⟨gb373, 1, none⟩ (.int .i64 ((rd_T33 l0 x17_1).f1))).setCell ⟨gb373, 2, none⟩ (.slice A372_2 ((rd_T33 l0 x17_1).f2).length c372_2)).setCell ⟨gb373, 3, none⟩ (.slice A372_3 ((rd_T33 l0 x17_1).f3).length c372_3)) = w20 at n0_ n1_ n2_ ⊢
   have HO_3 := n0_
   have BK373 := n1_
   have HB := n2_
   clear n0_ n1_ n2_
   replace HO_3 := AM_ (Kd.R_drew HO_3.out)
   replace BK373 := AM_ (blk_drew BK373.out)
   replace HB := AM_ (below_drew1 HB.out)
   refine start_ (n := 18) (S := fun w' => w'.cell? ⟨gb373, 0, none⟩ = some (.int .i64 ((rd_T33 l0 x17_1).f0)) ∧ w'.cell? ⟨gb373, 1, none⟩ = some (.int .i64 ((rd_T33 l0 x17_1).f1)) ∧ w'.cell? ⟨gb373, 2, none⟩ = some (.slice A372_2 ((rd_T33 l0 x17_1).f2).length c372_2) ∧ w'.cell? ⟨gb373, 3, none⟩ = some (.slice A372_3 ((rd_T33 l0 x17_1).f3).length c372_3)) (ds := []) (bs 0 18) (by kernel_rfl) rfl rfl ⟨bc BK373.out 0, bc BK373.out 1, bc BK373.out 2, bc BK373.out 3⟩ (fun hHeld => ?_); refine with_tabW impl_FormatHistory.tab9 impl_FormatHistory.bits9 (fun HT_ HW_ => ?_)
   generalize w20.drew = w21 at HO_3 BK373 HB hHeld ⊢
   refine pu (i := 0) (N := some 21) (v := ?_) (a' := ?_) (bs 1 18) rfl rfl HT_ ?_ ?_ ?_
   rotate_left
   ·intro w'
    go_simp
    with_reducible rfl
   rotate_left
   ·simp only[pA,pS,pZ,pK,pV]
    rfl
   refine pu (i := 1) (N := some 22) (v := ?_) (a' := ?_) (bs 3 18) rfl rfl HT_ ?_ ?_ ?_
   rotate_left
   ·intro w'
    go_simp
    with_reducible rfl
   rotate_left
   ·simp only[pA,pS,pZ,pK,pV]
    rfl
   refine pu (i := 5) (N := some 26) (v := ?_) (a' := ?_) (bs 35 18) rfl rfl HT_ ?_ ?_ ?_
   rotate_left
   ·intro w'
    go_simp
    with_reducible rfl
   rotate_left
   ·simp only[pA,pS,pZ,pK,pV]
    rfl
   refine pu (i := 9) (N := some 30) (v := ?_) (a' := ?_) (bs 547 18) rfl rfl HT_ ?_ ?_ ?_
   rotate_left
   ·intro w'
    go_simp
    with_reducible rfl
   rotate_left
   ·simp only[pA,pS,pZ,pK,pV]
    rfl
   refine pu (i := 11) (N := some 32) (v := ?_) (a' := ?_) (bs 2595 18) rfl rfl HT_ ?_ ?_ ?_
   rotate_left
   ·intro w'
    go_simp
    with_reducible rfl
   rotate_left
   ·simp only[pA,pS,pZ,pK,pV]
    rfl
   refine tk (i := 2) (N := some 23) (v := ?_) (a' := ?_) (bs 2599 18) rfl rfl HT_ HW_ ?_ hHeld ?_ ?_
   rotate_left
   ·rintro w' ⟨s0, s1, s2, s3⟩
    go_simp
    with_reducible rfl
   rotate_left
   ·simp only[pA,pS,pZ,pK,pV]
    rfl
   refine tk (i := 6) (N := some 27) (v := ?_) (a' := ?_) (bs 2663 18) rfl rfl HT_ HW_ ?_ hHeld ?_ ?_
   rotate_left
   ·rintro w' ⟨s0, s1, s2, s3⟩
    go_simp
    with_reducible rfl
   rotate_left
   ·simp only[pA,pS,pZ,pK,pV]
    rfl
   refine tk (i := 10) (N := some 31) (v := ?_) (a' := ?_) (bs 3687 18) rfl rfl HT_ HW_ ?_ hHeld ?_ ?_
   rotate_left
   ·rintro w' ⟨s0, s1, s2, s3⟩
    go_simp
    with_reducible rfl
   rotate_left
   ·simp only[pA,pS,pZ,pK,pV]
    rfl
   refine tk (i := 12) (N := some 33) (v := ?_) (a' := ?_) (bs 7783 18) rfl rfl HT_ HW_ ?_ hHeld ?_ ?_
   rotate_left
   ·rintro w' ⟨s0, s1, s2, s3⟩
    go_simp
    with_reducible rfl
   rotate_left
   ·simp only[pA,pS,pZ,pK,pV]
    rfl
   refine one_ (i := 3) (N := some 24) (bs 7791 18) rfl rfl (one_of HT_.out (by kernel_rfl)) (by decide) (fun K hK => ?_)
   refine goes_ Tryz.func34 (by kernel_rfl) rfl #[.int .i64 ((rd_T33 l0 x17_1).f0)] (by rfl) rfl rfl (by (try simp only [List.map_toArray, List.map_cons, List.map_nil]); first | done | rfl | (simp only [List.length_drop, List.length_take]; rfl)) ?_
   with_reducible refine (impl_FormatInt.calls ((rd_T33 l0 x17_1).f0) t374 _ ?side1 A11.out).mono ?_
   (case side1 => first | (with_reducible exact hTB) | exact Tryz.TB_below hTB (BT HB.out))
   rintro e w22 ⟨rfl, hb⟩
   refine ⟨_, rfl, ?_⟩
   replace HO_3 := AM_ (Kd.R_below (RT HO_3.out) hb)
   replace BK373 := AM_ (BB BK373.out hb)
   replace HB := AM_ (below_step (BT HB.out) hb)
   (try clear hb)
   (try clear hb2)
   (try clear hk)
   (try clear hi)
   refine hK.out _ _ ⟨bc BK373.out 0, bc BK373.out 1, bc BK373.out 2, bc BK373.out 3⟩ (fun hHeld => ?_)
   clear hK K
   refine norm_ (a' := ?_) ?_ ?_
   rotate_left
   ·show Act.put _ (some 24) _ = _
    simp only[pA,pS,pZ,pK,pV]
    rfl
   refine pu (i := 4) (N := some 25) (v := ?_) (a' := ?_) (bs 7807 18) rfl rfl HT_ ?_ ?_ ?_
   rotate_left
   ·intro w'
    go_simp
    with_reducible rfl
   rotate_left
   ·simp only[pA,pS,pZ,pK,pV]
    rfl
   refine one_ (i := 7) (N := some 28) (bs 7935 18) rfl rfl (one_of HT_.out (by kernel_rfl)) (by decide) (fun K hK => ?_)
   refine goes_ Tryz.func34 (by kernel_rfl) rfl #[.int .i64 ((rd_T33 l0 x17_1).f1)] (by rfl) rfl rfl (by (try simp only [List.map_toArray, List.map_cons, List.map_nil]); first | done | rfl | (simp only [List.length_drop, List.length_take]; rfl)) ?_
   with_reducible refine (impl_FormatInt.calls ((rd_T33 l0 x17_1).f1) t375 _ ?side1 A13.out).mono ?_
   (case side1 => first | (with_reducible exact hTB) | exact Tryz.TB_below hTB (BT HB.out))
   rintro e w23 ⟨rfl, hb⟩
   refine ⟨_, rfl, ?_⟩
   replace HO_3 := AM_ (Kd.R_below (RT HO_3.out) hb)
   replace BK373 := AM_ (BB BK373.out hb)
   replace HB := AM_ (below_step (BT HB.out) hb)
   (try clear hb)
   (try clear hb2)
   (try clear hk)
   (try clear hi)
   refine hK.out _ _ ⟨bc BK373.out 0, bc BK373.out 1, bc BK373.out 2, bc BK373.out 3⟩ (fun hHeld => ?_)
   clear hK K
   refine norm_ (a' := ?_) ?_ ?_
   rotate_left
   ·show Act.put _ (some 28) _ = _
    simp only[pA,pS,pZ,pK,pV]
    rfl
   refine pu (i := 8) (N := some 29) (v := ?_) (a' := ?_) (bs 8191 18) rfl rfl HT_ ?_ ?_ ?_
   rotate_left
   ·intro w'
    go_simp
    with_reducible rfl
   rotate_left
   ·simp only[pA,pS,pZ,pK,pV]
    rfl
   refine one_ (i := 13) (N := some 34) (bs 16383 18) rfl rfl (one_of HT_.out (by kernel_rfl)) (by decide) (fun K hK => ?_)
   refine goes_ Tryz.func35 (by kernel_rfl) rfl #[.slice A372_2 ((rd_T33 l0 x17_1).f2).length c372_2, .slice A372_3 ((rd_T33 l0 x17_1).f3).length c372_3] (by rfl) rfl rfl (by (try simp only [List.map_toArray, List.map_cons, List.map_nil]); first | done | rfl | (simp only [List.length_drop, List.length_take]; rfl)) ?_
   with_reducible refine (impl_formatAccesses.calls k1 _ _ ((rd_T33 l0 x17_1).f2) _ _ ((rd_T33 l0 x17_1).f3) t376 _ ?side1 ?side2 ?side3 ?side4 ?side5 A15.out).mono ?_
   (case side1 => exact CB HR372_2.out HB.out)
   (case side2 => exact HC372_2.out)
   (case side3 => exact CB HR372_3.out HB.out)
   (case side4 => exact HC372_3.out)
   (case side5 => first | (with_reducible exact hTB) | exact Tryz.TB_below hTB (BT HB.out))
   rintro e w24 ⟨rfl, hb⟩
   refine ⟨_, rfl, ?_⟩
   replace HO_3 := AM_ (Kd.R_below (RT HO_3.out) hb)
   replace BK373 := AM_ (BB BK373.out hb)
   replace HB := AM_ (below_step (BT HB.out) hb)
   (try clear hb)
   (try clear hb2)
   (try clear hk)
   (try clear hi)
   refine hK.out _ _ ⟨bc BK373.out 0, bc BK373.out 1, bc BK373.out 2, bc BK373.out 3⟩ (fun hHeld => ?_)
   clear hK K
   refine norm_ (a' := ?_) ?_ ?_
   rotate_left
   ·show Act.put _ (some 34) _ = _
    simp only[pA,pS,pZ,pK,pV]
    rfl
   refine pu (i := 14) (N := some 35) (v := ?_) (a' := ?_) (bs 32767 18) rfl rfl HT_ ?_ ?_ ?_
   rotate_left
   ·intro w'
    go_simp
    with_reducible rfl
   rotate_left
   ·simp only[pA,pS,pZ,pK,pV]
    rfl
   refine one_ (i := 15) (N := some 36) (bs 65535 18) rfl rfl (one_of HT_.out (by kernel_rfl)) (by decide) (fun K hK => ?_)
   refine value_ (w1 := ?_) (v := ?_) (by rfl) rfl ?_ ?_
   rotate_left 2
   ·go_simp
    constructor
    ·rfl
    ·rfl
   refine hK.out _ _ ⟨(blk_cell (blk_alloc BK373.out _) 0).trans rfl, (blk_cell (blk_alloc BK373.out _) 1).trans rfl, (blk_cell (blk_alloc BK373.out _) 2).trans rfl, (blk_cell (blk_alloc BK373.out _) 3).trans rfl⟩ (fun hHeld => ?_)
   clear hK K
   refine norm_ (a' := ?_) ?_ ?_
   rotate_left
   ·show Act.put _ (some 36) _ = _
    simp only[pA,pS,pZ,pK,pV]
    rfl
   refine one_ (i := 16) (N := some 37) (bs 131071 18) rfl rfl (one_of HT_.out (by kernel_rfl)) (by decide) (fun K hK => ?_)
   refine Kd.R_append_step Kd.string (w0 := w) w.heap.size (by rfl) (.tmp 21) (.tmp 36) 28 9 (.string ⟨#[]⟩) 16 rfl Tryz.underlying28 info9 rfl (by decide) (by omega) u3 x3_1 (((t374 ++ (⟨#[64]⟩ : ByteArray)) ++ t375) ++ t376) [.string (((t374 ++ (⟨#[64]⟩ : ByteArray)) ++ t375) ++ t376)] (fun _ => True) (fun _ => False) rfl rfl ?aP (fun _ hk => hk.elim) ?aF ?aO ?aB ?aS ?aL ?_
   (case aP => exact rfl)
   (case aB => exact (BT HB.out))
   (case aF => exact (fun _ _ => trivial))
   (case aO => exact (RT HO_3.out))
   (case aS => exact (below_size (BT HB.out)))
   (case aL => have := LMc17.out; omega)
   intro v378 w25 ho hb hg hat
   rw [← Ny377.out] at ho
   have n0_ := AM_ (blk_grown (g := gb373) (o := .cells #[.int .i64 ((rd_T33 l0 x17_1).f0), .int .i64 ((rd_T33 l0 x17_1).f1), .slice A372_2 ((rd_T33 l0 x17_1).f2).length c372_2, .slice A372_3 ((rd_T33 l0 x17_1).f3).length c372_3] 33 (0, 0)) (by (with_reducible repeat (first | refine blk_drewN ?_ _ | refine blk_drew ?_ | refine blk_alloc ?_ _)); exact BK373.out) hg (Kd.R_ne HO_3.out BK373.out (by decide)))
   have n1_ := AM_ (hb)
   have n2_ := AM_ (ho)
   clear BK373
   clear HB
   clear HO_3
   have BK373 := n0_
   have HB := n1_
   have HO379 := n2_
   clear n0_ n1_ n2_
   clear ho hb hg hat
   refine hK.out _ _ ⟨bc BK373.out 0, bc BK373.out 1, bc BK373.out 2, bc BK373.out 3⟩ (fun hHeld => ?_)
   clear hK K
   refine norm_ (a' := ?_) ?_ ?_
   rotate_left
   ·show Act.put _ (some 37) _ = _
    simp only[pA,pS,pZ,pK,pV]
    rfl
   refine pu (i := 17) (N := some 3) (v := ?_) (a' := ?_) (bs 262143 18) rfl rfl HT_ ?_ ?_ ?_
   rotate_left
   ·intro w'
    go_simp
    with_reducible rfl
   rotate_left
   ·simp only[pA,pS,pZ,pK,pV]
    rfl
   refine done_ (done_of HT_.out (by kernel_rfl)) ?_
   try go_wp2
   go_roundg k1
   case measure => have := HK1.out; omega
   case rel => exact ⟨(y377), (wrap64 (x17_1 + 1)), (by first | rfl | (simp; done) | (simp [*]; done)), H', ⟨by have := HK1.out; omega⟩, ⟨RT HO379.out⟩, ⟨BT HB.out⟩⟩

/-! ### impl_ParseHistory: function 5 -/
def impl_ParseHistory.l0 : Nat → ByteArray → List (S33) → List ByteArray → Int → Int → Option ((List (S33)) × Bool)
 | 0, _, _, _, _, _ => none
 | k + 1, x0, x4, x16, x17, x18 => if x18 < x17 then (if 0 ≤ x18 then (if x18 < (x16.length : Int) then ((strings_Split.f (rdOf ByteArray.empty x16 x18) (⟨#[32]⟩ : ByteArray)).bind fun t389 => (if 0 < (t389.length : Int) then ((strings_Cut.f (rdOf ByteArray.empty t389 0) (⟨#[64]⟩ : ByteArray)).bind fun bt393 => ((impl_ParseInt.f bt393.1).bind fun bt397 => ((impl_ParseInt.f bt393.2.1).bind fun bt399 => (if 1 ≤ (t389.length : Int) then ((impl_parseAccesses.f k (t389.drop 1)).bind fun bt405 => (if x4.length < 2199023255552 then (impl_ParseHistory.l0 k x0 (x4 ++ [(⟨bt397.1, bt399.1, bt405.1, bt405.2⟩ : S33)]) x16 x17 (wrap64 (x18 + 1))) else (none))) else (none))))) else (none))) else (none)) else (none)) else (if x0.toList = ([] : List UInt8) then (some (([] : List (S33)), false)) else ((impl_FormatHistory.f k x4).bind fun t387 => (if t387.toList = x0.toList then (some (x4, true)) else (some (([] : List (S33)), false)))))
def impl_ParseHistory.f (k : Nat) (a0 : ByteArray) : Option ((List (S33)) × Bool) := if a0.toList = ([110, 111, 110, 101] : List UInt8) then (some (([] : List (S33)), true)) else ((strings_Split.f a0 (⟨#[59, 32]⟩ : ByteArray)).bind fun t384 => (impl_ParseHistory.l0 k a0 (([] : List (S33))) t384 (t384.length : Int) 0))
theorem impl_ParseHistory.mono_l : ∀ k, (∀ y0 y1 y2 y3 y4, LeO (impl_ParseHistory.l0 k y0 y1 y2 y3 y4) (impl_ParseHistory.l0 (k + 1) y0 y1 y2 y3 y4))
 | 0 => fun _ _ _ _ _ r h => by simp [impl_ParseHistory.l0] at h
 | k + 1 => by
  have ih0 := impl_ParseHistory.mono_l k
  ·intro y0 y1 y2 y3 y4
   unfold impl_ParseHistory.l0
   repeat' first
   | (with_reducible exact ih0 _ _ _ _ _)
   | (with_reducible exact impl_FormatHistory.mono _ _)
   | (with_reducible exact impl_parseAccesses.mono _ _)
   | (with_reducible first | exact LeO.refl _ | exact LeO.none _ | refine LeO.ite ?_ ?_ | refine LeO.bind ?_ (fun _ => ?_))
   | exact ih0 _ _ _ _ _
   | exact impl_FormatHistory.mono _ _
   | exact impl_parseAccesses.mono _ _
   | exact LeO.none _ | refine LeO.ite ?_ ?_ | refine LeO.bind ?_ (fun _ => ?_)
theorem impl_ParseHistory.mono : ∀ a0 k, LeO (impl_ParseHistory.f k a0) (impl_ParseHistory.f (k + 1) a0) := by
 intro a0 k
 have ih0 := impl_ParseHistory.mono_l k
 unfold impl_ParseHistory.f
 repeat' first
   | (with_reducible exact ih0 _ _ _ _ _)
   | (with_reducible exact impl_FormatHistory.mono _ _)
   | (with_reducible exact impl_parseAccesses.mono _ _)
   | (with_reducible first | exact LeO.refl _ | exact LeO.none _ | refine LeO.ite ?_ ?_ | refine LeO.bind ?_ (fun _ => ?_))
   | exact ih0 _ _ _ _ _
   | exact impl_FormatHistory.mono _ _
   | exact impl_parseAccesses.mono _ _
   | exact LeO.none _ | refine LeO.ite ?_ ?_ | refine LeO.bind ?_ (fun _ => ?_)
theorem impl_ParseHistory.calls (k : Nat) (a0 : ByteArray) (r1 : List (S33)) (r2 : Bool) (w : World) (hTB : Tryz.TB w) (h : impl_ParseHistory.f k a0 = some (r1, r2)) :
  Calls Tryz.prog 5 #[.string a0] w fun e w' => ∃ v0_ : Value, e = .returned (.tuple #[v0_, .bool r2]) ∧ Kd.S k33 33 w' w.heap.size (fun _ => True) v0_ r1 ∧ Below w.heap.size w w' := by
 have hu33 := Tryz.underlying33
 have HB := AM_ (Below.refl w.heap.size w)
 have H : (if a0.toList = ([110, 111, 110, 101] : List UInt8) then (some (([] : List (S33)), true)) else ((strings_Split.f a0 (⟨#[59, 32]⟩ : ByteArray)).bind fun t384 => (impl_ParseHistory.l0 k a0 (([] : List (S33))) t384 (t384.length : Int) 0))) = some (r1, r2) := h
 clear h
 by_cases c2 : a0.toList = ([110, 111, 110, 101] : List UInt8)
 ·rw [if_pos c2] at H
  have c2b0 : (a0.toList == ([110, 111, 110, 101] : List UInt8)) = true := beq_iff_eq.mpr c2
  have c2b1 : (a0.toList != ([110, 111, 110, 101] : List UInt8)) = false := bne_eq_false_iff_eq.mpr c2
  clear c2
  simp only [Option.some.injEq, Prod.mk.injEq] at H
  obtain ⟨rfl, rfl⟩ := H
  go_enter Tryz.func5, Tryz.ntmps5
  go_wp2
  go_ret2
  exact ⟨_, by first | rfl | (simp [errW_none, errW_some] <;> rfl) | (simp [*, errW_none, errW_some] <;> rfl), by first | exact Kd.S_nil _ _ _ _ _ | exact Kd.N_nil _ _ _ _ _ | exact Kd.V_nil _ _ _ _ _ | exact Kd.Q_nil _ _ _ _ _ | exact Kd.R_nil _ _ _ _ _, BT HB.out⟩
 rw [if_neg c2] at H
 have c2b0 : (a0.toList == ([110, 111, 110, 101] : List UInt8)) = false := beq_eq_false_iff_ne.mpr c2
 have c2b1 : (a0.toList != ([110, 111, 110, 101] : List UInt8)) = true := bne_iff_ne.mpr c2
 obtain ⟨y381, hy381⟩ : ∃ y_ : List (S33), y_ = (([] : List (S33))) := ⟨_, rfl⟩
 replace H : ((strings_Split.f a0 (⟨#[59, 32]⟩ : ByteArray)).bind fun t384 => (impl_ParseHistory.l0 k a0 y381 t384 (t384.length : Int) 0)) = some (r1, r2) := by first | (rw [hy381]; with_reducible exact H) | (have H2_ := (Option.bind_some _ _).symm.trans H; rw [hy381]; with_reducible exact H2_) | (have H2_ := (Option.bind_some _ _).symm.trans H; with_reducible exact H2_) | with_reducible exact H | (rw [hy381]; exact H) | exact H
 have Ny381 := AM_ hy381
 clear hy381
 replace H := Option.bind_eq_some_iff.mp H
 obtain ⟨t384, A30, H⟩ := H
 replace H : (impl_ParseHistory.l0 k a0 y381 t384 (t384.length : Int) 0) = some (r1, r2) := H
 have A3 := AM_ A30
 clear A30
 have H' := AM_ H
 clear H
 go_enter Tryz.func5, Tryz.ntmps5
 go_wp2_with (first | ((with_reducible refine gate_dst (N := 14) rfl ?_); refine Kd.S_lit k33 _ 33 ?hg (N := 14) ?hd (xs := ([] : List (S33))) (inner := []) (ok := fun _ => True) (okp := fun _ => True) ?hr ?hp (fun _ hk => hk) trivial (Below.refl _ _) (Nat.le_refl _) (by simp) ?_; (case hd => rfl); (case hg => rfl); (case hr => first | (go_simp; done) | (go_simp; rfl)); (case hp => exact (Reps.none _ _)); intro v382 w4 ho5 hb hg_ hnew_; clear hg_ hnew_; (first | rw [← Ny381.out] at ho5 | (simp only [Int.reduceToNat] at ho5; rw [← Ny381.out] at ho5)); have HO383 := AM_ (Kd.S_lower ho5 (below_size (BT HB.out))); replace HB := AM_ (below_step (BT HB.out) hb); clear hb ho5) | ((with_reducible refine gate_callee (f := 12) rfl ?_); refine goesL_ (some 16) rfl rfl Tryz.func12 (by kernel_rfl) rfl #[.string a0, .string (⟨#[59, 32]⟩ : ByteArray)] rfl (by (try simp only [List.map_toArray, List.map_cons, List.map_nil]); first | done | rfl | (simp only [List.length_drop, List.length_take]; rfl)) ?_; (with_reducible refine (strings_Split.calls a0 (⟨#[59, 32]⟩ : ByteArray) t384 _ ?side1 A3.out).mono ?_); (case side1 => first | (with_reducible exact hTB) | exact Tryz.TB_below hTB (BT HB.out)); rintro e w6 ⟨v385, rfl, ho0, hb⟩; refine ⟨_, rfl, ?_⟩; replace HO383 := AM_ (Kd.S_below (ST HO383.out) hb); have HO386 := AM_ (Kd.R_lower ho0 (below_size (BT HB.out))); replace HB := AM_ (below_step (BT HB.out) hb); (try clear hb); (try clear hb2); (try clear hk); (try clear hi); (try clear ho0); obtain ⟨Ao7, co7, eo7⟩ := Kd.R_slice HO386.out; subst eo7))
 go_loopg [4, 18] k (fun kq v4 v18 w' => ∃ (x4_1 : List (S33)) (x18_1 : Int), v18 = .int .i64 x18_1 ∧ Aside0 (impl_ParseHistory.l0 kq a0 x4_1 t384 (t384.length : Int) x18_1 = some (r1, r2)) ∧ Aside0 (kq ≤ k) ∧ Aside0 (Kd.S k33 33 w' w.heap.size (fun _ => True) v4 x4_1) ∧ Aside0 (Kd.R Kd.string 9 w' w.heap.size (fun _ => True) (.slice Ao7 t384.length co7) t384) ∧ Aside0 (Below w.heap.size w w'))
 case atStart => exact ⟨(y381), (0), (by first | rfl | (simp; done) | (simp [*]; done)), H', ⟨Nat.le_refl _⟩, ⟨ST HO383.out⟩, ⟨RT HO386.out⟩, ⟨BT HB.out⟩⟩
 case round =>
  clear H'
  try clear c1
  try clear c2
  try clear c2b0
  try clear c2b1
  try clear p2
  try clear c5
  obtain ⟨x4_1, x18_1, rfl, HA, HK1, HO_4, HO_16, HB⟩ := hrel
  cases gk with
  | zero => exact absurd HA.out (by simp [impl_ParseHistory.l0])
  | succ k1 =>
   have H := HA.out
   clear HA
   simp only [impl_ParseHistory.l0] at H
   by_cases c8 : x18_1 < (t384.length : Int)
   rotate_left
   ·rw [if_neg c8] at H
    have c8b0 : decide (x18_1 < (t384.length : Int)) = false := decide_eq_false c8
    clear c8
    by_cases c39 : a0.toList = ([] : List UInt8)
    ·rw [if_pos c39] at H
     have c39b0 : (a0.toList == ([] : List UInt8)) = true := beq_iff_eq.mpr c39
     have c39b1 : (a0.toList != ([] : List UInt8)) = false := bne_eq_false_iff_eq.mpr c39
     clear c39
     simp only [Option.some.injEq, Prod.mk.injEq] at H
     obtain ⟨rfl, rfl⟩ := H
     go_wp2
     go_ret2
     exact ⟨_, by first | rfl | (simp [errW_none, errW_some] <;> rfl) | (simp [*, errW_none, errW_some] <;> rfl), by first | exact Kd.S_nil _ _ _ _ _ | exact Kd.N_nil _ _ _ _ _ | exact Kd.V_nil _ _ _ _ _ | exact Kd.Q_nil _ _ _ _ _ | exact Kd.R_nil _ _ _ _ _, BT HB.out⟩
    rw [if_neg c39] at H
    have c39b0 : (a0.toList == ([] : List UInt8)) = false := beq_eq_false_iff_ne.mpr c39
    have c39b1 : (a0.toList != ([] : List UInt8)) = true := bne_iff_ne.mpr c39
    replace H := Option.bind_eq_some_iff.mp H
    obtain ⟨t387, A400, H⟩ := H
    replace H : (if t387.toList = a0.toList then (some (x4_1, true)) else (some (([] : List (S33)), false))) = some (r1, r2) := H
    have A40 := AM_ A400
    clear A400
    by_cases c41 : t387.toList = a0.toList
    ·rw [if_pos c41] at H
     have c41b0 : (t387.toList == a0.toList) = true := beq_iff_eq.mpr c41
     have c41b1 : (t387.toList != a0.toList) = false := bne_eq_false_iff_eq.mpr c41
     clear c41
     simp only [Option.some.injEq, Prod.mk.injEq] at H
     obtain ⟨rfl, rfl⟩ := H
     obtain ⟨Ao42, co42, eo42⟩ := Kd.S_slice HO_4.out
     subst eo42
     go_wp2_with (first | (go_at_call 16; (with_reducible refine (impl_FormatHistory.calls k1 _ _ x4_1 t387 _ ?side1 ?side2 ?side3 A40.out).mono ?_); (case side1 => exact Kd.C_below (Kd.S_reads' HO_4.out).2.2 (BL (Below.refl _ _) rfl rfl rfl rfl)); (case side2 => exact (Kd.S_reads' HO_4.out).2.1); (case side3 => first | (with_reducible exact hTB) | exact Tryz.TB_below hTB (BT HB.out)); rintro e w43 ⟨rfl, hb⟩; replace HO_4 := AM_ (Kd.S_below (ST HO_4.out) hb); replace HO_16 := AM_ (Kd.R_below (RT HO_16.out) hb); replace HB := AM_ (below_step (BT HB.out) hb); (try clear hb); (try clear hb2); (try clear hk); (try clear hi)))
     go_ret2
     exact ⟨_, by first | rfl | (simp [errW_none, errW_some] <;> rfl) | (simp [*, errW_none, errW_some] <;> rfl), ST HO_4.out, BT HB.out⟩
    rw [if_neg c41] at H
    have c41b0 : (t387.toList == a0.toList) = false := beq_eq_false_iff_ne.mpr c41
    have c41b1 : (t387.toList != a0.toList) = true := bne_iff_ne.mpr c41
    simp only [Option.some.injEq, Prod.mk.injEq] at H
    obtain ⟨rfl, rfl⟩ := H
    obtain ⟨Ao44, co44, eo44⟩ := Kd.S_slice HO_4.out
    subst eo44
    go_wp2_with (first | (go_at_call 16; (with_reducible refine (impl_FormatHistory.calls k1 _ _ x4_1 t387 _ ?side1 ?side2 ?side3 A40.out).mono ?_); (case side1 => exact Kd.C_below (Kd.S_reads' HO_4.out).2.2 (BL (Below.refl _ _) rfl rfl rfl rfl)); (case side2 => exact (Kd.S_reads' HO_4.out).2.1); (case side3 => first | (with_reducible exact hTB) | exact Tryz.TB_below hTB (BT HB.out)); rintro e w45 ⟨rfl, hb⟩; replace HO_4 := AM_ (Kd.S_below (ST HO_4.out) hb); replace HO_16 := AM_ (Kd.R_below (RT HO_16.out) hb); replace HB := AM_ (below_step (BT HB.out) hb); (try clear hb); (try clear hb2); (try clear hk); (try clear hi)))
    go_ret2
    exact ⟨_, by first | rfl | (simp [errW_none, errW_some] <;> rfl) | (simp [*, errW_none, errW_some] <;> rfl), by first | exact Kd.S_nil _ _ _ _ _ | exact Kd.N_nil _ _ _ _ _ | exact Kd.V_nil _ _ _ _ _ | exact Kd.Q_nil _ _ _ _ _ | exact Kd.R_nil _ _ _ _ _, BT HB.out⟩
   rw [if_pos c8] at H
   have c8b0 : decide (x18_1 < (t384.length : Int)) = true := decide_eq_true c8
   clear c8
   replace H := HI H
   obtain ⟨c9, H⟩ := H
   have c9b0 : decide (0 ≤ x18_1) = true := decide_eq_true c9
   clear c9
   replace H := HI H
   obtain ⟨c10, H⟩ := H
   have c10b0 : decide (x18_1 < (t384.length : Int)) = true := decide_eq_true c10
   clear c10
   replace H := Option.bind_eq_some_iff.mp H
   obtain ⟨t389, A110, H⟩ := H
   replace H : (if 0 < (t389.length : Int) then ((strings_Cut.f (rdOf ByteArray.empty t389 0) (⟨#[64]⟩ : ByteArray)).bind fun bt393 => ((impl_ParseInt.f bt393.1).bind fun bt397 => ((impl_ParseInt.f bt393.2.1).bind fun bt399 => (if 1 ≤ (t389.length : Int) then ((impl_parseAccesses.f k1 (t389.drop 1)).bind fun bt405 => (if x4_1.length < 2199023255552 then (impl_ParseHistory.l0 k1 a0 (x4_1 ++ [(⟨bt397.1, bt399.1, bt405.1, bt405.2⟩ : S33)]) t384 (t384.length : Int) (wrap64 (x18_1 + 1))) else (none))) else (none))))) else (none)) = some (r1, r2) := H
   have A11 := AM_ A110
   clear A110
   replace H := HI H
   obtain ⟨c12, H⟩ := H
   have c12b0 : decide (0 < (t389.length : Int)) = true := decide_eq_true c12
   have c12b1 : decide (0 < t389.length) = true := decide_eq_true (by omega)
   clear c12
   replace H := Option.bind_eq_some_iff.mp H
   obtain ⟨⟨t393, t394, t395⟩, A130, H⟩ := H
   replace H : ((impl_ParseInt.f t393).bind fun bt397 => ((impl_ParseInt.f t394).bind fun bt399 => (if 1 ≤ (t389.length : Int) then ((impl_parseAccesses.f k1 (t389.drop 1)).bind fun bt405 => (if x4_1.length < 2199023255552 then (impl_ParseHistory.l0 k1 a0 (x4_1 ++ [(⟨bt397.1, bt399.1, bt405.1, bt405.2⟩ : S33)]) t384 (t384.length : Int) (wrap64 (x18_1 + 1))) else (none))) else (none)))) = some (r1, r2) := H
   have A13 := AM_ A130
   clear A130
   replace H := Option.bind_eq_some_iff.mp H
   obtain ⟨⟨t397, t398⟩, A140, H⟩ := H
   replace H : ((impl_ParseInt.f t394).bind fun bt399 => (if 1 ≤ (t389.length : Int) then ((impl_parseAccesses.f k1 (t389.drop 1)).bind fun bt405 => (if x4_1.length < 2199023255552 then (impl_ParseHistory.l0 k1 a0 (x4_1 ++ [(⟨t397, bt399.1, bt405.1, bt405.2⟩ : S33)]) t384 (t384.length : Int) (wrap64 (x18_1 + 1))) else (none))) else (none))) = some (r1, r2) := H
   have A14 := AM_ A140
   clear A140
   replace H := Option.bind_eq_some_iff.mp H
   obtain ⟨⟨t399, t400⟩, A150, H⟩ := H
   replace H : (if 1 ≤ (t389.length : Int) then ((impl_parseAccesses.f k1 (t389.drop 1)).bind fun bt405 => (if x4_1.length < 2199023255552 then (impl_ParseHistory.l0 k1 a0 (x4_1 ++ [(⟨t397, t399, bt405.1, bt405.2⟩ : S33)]) t384 (t384.length : Int) (wrap64 (x18_1 + 1))) else (none))) else (none)) = some (r1, r2) := H
   have A15 := AM_ A150
   clear A150
   replace H := HI H
   obtain ⟨c16, H⟩ := H
   have c16b0 := eq_true c16
   have c16b1 : decide (1 ≤ (t389.length : Int)) = true := decide_eq_true c16
   clear c16
   obtain ⟨y401, hy401⟩ : ∃ y_ : List ByteArray, y_ = (t389.drop 1) := ⟨_, rfl⟩
   replace H : ((impl_parseAccesses.f k1 y401).bind fun bt405 => (if x4_1.length < 2199023255552 then (impl_ParseHistory.l0 k1 a0 (x4_1 ++ [(⟨t397, t399, bt405.1, bt405.2⟩ : S33)]) t384 (t384.length : Int) (wrap64 (x18_1 + 1))) else (none))) = some (r1, r2) := by first | (rw [hy401]; with_reducible exact H) | (have H2_ := (Option.bind_some _ _).symm.trans H; rw [hy401]; with_reducible exact H2_) | (have H2_ := (Option.bind_some _ _).symm.trans H; with_reducible exact H2_) | with_reducible exact H | (rw [hy401]; exact H) | exact H
   have Ny401 := AM_ hy401
   clear hy401
   replace H := Option.bind_eq_some_iff.mp H
   obtain ⟨⟨t405, t406⟩, A170, H⟩ := H
   replace H : (if x4_1.length < 2199023255552 then (impl_ParseHistory.l0 k1 a0 (x4_1 ++ [(⟨t397, t399, t405, t406⟩ : S33)]) t384 (t384.length : Int) (wrap64 (x18_1 + 1))) else (none)) = some (r1, r2) := H
   have A17 := AM_ A170
   clear A170
   replace H := HI H
   obtain ⟨c18, H⟩ := H
   have LMc18 := AM_ c18
   clear c18
   obtain ⟨y411, hy411⟩ : ∃ y_ : List (S33), y_ = (x4_1 ++ [(⟨t397, t399, t405, t406⟩ : S33)]) := ⟨_, rfl⟩
   replace H : (impl_ParseHistory.l0 k1 a0 y411 t384 (t384.length : Int) (wrap64 (x18_1 + 1))) = some (r1, r2) := by first | (rw [hy411]; with_reducible exact H) | (have H2_ := (Option.bind_some _ _).symm.trans H; rw [hy411]; with_reducible exact H2_) | (have H2_ := (Option.bind_some _ _).symm.trans H; with_reducible exact H2_) | with_reducible exact H | (rw [hy411]; exact H) | exact H
   have Ny411 := AM_ hy411
   clear hy411
   have H' := AM_ H
   clear H
   have p388 : 0 ≤ (x18_1 : Int) := DT
   have q388 : x18_1 < (t384.length : Int) := DT
   obtain ⟨ad388, e388, hx388_0⟩ := Kd.at_string (Kd.R_reads' HO_16.out).2.2 x18_1 p388 q388
   cases e388
   replace p388 := eq_true p388
   replace q388 := eq_true q388
   go_wp2_with (first | ((with_reducible refine gate_callee (f := 12) rfl ?_); refine goesL_ (some 23) rfl rfl Tryz.func12 (by kernel_rfl) rfl #[.string (rdOf ByteArray.empty t384 x18_1), .string (⟨#[32]⟩ : ByteArray)] rfl (by (try simp only [List.map_toArray, List.map_cons, List.map_nil]); first | done | rfl | (simp only [List.length_drop, List.length_take]; rfl)) ?_; (with_reducible refine (strings_Split.calls (rdOf ByteArray.empty t384 x18_1) (⟨#[32]⟩ : ByteArray) t389 _ ?side1 A11.out).mono ?_); (case side1 => first | (with_reducible exact hTB) | exact Tryz.TB_below hTB (BT HB.out)); rintro e w19 ⟨v390, rfl, ho0, hb⟩; refine ⟨_, rfl, ?_⟩; replace HO_4 := AM_ (Kd.S_below (ST HO_4.out) hb); have HO391 := AM_ (Kd.R_lower (Kd.R_new' ho0 (Kd.R_lt (RT HO_16.out))) (below_size (BT HB.out))); replace HO_16 := AM_ (Kd.R_elder' (RT HO_16.out) (Kd.R_base ho0) hb); replace HB := AM_ (below_step (BT HB.out) hb); (try clear hb); (try clear hb2); (try clear hk); (try clear hi); (try clear ho0); obtain ⟨Ao20, co20, eo20⟩ := Kd.R_slice HO391.out; subst eo20; have p392 : 0 ≤ (0 : Int) := (by omega); have q392 : 0 < (t389.length : Int) := DT; obtain ⟨ad392, e392, hx392_0⟩ := Kd.at_string (Kd.R_reads' HO391.out).2.2 0 p392 q392; cases e392; have qi392 : (0 < t389.length) = True := eq_true (by omega); (try rw [show ((0 : Int)).toNat = 0 from rfl] at hx392_0); (try rw [Addr.add_zero'] at hx392_0); replace p392 := eq_true p392; replace q392 := eq_true q392) | ((with_reducible refine gate_callee (f := 13) rfl ?_); refine goesL_ (some 28) rfl rfl Tryz.func13 (by kernel_rfl) rfl #[.string (rdOf ByteArray.empty t389 0), .string (⟨#[64]⟩ : ByteArray)] rfl (by (try simp only [List.map_toArray, List.map_cons, List.map_nil]); first | done | rfl | (simp only [List.length_drop, List.length_take]; rfl)) ?_; (with_reducible refine (strings_Cut.calls (rdOf ByteArray.empty t389 0) (⟨#[64]⟩ : ByteArray) t393 t394 t395 _ ?side1 A13.out).mono ?_); (case side1 => first | (with_reducible exact hTB) | exact Tryz.TB_below hTB (BT HB.out)); rintro e w21 ⟨rfl, hb⟩; refine ⟨_, rfl, ?_⟩; replace HO_4 := AM_ (Kd.S_below (ST HO_4.out) hb); replace HO_16 := AM_ (Kd.R_below (RT HO_16.out) hb); replace HO391 := AM_ (Kd.R_below (RT HO391.out) hb); replace HB := AM_ (below_step (BT HB.out) hb); (try clear hb); (try clear hb2); (try clear hk); (try clear hi)) | ((with_reducible refine gate_dst (N := 11) rfl ?_); refine box_event ?hg (N := 11) ?hd (cs := #[.int .i64 0, .int .i64 0, .slice none 0 0, .slice none 0 0]) (t := 33) ?hr ?_; (case hd => rfl); (case hg => rfl); (case hr => first | (go_simp; done) | (go_simp; rfl)); intro gb396 hg w22 hbox hb; replace HO_4 := AM_ (Kd.S_below (Kd.S_elderB (ST HO_4.out) gb396 (Nat.le_of_eq hg.symm)) hb); replace HO_16 := AM_ (Kd.R_below (RT HO_16.out) hb); replace HO391 := AM_ (Kd.R_below (RT HO391.out) hb); have BK396 := AM_ (hbox); have GW396 := AM_ ((GS HB.out hg)); have GE396 := AM_ ((GS HB.out hg)); replace HB := AM_ (below_step (BT HB.out) hb); clear hb hbox hg; obtain ⟨hcz23_0, hcz23_1, hcz23_2, hcz23_3, hfz23_0, hfz23_1, hfz23_2, hfz23_3⟩ := bk4 BK396.out) | ((with_reducible refine gate_callee (f := 14) rfl ?_); refine goesL_ (some 35) rfl rfl Tryz.func14 (by kernel_rfl) rfl #[.string t393] rfl (by (try simp only [List.map_toArray, List.map_cons, List.map_nil]); first | done | rfl | (simp only [List.length_drop, List.length_take]; rfl)) ?_; (with_reducible refine (impl_ParseInt.calls t393 t397 t398 _ ?side1 A14.out).mono ?_); (case side1 => first | (with_reducible exact hTB) | exact Tryz.TB_below hTB (BT HB.out)); rintro e w24 ⟨rfl, hb⟩; refine ⟨_, rfl, ?_⟩; replace HO_4 := AM_ (Kd.S_below (by (with_reducible repeat (first | apply Kd.S_alloc | apply Kd.S_drewN | apply Kd.S_drew)); exact (Kd.S_mono (Kd.S_far (p := ⟨gb396, 3, none⟩) (Kd.S_far (p := ⟨gb396, 2, none⟩) (Kd.S_far (p := ⟨gb396, 1, none⟩) (Kd.S_far (p := ⟨gb396, 0, none⟩) (Kd.S_mono HO_4.out (fun k_ hk => (⟨hk, hk.2⟩ : _ ∧ k_ ≠ gb396))) (fun _ hk => hk.2) (.int .i64 0)) (fun _ hk => hk.2) (.int .i64 0)) (fun _ hk => hk.2) (.slice none 0 0)) (fun _ hk => hk.2) (.slice none 0 0)) (fun _ h_ => h_.1))) hb); replace HO_16 := AM_ (Kd.R_below (RF HO_16.out BK396.out) hb); replace HO391 := AM_ (Kd.R_below (RF HO391.out BK396.out) hb); replace BK396 := AM_ (BP #[.int .i64 0, .int .i64 0, .slice none 0 0, .slice none 0 0] BK396.out hb); replace HB := AM_ (below_step (BT HB.out) hb); (try clear hb); (try clear hb2); (try clear hk); (try clear hi); obtain ⟨hcz25_0, hcz25_1, hcz25_2, hcz25_3, hfz25_0, hfz25_1, hfz25_2, hfz25_3⟩ := bk4 BK396.out) | ((with_reducible refine gate_callee (f := 14) rfl ?_); refine goesL_ (some 41) rfl rfl Tryz.func14 (by kernel_rfl) rfl #[.string t394] rfl (by (try simp only [List.map_toArray, List.map_cons, List.map_nil]); first | done | rfl | (simp only [List.length_drop, List.length_take]; rfl)) ?_; (with_reducible refine (impl_ParseInt.calls t394 t399 t400 _ ?side1 A15.out).mono ?_); (case side1 => first | (with_reducible exact hTB) | exact Tryz.TB_below hTB (BT HB.out)); rintro e w26 ⟨rfl, hb⟩; refine ⟨_, rfl, ?_⟩; replace HO_4 := AM_ (Kd.S_below (by (with_reducible repeat (first | apply Kd.S_alloc | apply Kd.S_drewN | apply Kd.S_drew)); exact (Kd.S_mono (Kd.S_far (p := ⟨gb396, 0, none⟩) (Kd.S_mono HO_4.out (fun k_ hk => (⟨hk, hk.2⟩ : _ ∧ k_ ≠ gb396))) (fun _ hk => hk.2) (.int .i64 t397)) (fun _ h_ => h_.1))) hb); replace HO_16 := AM_ (Kd.R_below (RF HO_16.out BK396.out) hb); replace HO391 := AM_ (Kd.R_below (RF HO391.out BK396.out) hb); replace BK396 := AM_ (BP #[.int .i64 t397, .int .i64 0, .slice none 0 0, .slice none 0 0] BK396.out hb); replace HB := AM_ (below_step (BT HB.out) hb); (try clear hb); (try clear hb2); (try clear hk); (try clear hi); obtain ⟨hcz27_0, hcz27_1, hcz27_2, hcz27_3, hfz27_0, hfz27_1, hfz27_2, hfz27_3⟩ := bk4 BK396.out) | ((with_reducible refine gate_store (t := 3) (p := 44) rfl ?_); refine store_event (t := 3) (p := 44) (v := ?vo_w28) (w1 := (w26.setCell ⟨gb396, 1, none⟩ (.int .i64 t399))) ?hg ?ho ?hn ?hr ?_; (case ho => rfl); (case hg => rfl); (case hn => rfl); (case hr => first | (go_simp; done) | (go_simp; rfl)); intro w28 hw; have n0_ : Aside0 (Kd.S k33 33 w28 w.heap.size (fun k_ => k_ ≠ gb396) u4 x4_1) := ⟨(by rw [hw]; exact (by (with_reducible repeat (first | apply Kd.S_alloc | apply Kd.S_drewN | apply Kd.S_drew)); exact Kd.S_mono (Kd.S_far (p := ⟨gb396, 1, none⟩) (Kd.S_mono HO_4.out (fun k_ hk => (⟨hk, hk.2⟩ : _ ∧ k_ ≠ gb396))) (fun _ hk => hk.2) (.int .i64 t399)) (fun _ hk => hk.1.2)))⟩; have n1_ : Aside0 (Kd.R Kd.string 9 w28 w.heap.size (fun k_ => some k_ ≠ (.slice (some ad392) t389.length co20 : Value).ownBlock) (.slice (some ad388) t384.length co7) t384) := ⟨(by rw [hw]; exact (by (with_reducible repeat (first | apply Kd.R_alloc | apply Kd.R_drewN | apply Kd.R_drew)); exact Kd.R_mono (Kd.R_far (p := ⟨gb396, 1, none⟩) (Kd.R_types HO_16.out BK396.out (by decide)) (fun _ hk => hk.2) (.int .i64 t399)) (fun _ hk => hk.1.2)))⟩; have n2_ : Aside0 (Kd.R Kd.string 9 w28 w.heap.size (fun k_ => some k_ ≠ (.slice (some ad388) t384.length co7 : Value).ownBlock) (.slice (some ad392) t389.length co20) t389) := ⟨(by rw [hw]; exact (by (with_reducible repeat (first | apply Kd.R_alloc | apply Kd.R_drewN | apply Kd.R_drew)); exact Kd.R_mono (Kd.R_far (p := ⟨gb396, 1, none⟩) (Kd.R_types HO391.out BK396.out (by decide)) (fun _ hk => hk.2) (.int .i64 t399)) (fun _ hk => hk.1.2)))⟩; have n3_ : Aside0 (w28.heap[gb396]? = some (.cells #[.int .i64 t397, .int .i64 t399, .slice none 0 0, .slice none 0 0] 33 (0, 0))) := ⟨(by rw [hw]; exact (by (with_reducible repeat (first | refine blk_drewN ?_ _ | refine blk_drew ?_ | refine blk_alloc ?_ _)); refine blk_put (cs := #[.int .i64 t397, .int .i64 0, .slice none 0 0, .slice none 0 0]) ?_ 1 _ rfl; (with_reducible repeat (first | refine blk_drewN ?_ _ | refine blk_drew ?_ | refine blk_alloc ?_ _)); exact BK396.out))⟩; have n4_ : Aside0 (Below w.heap.size w w28) := ⟨(by rw [hw]; exact (BT HB.out))⟩; clear hw; clear HO_4; clear HO_16; clear HO391; clear BK396; clear HB; have HO_4 := n0_; have HO_16 := n1_; have HO391 := n2_; have BK396 := n3_; have HB := n4_; clear n0_ n1_ n2_ n3_ n4_; have q29 : (1 : Int) ≤ ((t389.length : Int) : Int) := DT; obtain ⟨i029, hi029, _, hsz29, _⟩ := info_parts info9; have hroom29 : t389.length ≤ co20 := (Kd.R_reads' HO391.out).2.1; have hC29 : Kd.C Kd.string _ (some ad392) t389.length t389 := (Kd.R_reads' HO391.out).2.2; have hcut29 := cut_from (P := Tryz.prog) 28 9 .i64 Tryz.underlying28 hi029 1 hsz29 (some ad392) t389.length co20 1 (by omega) q29; have hr29 := Kd.C_drop (m := (1 : Int).toNat) (c := co20) hC29 (by omega) hroom29; obtain ⟨A29, hA29⟩ : ∃ A1, A1 = (if co20 = (1 : Int).toNat then (some ad392) else ((some ad392) : Option Addr).map (·.add ((1 : Int).toNat * 1))) := ⟨_, rfl⟩; obtain ⟨c29, hc29⟩ : ∃ c1, c1 = co20 - (1 : Int).toNat := ⟨_, rfl⟩; have hy29 : y401.length = t389.length - (1 : Int).toNat := (by rw [Ny401.out, List.length_drop] <;> omega); rw [show (t389).drop (1 : Int).toNat = y401 from Ny401.out.symm] at hr29; replace hr29 : Kd.C Kd.string _ A29 y401.length y401 := (by rw [hA29]; exact hr29); rw [← hy29, ← hA29, ← hc29] at hcut29; have HR404 := AM_ hr29; have HC404 := AM_ (show y401.length ≤ c29 from by rw [hy29, hc29]; exact Nat.sub_le_sub_right hroom29 _); clear hr29 hC29 hroom29 hi029 hsz29 hc29; have KY29 := AM_ hy29; have KA29 := AM_ hA29; clear hy29 hA29; have KL29 := AM_ (show 1 ≤ t389.length from by omega); replace q29 := eq_true q29) | ((with_reducible refine gate_callee (f := 15) rfl ?_); refine goesL_ (some 48) rfl rfl Tryz.func15 (by kernel_rfl) rfl #[.slice A29 y401.length c29] rfl (by (try simp only [List.map_toArray, List.map_cons, List.map_nil]); first | done | rfl | (simp only [List.length_drop, List.length_take]; rfl)) ?_; (with_reducible refine (impl_parseAccesses.calls k1 _ _ y401 t405 t406 _ ?side1 ?side2 ?side3 A17.out).mono ?_); (case side1 => repeat (first | exact (by repeat (first | (with_reducible exact HR404.out) | (with_reducible refine Kd.C_alloc ?_ _) | (with_reducible refine Kd.C_drewN ?_ _) | (with_reducible refine Kd.C_drew ?_) | exact HR404.out)) | (with_reducible refine Kd.C_alloc ?_ _) | (with_reducible refine Kd.C_drewN ?_ _) | (with_reducible refine Kd.C_drew ?_))); (case side2 => exact HC404.out); (case side3 => first | (with_reducible exact hTB) | exact Tryz.TB_below hTB (BT HB.out)); rintro e w30 ⟨v407, v409, rfl, ho0, ho1, hb⟩; refine ⟨_, rfl, ?_⟩; replace HO_4 := AM_ (Kd.S_mono (Kd.S_told (Kd.S_told (Kd.S_old (ST HO_4.out) hb) (Kd.R_base ho0)) (Kd.R_base ho1)) (fun _ h_ => h_.1)); replace HO_16 := AM_ (Kd.R_below (RT HO_16.out) hb); replace HO391 := AM_ (Kd.R_below (RT HO391.out) hb); have HO408 := AM_ (Kd.R_lower ho0 (below_size (BT HB.out))); have HO410 := AM_ (Kd.R_lower ho1 (below_size (BT HB.out))); replace BK396 := AM_ (BB BK396.out hb); replace HR404 := AM_ (Kd.C_below (by repeat (first | (with_reducible exact HR404.out) | (with_reducible refine Kd.C_alloc ?_ _) | (with_reducible refine Kd.C_drewN ?_ _) | (with_reducible refine Kd.C_drew ?_) | exact HR404.out)) hb); replace HB := AM_ (below_step (BT HB.out) hb); (try clear hb); (try clear hb2); (try clear hk); (try clear hi); (try clear ho0); (try clear ho1); obtain ⟨Ao31, co31, eo31⟩ := Kd.R_slice HO408.out; subst eo31; obtain ⟨hcz32_0, hcz32_1, hcz32_2, hcz32_3, hfz32_0, hfz32_1, hfz32_2, hfz32_3⟩ := bk4 BK396.out) | ((with_reducible refine gate_store (t := 30) (p := 51) rfl ?_); refine store_event (t := 30) (p := 51) (v := ?vo_w33) (w1 := (w30.setCell ⟨gb396, 2, none⟩ (.slice Ao31 t405.length co31))) ?hg ?ho ?hn ?hr ?_; (case ho => rfl); (case hg => rfl); (case hn => rfl); (case hr => first | (go_simp; done) | (go_simp; rfl)); intro w33 hw; have n0_ : Aside0 (Kd.S k33 33 w33 w.heap.size (fun k_ => some k_ ≠ (.slice Ao31 t405.length co31 : Value).ownBlock ∧ some k_ ≠ (v409 : Value).ownBlock ∧ k_ ≠ gb396) u4 x4_1) := ⟨(by rw [hw]; exact (by (with_reducible repeat (first | apply Kd.S_alloc | apply Kd.S_drewN | apply Kd.S_drew)); exact Kd.S_mono (Kd.S_far (p := ⟨gb396, 2, none⟩) (Kd.S_mono HO_4.out (fun k_ hk => (⟨hk, hk.1.1⟩ : _ ∧ k_ ≠ gb396))) (fun _ hk => hk.2) (.slice Ao31 t405.length co31)) (fun _ hk => ⟨hk.1.1.2, ⟨hk.1.2, hk.1.1.1⟩⟩)))⟩; have n1_ : Aside0 (Kd.R Kd.string 9 w33 w.heap.size (fun k_ => some k_ ≠ (.slice (some ad392) t389.length co20 : Value).ownBlock) (.slice (some ad388) t384.length co7) t384) := ⟨(by rw [hw]; exact (by (with_reducible repeat (first | apply Kd.R_alloc | apply Kd.R_drewN | apply Kd.R_drew)); exact Kd.R_mono (Kd.R_far (p := ⟨gb396, 2, none⟩) (Kd.R_types HO_16.out BK396.out (by decide)) (fun _ hk => hk.2) (.slice Ao31 t405.length co31)) (fun _ hk => hk.1)))⟩; have n2_ : Aside0 (Kd.R Kd.string 9 w33 w.heap.size (fun k_ => some k_ ≠ (.slice (some ad388) t384.length co7 : Value).ownBlock) (.slice (some ad392) t389.length co20) t389) := ⟨(by rw [hw]; exact (by (with_reducible repeat (first | apply Kd.R_alloc | apply Kd.R_drewN | apply Kd.R_drew)); exact Kd.R_mono (Kd.R_far (p := ⟨gb396, 2, none⟩) (Kd.R_types HO391.out BK396.out (by decide)) (fun _ hk => hk.2) (.slice Ao31 t405.length co31)) (fun _ hk => hk.1)))⟩; have n3_ : Aside0 (Kd.R k48 48 w33 w.heap.size (fun _ => True) (.slice Ao31 t405.length co31) t405) := ⟨(by rw [hw]; exact (by (with_reducible repeat (first | apply Kd.R_alloc | apply Kd.R_drewN | apply Kd.R_drew)); exact Kd.R_mono (Kd.R_far (p := ⟨gb396, 2, none⟩) (Kd.R_types HO408.out BK396.out (by decide)) (fun _ hk => hk.2) (.slice Ao31 t405.length co31)) (fun _ hk => trivial)))⟩; have n4_ : Aside0 (Kd.R k50 50 w33 w.heap.size (fun _ => True) v409 t406) := ⟨(by rw [hw]; exact (by (with_reducible repeat (first | apply Kd.R_alloc | apply Kd.R_drewN | apply Kd.R_drew)); exact Kd.R_mono (Kd.R_far (p := ⟨gb396, 2, none⟩) (Kd.R_types HO410.out BK396.out (by decide)) (fun _ hk => hk.2) (.slice Ao31 t405.length co31)) (fun _ hk => trivial)))⟩; have n5_ : Aside0 (w33.heap[gb396]? = some (.cells #[.int .i64 t397, .int .i64 t399, .slice Ao31 t405.length co31, .slice none 0 0] 33 (0, 0))) := ⟨(by rw [hw]; exact (by (with_reducible repeat (first | refine blk_drewN ?_ _ | refine blk_drew ?_ | refine blk_alloc ?_ _)); refine blk_put (cs := #[.int .i64 t397, .int .i64 t399, .slice none 0 0, .slice none 0 0]) ?_ 2 _ rfl; (with_reducible repeat (first | refine blk_drewN ?_ _ | refine blk_drew ?_ | refine blk_alloc ?_ _)); exact BK396.out))⟩; have n6_ : Aside0 (Below w.heap.size w w33) := ⟨(by rw [hw]; exact (BT HB.out))⟩; clear hw; clear HO_4; clear HO_16; clear HO391; clear HO408; clear HO410; clear BK396; clear HB; have HO_4 := n0_; have HO_16 := n1_; have HO391 := n2_; have HO408 := n3_; have HO410 := n4_; have BK396 := n5_; have HB := n6_; clear n0_ n1_ n2_ n3_ n4_ n5_ n6_; obtain ⟨Ao34, co34, eo34⟩ := Kd.R_slice HO410.out; subst eo34; obtain ⟨hcz35_0, hcz35_1, hcz35_2, hcz35_3, hfz35_0, hfz35_1, hfz35_2, hfz35_3⟩ := bk4 BK396.out) | ((with_reducible refine gate_store (t := 31) (p := 52) rfl ?_); refine store_event (t := 31) (p := 52) (v := ?vo_w36) (w1 := (w33.setCell ⟨gb396, 3, none⟩ (.slice Ao34 t406.length co34))) ?hg ?ho ?hn ?hr ?_; (case ho => rfl); (case hg => rfl); (case hn => rfl); (case hr => first | (go_simp; done) | (go_simp; rfl)); intro w36 hw; have n0_ : Aside0 (Kd.S k33 33 w36 w.heap.size (fun k_ => some k_ ≠ (.slice Ao31 t405.length co31 : Value).ownBlock ∧ some k_ ≠ (.slice Ao34 t406.length co34 : Value).ownBlock ∧ k_ ≠ gb396) u4 x4_1) := ⟨(by rw [hw]; exact (by (with_reducible repeat (first | apply Kd.S_alloc | apply Kd.S_drewN | apply Kd.S_drew)); exact Kd.S_mono (Kd.S_far (p := ⟨gb396, 3, none⟩) (Kd.S_mono HO_4.out (fun k_ hk => (⟨hk, hk.2.2⟩ : _ ∧ k_ ≠ gb396))) (fun _ hk => hk.2) (.slice Ao34 t406.length co34)) (fun _ hk => ⟨hk.1.1, ⟨hk.1.2.1, hk.1.2.2⟩⟩)))⟩; have n1_ : Aside0 (Kd.R Kd.string 9 w36 w.heap.size (fun k_ => some k_ ≠ (.slice (some ad392) t389.length co20 : Value).ownBlock) (.slice (some ad388) t384.length co7) t384) := ⟨(by rw [hw]; exact (by (with_reducible repeat (first | apply Kd.R_alloc | apply Kd.R_drewN | apply Kd.R_drew)); exact Kd.R_mono (Kd.R_far (p := ⟨gb396, 3, none⟩) (Kd.R_types HO_16.out BK396.out (by decide)) (fun _ hk => hk.2) (.slice Ao34 t406.length co34)) (fun _ hk => hk.1)))⟩; have n2_ : Aside0 (Kd.R Kd.string 9 w36 w.heap.size (fun k_ => some k_ ≠ (.slice (some ad388) t384.length co7 : Value).ownBlock) (.slice (some ad392) t389.length co20) t389) := ⟨(by rw [hw]; exact (by (with_reducible repeat (first | apply Kd.R_alloc | apply Kd.R_drewN | apply Kd.R_drew)); exact Kd.R_mono (Kd.R_far (p := ⟨gb396, 3, none⟩) (Kd.R_types HO391.out BK396.out (by decide)) (fun _ hk => hk.2) (.slice Ao34 t406.length co34)) (fun _ hk => hk.1)))⟩; have n3_ : Aside0 (Kd.R k48 48 w36 w.heap.size (fun _ => True) (.slice Ao31 t405.length co31) t405) := ⟨(by rw [hw]; exact (by (with_reducible repeat (first | apply Kd.R_alloc | apply Kd.R_drewN | apply Kd.R_drew)); exact Kd.R_mono (Kd.R_far (p := ⟨gb396, 3, none⟩) (Kd.R_types HO408.out BK396.out (by decide)) (fun _ hk => hk.2) (.slice Ao34 t406.length co34)) (fun _ hk => trivial)))⟩; have n4_ : Aside0 (Kd.R k50 50 w36 w.heap.size (fun _ => True) (.slice Ao34 t406.length co34) t406) := ⟨(by rw [hw]; exact (by (with_reducible repeat (first | apply Kd.R_alloc | apply Kd.R_drewN | apply Kd.R_drew)); exact Kd.R_mono (Kd.R_far (p := ⟨gb396, 3, none⟩) (Kd.R_types HO410.out BK396.out (by decide)) (fun _ hk => hk.2) (.slice Ao34 t406.length co34)) (fun _ hk => trivial)))⟩; have n5_ : Aside0 (w36.heap[gb396]? = some (.cells #[.int .i64 t397, .int .i64 t399, .slice Ao31 t405.length co31, .slice Ao34 t406.length co34] 33 (0, 0))) := ⟨(by rw [hw]; exact (by (with_reducible repeat (first | refine blk_drewN ?_ _ | refine blk_drew ?_ | refine blk_alloc ?_ _)); refine blk_put (cs := #[.int .i64 t397, .int .i64 t399, .slice Ao31 t405.length co31, .slice none 0 0]) ?_ 3 _ rfl; (with_reducible repeat (first | refine blk_drewN ?_ _ | refine blk_drew ?_ | refine blk_alloc ?_ _)); exact BK396.out))⟩; have n6_ : Aside0 (Below w.heap.size w w36) := ⟨(by rw [hw]; exact (BT HB.out))⟩; clear hw; clear HO_4; clear HO_16; clear HO391; clear HO408; clear HO410; clear BK396; clear HB; have HO_4 := n0_; have HO_16 := n1_; have HO391 := n2_; have HO408 := n3_; have HO410 := n4_; have BK396 := n5_; have HB := n6_; clear n0_ n1_ n2_ n3_ n4_ n5_ n6_; obtain ⟨hcz37_0, hcz37_1, hcz37_2, hcz37_3, hfz37_0, hfz37_1, hfz37_2, hfz37_3⟩ := bk4 BK396.out) | ((with_reducible refine gate_builtin (b := .append) (xs := #[.tmp 53, .tmp 55]) rfl ?_); at_builtin; refine Kd.S_append k33 (w0 := w) w.heap.size rfl (.tmp 53) (.tmp 55) 22 33 (.agg #[(.int .i64 0), (.int .i64 0), (.slice none 0 0), (.slice none 0 0)]) 64 rfl Tryz.underlying22 info33 rfl (by decide) (by omega) u4 x4_1 (⟨t397, t399, t405, t406⟩ : S33) [.int .i64 t397, .int .i64 t399, .slice Ao31 t405.length co31, .slice Ao34 t406.length co34] (fun k_ => k_ ≠ gb396) (fun k_ => some k_ = (.slice Ao31 t405.length co31 : Value).ownBlock ∨ some k_ = (.slice Ao34 t406.length co34 : Value).ownBlock) rfl rfl ?aP (fun k_ hk_ => hk_.elim (fun h_ => ((Kd.R_mono (ok' := fun k_ => ((fun k_ => k_ ≠ gb396)) k_ ∧ some k_ ≠ (u4 : Value).ownBlock) (Kd.R_types (Kd.R_apart' (HO408.out) (Kd.S_typed HO_4.out) (by decide)) BK396.out (by decide)) (fun k_ hk => ⟨hk.2, hk.1.2⟩))).1 k_ h_.symm) (fun h_ => ((Kd.R_mono (ok' := fun k_ => ((fun k_ => k_ ≠ gb396)) k_ ∧ some k_ ≠ (u4 : Value).ownBlock) (Kd.R_types (Kd.R_apart' (HO410.out) (Kd.S_typed HO_4.out) (by decide)) BK396.out (by decide)) (fun k_ hk => ⟨hk.2, hk.1.2⟩))).1 k_ h_.symm)) ?aF ?aO ?aB ?aS ?aL ?_; (case aP => exact k33_mkM _ _ _ (⟨t397, t399, t405, t406⟩ : S33) (Kd.R_mono (Kd.R_tight rfl (Kd.R_mono (ok' := fun k_ => ((fun k_ => k_ ≠ gb396)) k_ ∧ some k_ ≠ (u4 : Value).ownBlock) (Kd.R_types (Kd.R_apart' (HO408.out) (Kd.S_typed HO_4.out) (by decide)) BK396.out (by decide)) (fun k_ hk => ⟨hk.2, hk.1.2⟩))) (fun _ h_ => Or.inl h_)) (Kd.R_mono (Kd.R_tight rfl (Kd.R_mono (ok' := fun k_ => ((fun k_ => k_ ≠ gb396)) k_ ∧ some k_ ≠ (u4 : Value).ownBlock) (Kd.R_types (Kd.R_apart' (HO410.out) (Kd.S_typed HO_4.out) (by decide)) BK396.out (by decide)) (fun k_ hk => ⟨hk.2, hk.1.2⟩))) (fun _ h_ => Or.inr (h_)))); (case aB => exact (BT HB.out)); (case aF => exact (fun k_ hk => Kd.freshB (g := gb396) (o := .cells #[.int .i64 t397, .int .i64 t399, .slice Ao31 t405.length co31, .slice Ao34 t406.length co34] 33 (0, 0)) (by (with_reducible repeat (first | refine blk_drewN ?_ _ | refine blk_drew ?_ | refine blk_alloc ?_ _)); exact BK396.out) k_ hk)); (case aO => exact (by (with_reducible repeat (first | apply Kd.S_alloc | apply Kd.S_drewN | apply Kd.S_drew)); exact Kd.S_mono HO_4.out (fun k_ hk => ⟨hk.2.2, fun e_ => e_.elim (fun h_ => hk.1 h_) (fun h_ => hk.2.1 h_)⟩))); (case aS => exact (below_size (BT HB.out))); (case aL => have := LMc18.out; omega); intro v412 w38 ho hb hg hat; rw [← Ny411.out] at ho; have n0_ := AM_ (Kd.R_over' (RT HO_16.out) (Kd.S_typed (ST HO_4.out)) (by decide) hg); have n1_ := AM_ (Kd.R_over' (RT HO391.out) (Kd.S_typed (ST HO_4.out)) (by decide) hg); have n2_ := AM_ (blk_grown (g := gb396) (o := .cells #[.int .i64 t397, .int .i64 t399, .slice Ao31 t405.length co31, .slice Ao34 t406.length co34] 33 (0, 0)) (by (with_reducible repeat (first | refine blk_drewN ?_ _ | refine blk_drew ?_ | refine blk_alloc ?_ _)); exact BK396.out) hg (Kd.S_away HO_4.out (fun _ hk => hk.2.2))); have n3_ := AM_ (hb); have n4_ := AM_ ((show Kd.C Kd.string w38 A29 y401.length y401 from by rw [Ny401.out, KA29.out]; exact Kd.C_drop (m := 1) (c := co20) ((Kd.R_reads' (Kd.R_over' (RT HO391.out) (Kd.S_typed (ST HO_4.out)) (by decide) hg)).2.2) KL29.out ((Kd.R_reads' (Kd.R_over' (RT HO391.out) (Kd.S_typed (ST HO_4.out)) (by decide) hg)).2.1))); have n5_ := AM_ (ho); clear HO_16; clear HO391; clear BK396; clear HB; clear HR404; clear HO_4; clear HO408; clear HO410; have HO_16 := n0_; have HO391 := n1_; have BK396 := n2_; have HB := n3_; have HR404 := n4_; have HO413 := n5_; clear n0_ n1_ n2_ n3_ n4_ n5_; clear ho hb hg hat))
   go_roundg k1
   case measure => have := HK1.out; omega
   case rel => exact ⟨(y411), (wrap64 (x18_1 + 1)), (by first | rfl | (simp; done) | (simp [*]; done)), H', ⟨by have := HK1.out; omega⟩, ⟨by (with_reducible repeat (first | apply Kd.S_alloc | apply Kd.S_drewN | apply Kd.S_drew)); exact Kd.S_mono HO413.out (fun _ hk => trivial)⟩, ⟨by (with_reducible repeat (first | apply Kd.R_alloc | apply Kd.R_drewN | apply Kd.R_drew)); exact Kd.R_mono HO_16.out (fun _ hk => trivial)⟩, ⟨BT HB.out⟩⟩

/-! ### laws_eqReadMark: function 57 -/
def laws_eqReadMark.f (a0_0 : Int) (a0_1 : Int) (a1_0 : Int) (a1_1 : Int) : Option (Bool) := if a0_0 = a1_0 then (if a0_1 = a1_1 then (some true) else (some false)) else (some false)
theorem laws_eqReadMark.calls (a0_0 : Int) (a0_1 : Int) (a1_0 : Int) (a1_1 : Int) (r : Bool) (w : World) (h : laws_eqReadMark.f a0_0 a0_1 a1_0 a1_1 = some r) :
  Calls Tryz.prog 57 #[.agg #[.int .i64 a0_0, .int .i64 a0_1], .agg #[.int .i64 a1_0, .int .i64 a1_1]] w fun e w' => e = .returned (.bool r) ∧ Below w.heap.size w w' := by
 have hu48 := Tryz.underlying48
 have HB := AM_ (Below.refl w.heap.size w)
 have H : (if a0_0 = a1_0 then (if a0_1 = a1_1 then (some true) else (some false)) else (some false)) = some r := h
 clear h
 by_cases c3 : a0_0 = a1_0
 rotate_left
 ·rw [if_neg c3] at H
  have c3b0 : (a0_0 == a1_0) = false := beq_eq_false_iff_ne.mpr c3
  have c3b1 : (a0_0 != a1_0) = true := bne_iff_ne.mpr c3
  obtain rfl := Option.some.inj H
  go_enter Tryz.func57, Tryz.ntmps57
  go_wp2_with (first | ((with_reducible refine gate_dst (N := 2) rfl ?_); refine box_event ?hg (N := 2) ?hd (cs := #[.int .i64 a0_0, .int .i64 a0_1]) (t := 48) ?hr ?_; (case hd => rfl); (case hg => rfl); (case hr => first | (go_simp; done) | (go_simp; rfl)); intro gb414 hg w15 hbox hb; have BK414 := AM_ (hbox); have GW414 := AM_ ((GS HB.out hg)); have GE414 := AM_ ((GS HB.out hg)); replace HB := AM_ (below_step (BT HB.out) hb); clear hb hbox hg) | ((with_reducible refine gate_dst (N := 3) rfl ?_); refine box_event ?hg (N := 3) ?hd (cs := #[.int .i64 a1_0, .int .i64 a1_1]) (t := 48) ?hr ?_; (case hd => rfl); (case hg => rfl); (case hr => first | (go_simp; done) | (go_simp; rfl)); intro gb415 hg w16 hbox hb; have BK415 := AM_ (hbox); have GW415 := AM_ ((GS HB.out hg)); have GE415 := AM_ ((GS HB.out hg)); replace HB := AM_ (below_step (BT HB.out) hb); have NB414_415 := AM_ ((NL BK414.out hg)); have NB415_414 := AM_ ((NG BK414.out hg)); replace BK414 := AM_ (BB BK414.out hb); clear hb hbox hg; have hnb17 := NB414_415.out; have hnc17 := NB415_414.out; obtain ⟨hcz18_0, hcz18_1, hfz18_0, hfz18_1⟩ := bk2 BK414.out; obtain ⟨hcz19_0, hcz19_1, hfz19_0, hfz19_1⟩ := bk2 BK415.out))
  go_ret
  exact QT (BT HB.out)
 rw [if_pos c3] at H
 have c3b0 : (a0_0 == a1_0) = true := beq_iff_eq.mpr c3
 have c3b1 : (a0_0 != a1_0) = false := bne_eq_false_iff_eq.mpr c3
 clear c3
 by_cases c4 : a0_1 = a1_1
 ·rw [if_pos c4] at H
  have c4b0 : (a0_1 == a1_1) = true := beq_iff_eq.mpr c4
  have c4b1 : (a0_1 != a1_1) = false := bne_eq_false_iff_eq.mpr c4
  clear c4
  obtain rfl := Option.some.inj H
  go_enter Tryz.func57, Tryz.ntmps57
  go_wp2_with (first | ((with_reducible refine gate_dst (N := 2) rfl ?_); refine box_event ?hg (N := 2) ?hd (cs := #[.int .i64 a0_0, .int .i64 a0_1]) (t := 48) ?hr ?_; (case hd => rfl); (case hg => rfl); (case hr => first | (go_simp; done) | (go_simp; rfl)); intro gb414 hg w5 hbox hb; have BK414 := AM_ (hbox); have GW414 := AM_ ((GS HB.out hg)); have GE414 := AM_ ((GS HB.out hg)); replace HB := AM_ (below_step (BT HB.out) hb); clear hb hbox hg) | ((with_reducible refine gate_dst (N := 3) rfl ?_); refine box_event ?hg (N := 3) ?hd (cs := #[.int .i64 a1_0, .int .i64 a1_1]) (t := 48) ?hr ?_; (case hd => rfl); (case hg => rfl); (case hr => first | (go_simp; done) | (go_simp; rfl)); intro gb415 hg w6 hbox hb; have BK415 := AM_ (hbox); have GW415 := AM_ ((GS HB.out hg)); have GE415 := AM_ ((GS HB.out hg)); replace HB := AM_ (below_step (BT HB.out) hb); have NB414_415 := AM_ ((NL BK414.out hg)); have NB415_414 := AM_ ((NG BK414.out hg)); replace BK414 := AM_ (BB BK414.out hb); clear hb hbox hg; have hnb7 := NB414_415.out; have hnc7 := NB415_414.out; obtain ⟨hcz8_0, hcz8_1, hfz8_0, hfz8_1⟩ := bk2 BK414.out; obtain ⟨hcz9_0, hcz9_1, hfz9_0, hfz9_1⟩ := bk2 BK415.out))
  go_ret
  exact QT (BT HB.out)
 rw [if_neg c4] at H
 have c4b0 : (a0_1 == a1_1) = false := beq_eq_false_iff_ne.mpr c4
 have c4b1 : (a0_1 != a1_1) = true := bne_iff_ne.mpr c4
 obtain rfl := Option.some.inj H
 go_enter Tryz.func57, Tryz.ntmps57
 go_wp2_with (first | ((with_reducible refine gate_dst (N := 2) rfl ?_); refine box_event ?hg (N := 2) ?hd (cs := #[.int .i64 a0_0, .int .i64 a0_1]) (t := 48) ?hr ?_; (case hd => rfl); (case hg => rfl); (case hr => first | (go_simp; done) | (go_simp; rfl)); intro gb414 hg w10 hbox hb; have BK414 := AM_ (hbox); have GW414 := AM_ ((GS HB.out hg)); have GE414 := AM_ ((GS HB.out hg)); replace HB := AM_ (below_step (BT HB.out) hb); clear hb hbox hg) | ((with_reducible refine gate_dst (N := 3) rfl ?_); refine box_event ?hg (N := 3) ?hd (cs := #[.int .i64 a1_0, .int .i64 a1_1]) (t := 48) ?hr ?_; (case hd => rfl); (case hg => rfl); (case hr => first | (go_simp; done) | (go_simp; rfl)); intro gb415 hg w11 hbox hb; have BK415 := AM_ (hbox); have GW415 := AM_ ((GS HB.out hg)); have GE415 := AM_ ((GS HB.out hg)); replace HB := AM_ (below_step (BT HB.out) hb); have NB414_415 := AM_ ((NL BK414.out hg)); have NB415_414 := AM_ ((NG BK414.out hg)); replace BK414 := AM_ (BB BK414.out hb); clear hb hbox hg; have hnb12 := NB414_415.out; have hnc12 := NB415_414.out; obtain ⟨hcz13_0, hcz13_1, hfz13_0, hfz13_1⟩ := bk2 BK414.out; obtain ⟨hcz14_0, hcz14_1, hfz14_0, hfz14_1⟩ := bk2 BK415.out))
 go_ret
 exact QT (BT HB.out)

end Go.Proofs.YtdfbmaiboadodaaGreatDoor.PFnExactParseHistory
