-- Printed by wip/myprint.py.
import Derived.Test.YtdfbmaiboadodaaGreatDoorPFnExactParseHistoryx8
namespace Go.Proofs.YtdfbmaiboadodaaGreatDoor.PFnExactParseHistory
open Go.RowKit Go.Proofs.YtdfbmaiboadodaaGreatDoorW.PrintWords Go.Proofs.YtdfbmaiboadodaaGreatDoorW.PrintLast Go.Proofs.YtdfbmaiboadodaaGreatDoorW.PrintMore
set_option maxHeartbeats 8000000
set_option maxRecDepth 100000
set_option linter.unusedVariables false
set_option linter.unusedSimpArgs false

/-! ### impl_FormatInt: function 34 -/
def impl_FormatInt.f (a0 : Int) : Option (ByteArray) := (strconv_Itoa.f a0).bind fun t366 => (some t366)
theorem impl_FormatInt.calls (a0 : Int) (r : ByteArray) (w : World) (hTB : Tryz.TB w) (h : impl_FormatInt.f a0 = some r) :
  Calls Tryz.prog 34 #[.int .i64 a0] w fun e w' => e = .returned (.string r) ∧ Below w.heap.size w w' := by
 have HB := AM_ (Below.refl w.heap.size w)
 have H : ((strconv_Itoa.f a0).bind fun t366 => (some t366)) = some r := h
 clear h
 replace H := Option.bind_eq_some_iff.mp H
 obtain ⟨t366, A20, H⟩ := H
 replace H : (some t366) = some r := H
 have A2 := AM_ A20
 clear A20
 obtain rfl := Option.some.inj H
 go_enter Tryz.func34, Tryz.ntmps34
 go_wp2_with (first | ((with_reducible refine gate_callee (f := 31) rfl ?_); refine goesL_ (some 4) rfl rfl Tryz.func31 (by kernel_rfl) rfl #[.int .i64 a0] rfl (by (try simp only [List.map_toArray, List.map_cons, List.map_nil]); first | done | rfl | (simp only [List.length_drop, List.length_take]; rfl)) ?_; (with_reducible refine (strconv_Itoa.calls a0 t366 _ ?side1 A2.out).mono ?_); (case side1 => first | (with_reducible exact hTB) | exact Tryz.TB_below hTB (BT HB.out)); rintro e w3 ⟨rfl, hb⟩; refine ⟨_, rfl, ?_⟩; replace HB := AM_ (below_step (BT HB.out) hb); (try clear hb); (try clear hb2); (try clear hk); (try clear hi)))
 go_ret
 exact QT (BT HB.out)

/-! ### impl_formatValue: function 54 -/
def impl_formatValue.f (a0 : Int) : Option (ByteArray) := if a0 = (-1) then (some (⟨#[45]⟩ : ByteArray)) else ((impl_FormatInt.f a0).bind fun t367 => (some t367))
theorem impl_formatValue.calls (a0 : Int) (r : ByteArray) (w : World) (hTB : Tryz.TB w) (h : impl_formatValue.f a0 = some r) :
  Calls Tryz.prog 54 #[.int .i64 a0] w fun e w' => e = .returned (.string r) ∧ Below w.heap.size w w' := by
 have HB := AM_ (Below.refl w.heap.size w)
 have H : (if a0 = (-1) then (some (⟨#[45]⟩ : ByteArray)) else ((impl_FormatInt.f a0).bind fun t367 => (some t367))) = some r := h
 clear h
 by_cases c2 : a0 = (-1)
 ·rw [if_pos c2] at H
  have c2b0 : (a0 == (-1)) = true := beq_iff_eq.mpr c2
  have c2b1 : (a0 != (-1)) = false := bne_eq_false_iff_eq.mpr c2
  clear c2
  obtain rfl := Option.some.inj H
  go_enter Tryz.func54, Tryz.ntmps54
  go_wp2
  go_ret
  exact QT (BT HB.out)
 rw [if_neg c2] at H
 have c2b0 : (a0 == (-1)) = false := beq_eq_false_iff_ne.mpr c2
 have c2b1 : (a0 != (-1)) = true := bne_iff_ne.mpr c2
 replace H := Option.bind_eq_some_iff.mp H
 obtain ⟨t367, A30, H⟩ := H
 replace H : (some t367) = some r := H
 have A3 := AM_ A30
 clear A30
 obtain rfl := Option.some.inj H
 go_enter Tryz.func54, Tryz.ntmps54
 go_wp2_with (first | ((with_reducible refine gate_callee (f := 34) rfl ?_); refine goesL_ (some 6) rfl rfl Tryz.func34 (by kernel_rfl) rfl #[.int .i64 a0] rfl (by (try simp only [List.map_toArray, List.map_cons, List.map_nil]); first | done | rfl | (simp only [List.length_drop, List.length_take]; rfl)) ?_; (with_reducible refine (impl_FormatInt.calls a0 t367 _ ?side1 A3.out).mono ?_); (case side1 => first | (with_reducible exact hTB) | exact Tryz.TB_below hTB (BT HB.out)); rintro e w4 ⟨rfl, hb⟩; refine ⟨_, rfl, ?_⟩; replace HB := AM_ (below_step (BT HB.out) hb); (try clear hb); (try clear hb2); (try clear hk); (try clear hi)))
 go_ret
 exact QT (BT HB.out)

/-! ### impl_formatAccesses: function 35 -/
def strings_Builder_WriteString.f (a0 a1 : ByteArray) : Option ByteArray := if a0.size + a1.size ≤ 140737488355328 then some (a0 ++ a1) else none
theorem strings_Builder_bytes (a0 a1 : ByteArray) : Lib.byteCells (a0 ++ a1).data.toList = Lib.byteCells a0.data.toList ++ Lib.strCells a1 := by
 unfold Lib.byteCells Lib.strCells
 rw [← List.map_append]
 congr 1
 all_goals simp [ByteArray.data_append]
theorem strings_Builder_ne {b g : Nat} {bs : List Value} {w : World} {cs : Array Value} {t B : Nat} {fr : Nat × Nat} (h : Lib.IsBuilderF 75 5 B b bs w) (hb : w.heap[g]? = some (.cells cs t fr)) (ht : t ≠ 75) : some g ≠ some b := by
 intro e
 injection e with e
 subst e
 rcases h with ⟨_, _, h, _⟩ | ⟨_, _, h, _⟩ <;> (rw [hb] at h; injection h with h; injection h with _ h2; exact ht h2)
theorem strings_Builder_WriteString.calls (b B : Nat) (a0 a1 r : ByteArray) (w : World) (hIB : Lib.IsBuilderF 75 5 B b (Lib.byteCells a0.data.toList) w) (hBw : B ≤ w.heap.size) (h : strings_Builder_WriteString.f a0 a1 = some r) :
  Calls Tryz.prog 53 #[.pointer (some ⟨b, 0, none⟩), .string a1] w fun e w' => e = .returned (.tuple #[.int .i64 a1.size, .nilIface]) ∧ Lib.IsBuilderF 75 5 B b (Lib.byteCells r.data.toList) w' ∧ Below B w w' ∧ Lib.OthersKept 5 (some b) w w' := by
 unfold strings_Builder_WriteString.f at h
 by_cases c0 : a0.size + a1.size ≤ 140737488355328
 rotate_left
 ·rw [if_neg c0] at h; exact absurd h (by simp)
 rw [if_pos c0] at h
 obtain rfl := Option.some.inj h
 refine (Tryz.Builder_WriteString_k B b _ a1 w hIB (by rw [Lib.byteCells_length, Array.length_toList]; exact c0) hBw).mono ?_
 rintro e w' ⟨rfl, h1, h2, h3⟩
 refine ⟨rfl, .inr ?_, h2, h3⟩
 rw [strings_Builder_bytes]
 exact h1
def strings_Builder_String.f (a0 : ByteArray) : Option ByteArray := some a0
theorem strings_Builder_String.calls (b B : Nat) (a0 r : ByteArray) (w : World) (hIB : Lib.IsBuilderF 75 5 B b (Lib.byteCells a0.data.toList) w) (hBw : B ≤ w.heap.size) (h : strings_Builder_String.f a0 = some r) :
  Calls Tryz.prog 55 #[.pointer (some ⟨b, 0, none⟩)] w fun e w' => e = .returned (.string r) ∧ Below B w w' := by
 obtain rfl := Option.some.inj h
 refine (Tryz.Builder_String_any_f B b _ w hIB hBw).mono ?_
 rintro e w' ⟨rfl, _, h2⟩
 exact ⟨rfl, h2⟩
mutual
def impl_formatAccesses.l0 : Nat → List (S50) → ByteArray → List (S48) → Int → Int → Option (ByteArray)
 | 0, _, _, _, _, _ => none
 | k + 1, x1, x5, x12, x13, x14 => if x14 < x13 then (if 0 ≤ x14 then (if x14 < (x12.length : Int) then ((impl_FormatInt.f ((rd_T48 x12 x14).f0)).bind fun t299 => (if 2 + t299.size ≤ 9223372036854775807 then (if ((⟨#[32, 114]⟩ : ByteArray) ++ t299).size + 1 ≤ 9223372036854775807 then ((impl_FormatInt.f ((rd_T48 x12 x14).f1)).bind fun t300 => (if (((⟨#[32, 114]⟩ : ByteArray) ++ t299) ++ (⟨#[58]⟩ : ByteArray)).size + t300.size ≤ 9223372036854775807 then ((strings_Builder_WriteString.f x5 ((((⟨#[32, 114]⟩ : ByteArray) ++ t299) ++ (⟨#[58]⟩ : ByteArray)) ++ t300)).bind fun t301 => (impl_formatAccesses.l0 k x1 t301 x12 x13 (wrap64 (x14 + 1)))) else (none))) else (none)) else (none))) else (none)) else (none)) else (impl_formatAccesses.l1 k x5 x1 (x1.length : Int) 0)
def impl_formatAccesses.l1 : Nat → ByteArray → List (S50) → Int → Int → Option (ByteArray)
 | 0, _, _, _, _ => none
 | k + 1, x5, x30, x31, x32 => if x32 < x31 then (if 0 ≤ x32 then (if x32 < (x30.length : Int) then ((impl_FormatInt.f ((rd_T50 x30 x32).f0)).bind fun t304 => (if 2 + t304.size ≤ 9223372036854775807 then (if ((⟨#[32, 119]⟩ : ByteArray) ++ t304).size + 1 ≤ 9223372036854775807 then ((impl_formatValue.f ((rd_T50 x30 x32).f1)).bind fun t305 => (if (((⟨#[32, 119]⟩ : ByteArray) ++ t304) ++ (⟨#[58]⟩ : ByteArray)).size + t305.size ≤ 9223372036854775807 then ((strings_Builder_WriteString.f x5 ((((⟨#[32, 119]⟩ : ByteArray) ++ t304) ++ (⟨#[58]⟩ : ByteArray)) ++ t305)).bind fun t306 => (impl_formatAccesses.l1 k t306 x30 x31 (wrap64 (x32 + 1)))) else (none))) else (none)) else (none))) else (none)) else (none)) else ((strings_Builder_String.f x5).bind fun t307 => (some t307))
end
def impl_formatAccesses.f (k : Nat) (l0 : List (S48)) (l1 : List (S50)) : Option (ByteArray) := impl_formatAccesses.l0 k l1 (⟨#[]⟩ : ByteArray) l0 (l0.length : Int) 0
theorem impl_formatAccesses.mono_l : ∀ k, (∀ y0 y1 y2 y3 y4, LeO (impl_formatAccesses.l0 k y0 y1 y2 y3 y4) (impl_formatAccesses.l0 (k + 1) y0 y1 y2 y3 y4)) ∧ (∀ y0 y1 y2 y3, LeO (impl_formatAccesses.l1 k y0 y1 y2 y3) (impl_formatAccesses.l1 (k + 1) y0 y1 y2 y3))
 | 0 => ⟨fun _ _ _ _ _ r h => by simp [impl_formatAccesses.l0] at h, fun _ _ _ _ r h => by simp [impl_formatAccesses.l1] at h⟩
 | k + 1 => by
  obtain ⟨ih0, ih1⟩ := impl_formatAccesses.mono_l k
  refine ⟨?_, ?_⟩
  ·intro y0 y1 y2 y3 y4
   unfold impl_formatAccesses.l0
   repeat' first
   | (with_reducible exact ih0 _ _ _ _ _)
   | (with_reducible exact ih1 _ _ _ _)
   | (with_reducible first | exact LeO.refl _ | exact LeO.none _ | refine LeO.ite ?_ ?_ | refine LeO.bind ?_ (fun _ => ?_))
   | exact ih0 _ _ _ _ _
   | exact ih1 _ _ _ _
   | exact LeO.none _ | refine LeO.ite ?_ ?_ | refine LeO.bind ?_ (fun _ => ?_)
  ·intro y0 y1 y2 y3
   unfold impl_formatAccesses.l1
   repeat' first
   | (with_reducible exact ih0 _ _ _ _ _)
   | (with_reducible exact ih1 _ _ _ _)
   | (with_reducible first | exact LeO.refl _ | exact LeO.none _ | refine LeO.ite ?_ ?_ | refine LeO.bind ?_ (fun _ => ?_))
   | exact ih0 _ _ _ _ _
   | exact ih1 _ _ _ _
   | exact LeO.none _ | refine LeO.ite ?_ ?_ | refine LeO.bind ?_ (fun _ => ?_)
theorem impl_formatAccesses.mono : ∀ a0 a1 k, LeO (impl_formatAccesses.f k a0 a1) (impl_formatAccesses.f (k + 1) a0 a1) := by
 intro a0 a1 k
 obtain ⟨ih0, ih1⟩ := impl_formatAccesses.mono_l k
 unfold impl_formatAccesses.f
 repeat' first
   | (with_reducible exact ih0 _ _ _ _ _)
   | (with_reducible exact ih1 _ _ _ _)
   | (with_reducible first | exact LeO.refl _ | exact LeO.none _ | refine LeO.ite ?_ ?_ | refine LeO.bind ?_ (fun _ => ?_))
   | exact ih0 _ _ _ _ _
   | exact ih1 _ _ _ _
   | exact LeO.none _ | refine LeO.ite ?_ ?_ | refine LeO.bind ?_ (fun _ => ?_)
def impl_formatAccesses.T5 : Bool × List (List Nat × List Nat) := (true, [([], []), ([], []), ([1], [1]), ([2], [2]), ([3], [3]), ([4], [4]), ([], []), ([6], [6]), ([7, 3], [7]), ([5, 8], [5, 8]), ([0, 9, 8], [0, 9])])
def impl_formatAccesses.B5 : List Nat := [0, 0, 2, 6, 14, 30, 0, 64, 206, 510, 1023]
theorem impl_formatAccesses.tab5 : rtab .any (opsOf Tryz.f35 5) = impl_formatAccesses.T5 := by kernel_rfl
theorem impl_formatAccesses.bits5 : waitsOk impl_formatAccesses.T5.2 impl_formatAccesses.B5 = true := by kernel_rfl
def impl_formatAccesses.T10 : Bool × List (List Nat × List Nat) := (true, [([], []), ([], []), ([1], [1]), ([2], [2]), ([3], [3]), ([4], [4]), ([], []), ([6], [6]), ([7, 3], [7]), ([5, 8], [5, 8]), ([0, 9, 8], [0, 9])])
def impl_formatAccesses.B10 : List Nat := [0, 0, 2, 6, 14, 30, 0, 64, 206, 510, 1023]
theorem impl_formatAccesses.tab10 : rtab .any (opsOf Tryz.f35 10) = impl_formatAccesses.T10 := by kernel_rfl
theorem impl_formatAccesses.bits10 : waitsOk impl_formatAccesses.T10.2 impl_formatAccesses.B10 = true := by kernel_rfl
theorem impl_formatAccesses.calls (k : Nat) (A0 : Option Addr) (c0 : Nat) (l0 : List (S48)) (A1 : Option Addr) (c1 : Nat) (l1 : List (S50)) (r : ByteArray) (w : World) (hr0 : Kd.C k48 w A0 l0.length l0) (hc0 : l0.length ≤ c0) (hr1 : Kd.C k50 w A1 l1.length l1) (hc1 : l1.length ≤ c1) (hTB : Tryz.TB w) (h : impl_formatAccesses.f k l0 l1 = some r) :
  Calls Tryz.prog 35 #[.slice A0 l0.length c0, .slice A1 l1.length c1] w fun e w' => e = .returned (.string r) ∧ Below w.heap.size w w' := by
 have hu48 := Tryz.underlying48
 have hu50 := Tryz.underlying50
 have HR0 := AM_ hr0
 have HC0 := AM_ hc0
 clear hr0 hc0
 have HR1 := AM_ hr1
 have HC1 := AM_ hc1
 clear hr1 hc1
 have HB := AM_ (Below.refl w.heap.size w)
 have H : (impl_formatAccesses.l0 k l1 (⟨#[]⟩ : ByteArray) l0 (l0.length : Int) 0) = some r := h
 clear h
 have H' := AM_ H
 clear H
 go_enter Tryz.func35, Tryz.ntmps35
 go_wp2_with (first | ((with_reducible refine gate_dst (N := 11) rfl ?_); refine box_event ?hg (N := 11) ?hd (cs := #[.pointer none, .slice none 0 0]) (t := 75) ?hr ?_; (case hd => rfl); (case hg => rfl); (case hr => first | (go_simp; done) | (go_simp; rfl)); intro gb0 hg0 w9 hbox0 hb0; have n0_ := AM_ (below_step (BT HB.out) hb0); have n1_ : Aside0 (Lib.IsBuilderF 75 5 w.heap.size gb0 (Lib.byteCells (⟨#[]⟩ : ByteArray).data.toList) w9) := ⟨Tryz.builder_new (by rw [hg0]; exact below_size (BT HB.out)) hbox0⟩; clear HB; have HB := n0_; have IB := n1_; clear n0_ n1_ hb0 hbox0 hg0))
 go_loopg [14] k (fun kq v14 w' => ∃ (x5_1 : ByteArray) (x14_1 : Int), v14 = .int .i64 x14_1 ∧ Aside0 (impl_formatAccesses.l0 kq l1 x5_1 l0 (l0.length : Int) x14_1 = some r) ∧ Aside0 (kq ≤ k) ∧ Aside0 (Below w.heap.size w w') ∧ Aside0 (Lib.IsBuilderF 75 5 w.heap.size gb0 (Lib.byteCells x5_1.data.toList) w'))
 case atStart => exact ⟨((⟨#[]⟩ : ByteArray)), (0), (by first | rfl | (simp; done) | (simp [*]; done)), H', ⟨Nat.le_refl _⟩, ⟨BT HB.out⟩, ⟨(by first | exact IB.out | exact Tryz.builder_below IB.out (by repeat (first | exact Below.refl _ _ | apply below_alloc | apply pw_below_drewN | apply below_drew1)))⟩⟩
 case round =>
  clear H'
  try clear c1
  try clear c2
  try clear p2
  obtain ⟨x5_1, x14_1, rfl, HA, HK1, HB, IB⟩ := hrel
  cases gk with
  | zero => exact absurd HA.out (by simp [impl_formatAccesses.l0])
  | succ k1 =>
   have H := HA.out
   clear HA
   simp only [impl_formatAccesses.l0] at H
   by_cases c3 : x14_1 < (l0.length : Int)
   ·rw [if_pos c3] at H
    have c3b0 : decide (x14_1 < (l0.length : Int)) = true := decide_eq_true c3
    clear c3
    replace H := HI H
    obtain ⟨c4, H⟩ := H
    have c4b0 : decide (0 ≤ x14_1) = true := decide_eq_true c4
    clear c4
    replace H := HI H
    obtain ⟨c5, H⟩ := H
    have c5b0 : decide (x14_1 < (l0.length : Int)) = true := decide_eq_true c5
    clear c5
    replace H := Option.bind_eq_some_iff.mp H
    obtain ⟨t299, A60, H⟩ := H
    replace H : (if 2 + t299.size ≤ 9223372036854775807 then (if ((⟨#[32, 114]⟩ : ByteArray) ++ t299).size + 1 ≤ 9223372036854775807 then ((impl_FormatInt.f ((rd_T48 l0 x14_1).f1)).bind fun t300 => (if (((⟨#[32, 114]⟩ : ByteArray) ++ t299) ++ (⟨#[58]⟩ : ByteArray)).size + t300.size ≤ 9223372036854775807 then ((strings_Builder_WriteString.f x5_1 ((((⟨#[32, 114]⟩ : ByteArray) ++ t299) ++ (⟨#[58]⟩ : ByteArray)) ++ t300)).bind fun t301 => (impl_formatAccesses.l0 k1 l1 t301 l0 (l0.length : Int) (wrap64 (x14_1 + 1)))) else (none))) else (none)) else (none)) = some r := H
    have A6 := AM_ A60
    clear A60
    replace H := HI H
    obtain ⟨c7, H⟩ := H
    have c7b0 := eq_true c7
    have c7b1 : decide (2 + t299.size ≤ 9223372036854775807) = true := decide_eq_true c7
    try have c7b2 : (9223372036854775807 < 2 + t299.size) = False := eq_false (Nat.not_lt.2 c7)
    replace H := HI H
    obtain ⟨c8, H⟩ := H
    have c8b0 := eq_true c8
    have c8b1 : decide (((⟨#[32, 114]⟩ : ByteArray) ++ t299).size + 1 ≤ 9223372036854775807) = true := decide_eq_true c8
    try have c8b2 : (9223372036854775807 < ((⟨#[32, 114]⟩ : ByteArray) ++ t299).size + 1) = False := eq_false (Nat.not_lt.2 c8)
    try have c8b3 : (9223372036854775807 < 2 + t299.size + 1) = False := by have h_ := c8; simp only [ByteArray.size_append] at h_; exact eq_false (Nat.not_lt.2 h_)
    replace H := Option.bind_eq_some_iff.mp H
    obtain ⟨t300, A90, H⟩ := H
    replace H : (if (((⟨#[32, 114]⟩ : ByteArray) ++ t299) ++ (⟨#[58]⟩ : ByteArray)).size + t300.size ≤ 9223372036854775807 then ((strings_Builder_WriteString.f x5_1 ((((⟨#[32, 114]⟩ : ByteArray) ++ t299) ++ (⟨#[58]⟩ : ByteArray)) ++ t300)).bind fun t301 => (impl_formatAccesses.l0 k1 l1 t301 l0 (l0.length : Int) (wrap64 (x14_1 + 1)))) else (none)) = some r := H
    have A9 := AM_ A90
    clear A90
    replace H := HI H
    obtain ⟨c10, H⟩ := H
    have c10b0 := eq_true c10
    have c10b1 : decide ((((⟨#[32, 114]⟩ : ByteArray) ++ t299) ++ (⟨#[58]⟩ : ByteArray)).size + t300.size ≤ 9223372036854775807) = true := decide_eq_true c10
    try have c10b2 : (9223372036854775807 < (((⟨#[32, 114]⟩ : ByteArray) ++ t299) ++ (⟨#[58]⟩ : ByteArray)).size + t300.size) = False := eq_false (Nat.not_lt.2 c10)
    try have c10b3 : (9223372036854775807 < 2 + t299.size + 1 + t300.size) = False := by have h_ := c10; simp only [ByteArray.size_append] at h_; exact eq_false (Nat.not_lt.2 h_)
    replace H := Option.bind_eq_some_iff.mp H
    obtain ⟨t301, A110, H⟩ := H
    replace H : (impl_formatAccesses.l0 k1 l1 t301 l0 (l0.length : Int) (wrap64 (x14_1 + 1))) = some r := H
    have A11 := AM_ A110
    clear A110
    have H' := AM_ H
    clear H
    have p297 : 0 ≤ (x14_1 : Int) := DT
    have q297 : x14_1 < (l0.length : Int) := DT
    obtain ⟨ad297, e297, hx297_0, hx297_1⟩ := at_T48 HR0.out x14_1 p297 q297
    cases e297
    replace hx297_0 := BC HB.out hx297_0
    replace hx297_1 := BC HB.out hx297_1
    replace p297 := eq_true p297
    replace q297 := eq_true q297
    try go_wp2_with (first | ((with_reducible refine gate_dst (N := 7) rfl ?_); refine box_event ?hg (N := 7) ?hd (cs := #[.int .i64 0, .int .i64 0]) (t := 48) ?hr ?_; (case hd => rfl); (case hg => rfl); (case hr => first | (go_simp; done) | (go_simp; rfl)); intro gb298 hg w12 hbox hb; have HZ : Aside0 (Below wr.heap.size wr w12) := ⟨below_step (by repeat (first | exact Below.refl _ _ | apply below_alloc | apply pw_below_drewN | apply below_drew1)) hb⟩; have GZ : Aside0 (wr.heap.size ≤ gb298) := ⟨by rw [hg]; exact below_size (by repeat (first | exact Below.refl _ _ | apply below_alloc | apply pw_below_drewN | apply below_drew1))⟩; have BK298 := AM_ (hbox); have GW298 := AM_ ((GS HB.out hg)); have GE298 := AM_ ((GS HB.out hg)); replace HB := AM_ (below_step (BT HB.out) hb); clear hb hbox hg; obtain ⟨hcz13_0, hcz13_1, hfz13_0, hfz13_1⟩ := bk2 BK298.out))
    have n0_ : Aside0 (((w12.setCell ⟨gb298, 0, none⟩ (.int .i64 ((rd_T48 l0 x14_1).f0))).setCell ⟨gb298, 1, none⟩ (.int .i64 ((rd_T48 l0 x14_1).f1))).heap[gb298]? = some (.cells #[.int .i64 ((rd_T48 l0 x14_1).f0), .int .i64 ((rd_T48 l0 x14_1).f1)] 48 (0, 0))) := ⟨BQ BK298.out⟩
    have n1_ : Aside0 (Below w.heap.size w ((w12.setCell ⟨gb298, 0, none⟩ (.int .i64 ((rd_T48 l0 x14_1).f0))).setCell ⟨gb298, 1, none⟩ (.int .i64 ((rd_T48 l0 x14_1).f1)))) := ⟨BT HB.out⟩
    have n2_ : Aside0 (Lib.IsBuilderF 75 5 w.heap.size gb0 (Lib.byteCells x5_1.data.toList) ((w12.setCell ⟨gb298, 0, none⟩ (.int .i64 ((rd_T48 l0 x14_1).f0))).setCell ⟨gb298, 1, none⟩ (.int .i64 ((rd_T48 l0 x14_1).f1)))) := ⟨Tryz.builder_below IB.out (below_set (below_set HZ.out GZ.out) GZ.out)⟩
    (try clear BK298)
    (try clear HB)
    generalize ((w12.setCell ⟨gb298, 0, none⟩ (.int .i64 ((rd_T48 l0 x14_1).f0))).setCell ⟨gb298, 1, none⟩ (.int .i64 ((rd_T48 l0 x14_1).f1))) = w14 at n0_ n1_ n2_ ⊢
    have BK298 := n0_
    have HB := n1_
    have IB := n2_
    clear n0_ n1_ n2_ HZ GZ
    have n0_ := AM_ (blk_drew BK298.out)
    have n1_ := AM_ (below_drew1 HB.out)
    have n2_ : Aside0 (Lib.IsBuilderF 75 5 w.heap.size gb0 (Lib.byteCells x5_1.data.toList) _) := ⟨Tryz.builder_below IB.out (below_drew1 (Below.refl _ _))⟩
    clear BK298
    clear HB
    have BK298 := n0_
    have HB := n1_
    have IB := n2_
    clear n0_ n1_ n2_
    refine start_ (n := 11) (S := fun w' => w'.cell? ⟨gb298, 0, none⟩ = some (.int .i64 ((rd_T48 l0 x14_1).f0)) ∧ w'.cell? ⟨gb298, 1, none⟩ = some (.int .i64 ((rd_T48 l0 x14_1).f1))) (ds := []) (bs 0 11) (by kernel_rfl) rfl rfl ⟨bc BK298.out 0, bc BK298.out 1⟩ (fun hHeld => ?_); refine with_tabW impl_formatAccesses.tab5 impl_formatAccesses.bits5 (fun HT_ HW_ => ?_)
    generalize w14.drew = w15 at BK298 HB IB hHeld ⊢
    refine pu (i := 0) (N := some 18) (v := ?_) (a' := ?_) (bs 1 11) rfl rfl HT_ ?_ ?_ ?_
    rotate_left
    ·intro w'
     go_simp
     with_reducible rfl
    rotate_left
    ·simp only[pA,pS,pZ,pK,pV]
     rfl
    refine pu (i := 1) (N := some 19) (v := ?_) (a' := ?_) (bs 3 11) rfl rfl HT_ ?_ ?_ ?_
    rotate_left
    ·intro w'
     go_simp
     with_reducible rfl
    rotate_left
    ·simp only[pA,pS,pZ,pK,pV]
     rfl
    refine pu (i := 6) (N := some 24) (v := ?_) (a' := ?_) (bs 67 11) rfl rfl HT_ ?_ ?_ ?_
    rotate_left
    ·intro w'
     go_simp
     with_reducible rfl
    rotate_left
    ·simp only[pA,pS,pZ,pK,pV]
     rfl
    refine tk (i := 2) (N := some 20) (v := ?_) (a' := ?_) (bs 71 11) rfl rfl HT_ HW_ ?_ hHeld ?_ ?_
    rotate_left
    ·rintro w' ⟨s0, s1⟩
     go_simp
     with_reducible rfl
    rotate_left
    ·simp only[pA,pS,pZ,pK,pV]
     rfl
    refine tk (i := 7) (N := some 25) (v := ?_) (a' := ?_) (bs 199 11) rfl rfl HT_ HW_ ?_ hHeld ?_ ?_
    rotate_left
    ·rintro w' ⟨s0, s1⟩
     go_simp
     with_reducible rfl
    rotate_left
    ·simp only[pA,pS,pZ,pK,pV]
     rfl
    refine one_ (i := 3) (N := some 21) (bs 207 11) rfl rfl (one_of HT_.out (by kernel_rfl)) (by decide) (fun K hK => ?_)
    refine goes_ Tryz.func34 (by kernel_rfl) rfl #[.int .i64 ((rd_T48 l0 x14_1).f0)] (by rfl) rfl rfl (by (try simp only [List.map_toArray, List.map_cons, List.map_nil]); first | done | rfl | (simp only [List.length_drop, List.length_take]; rfl)) ?_
    with_reducible refine (impl_FormatInt.calls ((rd_T48 l0 x14_1).f0) t299 _ ?side1 A6.out).mono ?_
    (case side1 => first | exact hTB | exact Tryz.TB_below hTB (BT HB.out))
    rintro e w16 ⟨rfl, hb⟩
    refine ⟨_, rfl, ?_⟩
    replace BK298 := AM_ (BB BK298.out hb)
    replace HB := AM_ (below_step (BT HB.out) hb)
    replace IB := AM_ (Tryz.builder_below IB.out hb)
    (try clear hb)
    (try clear hb2)
    (try clear hk)
    (try clear hi)
    refine hK.out _ _ ⟨bc BK298.out 0, bc BK298.out 1⟩ (fun hHeld => ?_)
    clear hK K
    refine norm_ (a' := ?_) ?_ ?_
    rotate_left
    ·show Act.put _ (some 21) _ = _
     simp only[pA,pS,pZ,pK,pV]
     rfl
    refine pu (i := 4) (N := some 22) (v := ?_) (a' := ?_) (bs 223 11) rfl rfl HT_ ?_ ?_ ?_
    rotate_left
    ·intro w'
     go_simp
     with_reducible rfl
    rotate_left
    ·simp only[pA,pS,pZ,pK,pV]
     rfl
    refine pu (i := 5) (N := some 23) (v := ?_) (a' := ?_) (bs 255 11) rfl rfl HT_ ?_ ?_ ?_
    rotate_left
    ·intro w'
     go_simp
     with_reducible rfl
    rotate_left
    ·simp only[pA,pS,pZ,pK,pV]
     rfl
    refine one_ (i := 8) (N := some 26) (bs 511 11) rfl rfl (one_of HT_.out (by kernel_rfl)) (by decide) (fun K hK => ?_)
    refine goes_ Tryz.func34 (by kernel_rfl) rfl #[.int .i64 ((rd_T48 l0 x14_1).f1)] (by rfl) rfl rfl (by (try simp only [List.map_toArray, List.map_cons, List.map_nil]); first | done | rfl | (simp only [List.length_drop, List.length_take]; rfl)) ?_
    with_reducible refine (impl_FormatInt.calls ((rd_T48 l0 x14_1).f1) t300 _ ?side1 A9.out).mono ?_
    (case side1 => first | exact hTB | exact Tryz.TB_below hTB (BT HB.out))
    rintro e w17 ⟨rfl, hb⟩
    refine ⟨_, rfl, ?_⟩
    replace BK298 := AM_ (BB BK298.out hb)
    replace HB := AM_ (below_step (BT HB.out) hb)
    replace IB := AM_ (Tryz.builder_below IB.out hb)
    (try clear hb)
    (try clear hb2)
    (try clear hk)
    (try clear hi)
    refine hK.out _ _ ⟨bc BK298.out 0, bc BK298.out 1⟩ (fun hHeld => ?_)
    clear hK K
    refine norm_ (a' := ?_) ?_ ?_
    rotate_left
    ·show Act.put _ (some 26) _ = _
     simp only[pA,pS,pZ,pK,pV]
     rfl
    refine pu (i := 9) (N := some 27) (v := ?_) (a' := ?_) (bs 1023 11) rfl rfl HT_ ?_ ?_ ?_
    rotate_left
    ·intro w'
     go_simp
     with_reducible rfl
    rotate_left
    ·simp only[pA,pS,pZ,pK,pV]
     rfl
    refine one_ (i := 10) (N := some 28) (bs 2047 11) rfl rfl (one_of HT_.out (by kernel_rfl)) (by decide) (fun K hK => ?_)
    refine goes_ Tryz.func53 (by kernel_rfl) rfl #[.pointer (some ⟨gb0, 0, none⟩), .string ((((⟨#[32, 114]⟩ : ByteArray) ++ t299) ++ (⟨#[58]⟩ : ByteArray)) ++ t300)] (by rfl) rfl rfl (by (try simp only [List.map_toArray, List.map_cons, List.map_nil]); first | done | rfl | (simp only [List.length_drop, List.length_take]; rfl)) ?_
    with_reducible refine (strings_Builder_WriteString.calls gb0 w.heap.size x5_1 ((((⟨#[32, 114]⟩ : ByteArray) ++ t299) ++ (⟨#[58]⟩ : ByteArray)) ++ t300) t301 _ ?side1 ?side2 A11.out).mono ?_
    (case side1 => exact IB.out)
    (case side2 => exact below_size HB.out)
    rintro e w18 ⟨rfl, hib, hb, hok⟩
    refine ⟨_, rfl, ?_⟩
    have n0_ : Aside0 (w18.heap[gb298]? = some (.cells #[.int .i64 ((rd_T48 l0 x14_1).f0), .int .i64 ((rd_T48 l0 x14_1).f1)] 48 (0, 0))) := ⟨hok _ _ BK298.out (strings_Builder_ne IB.out BK298.out (by decide)) (fun _ _ e_ => by injection e_ with _ h_; exact absurd h_ (by decide))⟩
    have n1_ := AM_ (HB.out.trans hb)
    have n2_ := AM_ hib
    clear hib hok
    clear IB
    clear BK298
    clear HB
    have BK298 := n0_
    have HB := n1_
    have IB := n2_
    clear n0_ n1_ n2_
    (try clear hb)
    (try clear hb2)
    (try clear hk)
    (try clear hi)
    refine hK.out _ _ ⟨bc BK298.out 0, bc BK298.out 1⟩ (fun hHeld => ?_)
    clear hK K
    refine norm_ (a' := ?_) ?_ ?_
    rotate_left
    ·show Act.put _ (some 28) _ = _
     simp only[pA,pS,pZ,pK,pV]
     rfl
    refine done_ (done_of HT_.out (by kernel_rfl)) ?_
    try go_wp2
    go_roundg k1
    case measure => have := HK1.out; omega
    case rel => exact ⟨(t301), (wrap64 (x14_1 + 1)), (by first | rfl | (simp; done) | (simp [*]; done)), H', ⟨by have := HK1.out; omega⟩, ⟨BT HB.out⟩, ⟨(by first | exact IB.out | exact Tryz.builder_below IB.out (by repeat (first | exact Below.refl _ _ | apply below_alloc | apply pw_below_drewN | apply below_drew1)))⟩⟩
   rw [if_neg c3] at H
   have c3b0 : decide (x14_1 < (l0.length : Int)) = false := decide_eq_false c3
   clear c3
   have H' := AM_ H
   clear H
   go_wp2
   go_loopg [32] k1 (fun kq v32 w' => ∃ (x5_2 : ByteArray) (x32_2 : Int), v32 = .int .i64 x32_2 ∧ Aside0 (impl_formatAccesses.l1 kq x5_2 l1 (l1.length : Int) x32_2 = some r) ∧ Aside0 (kq ≤ k1) ∧ Aside0 (Below w.heap.size w w') ∧ Aside0 (Lib.IsBuilderF 75 5 w.heap.size gb0 (Lib.byteCells x5_2.data.toList) w'))
   case atStart => exact ⟨(x5_1), (0), (by first | rfl | (simp; done) | (simp [*]; done)), H', ⟨Nat.le_refl _⟩, ⟨BT HB.out⟩, ⟨(by first | exact IB.out | exact Tryz.builder_below IB.out (by repeat (first | exact Below.refl _ _ | apply below_alloc | apply pw_below_drewN | apply below_drew1)))⟩⟩
   case round =>
    clear H'
    try clear c1
    try clear c2
    try clear p2
    try clear q2
    try clear hx2
    try clear c3
    try clear c3b0
    try clear c4
    try clear c4b0
    try clear c5
    try clear c5b0
    try clear p6
    try clear c7
    try clear c7b0
    try clear c7b1
    try clear c7b2
    try clear c8
    try clear c8b0
    try clear c8b1
    try clear c8b2
    try clear c10
    try clear c10b0
    try clear c10b1
    try clear c10b2
    try clear hcz13_0
    try clear hcz13_1
    try clear hfz13_0
    try clear hfz13_1
    try clear hx297_0
    try clear hx297_1
    try clear p297
    try clear q297
    obtain ⟨x5_2, x32_2, rfl, HA, HK2, HB, IB⟩ := hrel
    cases gk with
    | zero => exact absurd HA.out (by simp [impl_formatAccesses.l1])
    | succ k2 =>
     have H := HA.out
     clear HA
     simp only [impl_formatAccesses.l1] at H
     by_cases c19 : x32_2 < (l1.length : Int)
     rotate_left
     ·rw [if_neg c19] at H
      have c19b0 : decide (x32_2 < (l1.length : Int)) = false := decide_eq_false c19
      clear c19
      replace H := Option.bind_eq_some_iff.mp H
      obtain ⟨t307, A350, H⟩ := H
      replace H : (some t307) = some r := H
      have A35 := AM_ A350
      clear A350
      obtain rfl := Option.some.inj H
      go_wp2_with (first | ((with_reducible refine gate_callee (f := 55) rfl ?_); refine goesL_ (some 49) rfl rfl Tryz.func55 (by kernel_rfl) rfl #[.pointer (some ⟨gb0, 0, none⟩)] rfl (by (try simp only [List.map_toArray, List.map_cons, List.map_nil]); first | done | rfl | (simp only [List.length_drop, List.length_take]; rfl)) ?_; (with_reducible refine (strings_Builder_String.calls gb0 w.heap.size x5_2 t307 _ ?side1 ?side2 A35.out).mono ?_); (case side1 => exact (by first | exact IB.out | exact Tryz.builder_below IB.out (by repeat (first | exact Below.refl _ _ | apply below_alloc | apply pw_below_drewN | apply below_drew1)))); (case side2 => exact below_size (BT HB.out)); rintro e w36 ⟨rfl, hb⟩; refine ⟨_, rfl, ?_⟩; replace HB := AM_ (Below.trans (BT HB.out) hb); (try clear hb); (try clear hb2); (try clear hk); (try clear hi)))
      go_ret
      exact QT (BT HB.out)
     rw [if_pos c19] at H
     have c19b0 : decide (x32_2 < (l1.length : Int)) = true := decide_eq_true c19
     clear c19
     replace H := HI H
     obtain ⟨c20, H⟩ := H
     have c20b0 : decide (0 ≤ x32_2) = true := decide_eq_true c20
     clear c20
     replace H := HI H
     obtain ⟨c21, H⟩ := H
     have c21b0 : decide (x32_2 < (l1.length : Int)) = true := decide_eq_true c21
     clear c21
     replace H := Option.bind_eq_some_iff.mp H
     obtain ⟨t304, A220, H⟩ := H
     replace H : (if 2 + t304.size ≤ 9223372036854775807 then (if ((⟨#[32, 119]⟩ : ByteArray) ++ t304).size + 1 ≤ 9223372036854775807 then ((impl_formatValue.f ((rd_T50 l1 x32_2).f1)).bind fun t305 => (if (((⟨#[32, 119]⟩ : ByteArray) ++ t304) ++ (⟨#[58]⟩ : ByteArray)).size + t305.size ≤ 9223372036854775807 then ((strings_Builder_WriteString.f x5_2 ((((⟨#[32, 119]⟩ : ByteArray) ++ t304) ++ (⟨#[58]⟩ : ByteArray)) ++ t305)).bind fun t306 => (impl_formatAccesses.l1 k2 t306 l1 (l1.length : Int) (wrap64 (x32_2 + 1)))) else (none))) else (none)) else (none)) = some r := H
     have A22 := AM_ A220
     clear A220
     replace H := HI H
     obtain ⟨c23, H⟩ := H
     have c23b0 := eq_true c23
     have c23b1 : decide (2 + t304.size ≤ 9223372036854775807) = true := decide_eq_true c23
     try have c23b2 : (9223372036854775807 < 2 + t304.size) = False := eq_false (Nat.not_lt.2 c23)
     replace H := HI H
     obtain ⟨c24, H⟩ := H
     have c24b0 := eq_true c24
     have c24b1 : decide (((⟨#[32, 119]⟩ : ByteArray) ++ t304).size + 1 ≤ 9223372036854775807) = true := decide_eq_true c24
     try have c24b2 : (9223372036854775807 < ((⟨#[32, 119]⟩ : ByteArray) ++ t304).size + 1) = False := eq_false (Nat.not_lt.2 c24)
     try have c24b3 : (9223372036854775807 < 2 + t304.size + 1) = False := by have h_ := c24; simp only [ByteArray.size_append] at h_; exact eq_false (Nat.not_lt.2 h_)
     replace H := Option.bind_eq_some_iff.mp H
     obtain ⟨t305, A250, H⟩ := H
     replace H : (if (((⟨#[32, 119]⟩ : ByteArray) ++ t304) ++ (⟨#[58]⟩ : ByteArray)).size + t305.size ≤ 9223372036854775807 then ((strings_Builder_WriteString.f x5_2 ((((⟨#[32, 119]⟩ : ByteArray) ++ t304) ++ (⟨#[58]⟩ : ByteArray)) ++ t305)).bind fun t306 => (impl_formatAccesses.l1 k2 t306 l1 (l1.length : Int) (wrap64 (x32_2 + 1)))) else (none)) = some r := H
     have A25 := AM_ A250
     clear A250
     replace H := HI H
     obtain ⟨c26, H⟩ := H
     have c26b0 := eq_true c26
     have c26b1 : decide ((((⟨#[32, 119]⟩ : ByteArray) ++ t304) ++ (⟨#[58]⟩ : ByteArray)).size + t305.size ≤ 9223372036854775807) = true := decide_eq_true c26
     try have c26b2 : (9223372036854775807 < (((⟨#[32, 119]⟩ : ByteArray) ++ t304) ++ (⟨#[58]⟩ : ByteArray)).size + t305.size) = False := eq_false (Nat.not_lt.2 c26)
     try have c26b3 : (9223372036854775807 < 2 + t304.size + 1 + t305.size) = False := by have h_ := c26; simp only [ByteArray.size_append] at h_; exact eq_false (Nat.not_lt.2 h_)
     replace H := Option.bind_eq_some_iff.mp H
     obtain ⟨t306, A270, H⟩ := H
     replace H : (impl_formatAccesses.l1 k2 t306 l1 (l1.length : Int) (wrap64 (x32_2 + 1))) = some r := H
     have A27 := AM_ A270
     clear A270
     have H' := AM_ H
     clear H
     have p302 : 0 ≤ (x32_2 : Int) := DT
     have q302 : x32_2 < (l1.length : Int) := DT
     obtain ⟨ad302, e302, hx302_0, hx302_1⟩ := at_T50 HR1.out x32_2 p302 q302
     cases e302
     replace hx302_0 := BC HB.out hx302_0
     replace hx302_1 := BC HB.out hx302_1
     replace p302 := eq_true p302
     replace q302 := eq_true q302
     try go_wp2_with (first | ((with_reducible refine gate_dst (N := 9) rfl ?_); refine box_event ?hg (N := 9) ?hd (cs := #[.int .i64 0, .int .i64 0]) (t := 50) ?hr ?_; (case hd => rfl); (case hg => rfl); (case hr => first | (go_simp; done) | (go_simp; rfl)); intro gb303 hg w28 hbox hb; have HZ : Aside0 (Below wr.heap.size wr w28) := ⟨below_step (by repeat (first | exact Below.refl _ _ | apply below_alloc | apply pw_below_drewN | apply below_drew1)) hb⟩; have GZ : Aside0 (wr.heap.size ≤ gb303) := ⟨by rw [hg]; exact below_size (by repeat (first | exact Below.refl _ _ | apply below_alloc | apply pw_below_drewN | apply below_drew1))⟩; have BK303 := AM_ (hbox); have GW303 := AM_ ((GS HB.out hg)); have GE303 := AM_ ((GS HB.out hg)); replace HB := AM_ (below_step (BT HB.out) hb); clear hb hbox hg; obtain ⟨hcz29_0, hcz29_1, hfz29_0, hfz29_1⟩ := bk2 BK303.out))
     have n0_ : Aside0 (((w28.setCell ⟨gb303, 0, none⟩ (.int .i64 ((rd_T50 l1 x32_2).f0))).setCell ⟨gb303, 1, none⟩ (.int .i64 ((rd_T50 l1 x32_2).f1))).heap[gb303]? = some (.cells #[.int .i64 ((rd_T50 l1 x32_2).f0), .int .i64 ((rd_T50 l1 x32_2).f1)] 50 (0, 0))) := ⟨BQ BK303.out⟩
     have n1_ : Aside0 (Below w.heap.size w ((w28.setCell ⟨gb303, 0, none⟩ (.int .i64 ((rd_T50 l1 x32_2).f0))).setCell ⟨gb303, 1, none⟩ (.int .i64 ((rd_T50 l1 x32_2).f1)))) := ⟨BT HB.out⟩
     have n2_ : Aside0 (Lib.IsBuilderF 75 5 w.heap.size gb0 (Lib.byteCells x5_2.data.toList) ((w28.setCell ⟨gb303, 0, none⟩ (.int .i64 ((rd_T50 l1 x32_2).f0))).setCell ⟨gb303, 1, none⟩ (.int .i64 ((rd_T50 l1 x32_2).f1)))) := ⟨Tryz.builder_below IB.out (below_set (below_set HZ.out GZ.out) GZ.out)⟩
     (try clear BK303)
     (try clear HB)
     generalize ((w28.setCell ⟨gb303, 0, none⟩ (.int .i64 ((rd_T50 l1 x32_2).f0))).setCell ⟨gb303, 1, none⟩ (.int .i64 ((rd_T50 l1 x32_2).f1))) = w30 at n0_ n1_ n2_ ⊢
     have BK303 := n0_
     have HB := n1_
     have IB := n2_
     clear n0_ n1_ n2_ HZ GZ
     have n0_ := AM_ (blk_drew BK303.out)
     have n1_ := AM_ (below_drew1 HB.out)
     have n2_ : Aside0 (Lib.IsBuilderF 75 5 w.heap.size gb0 (Lib.byteCells x5_2.data.toList) _) := ⟨Tryz.builder_below IB.out (below_drew1 (Below.refl _ _))⟩
     clear BK303
     clear HB
     have BK303 := n0_
     have HB := n1_
     have IB := n2_
     clear n0_ n1_ n2_
     refine start_ (n := 11) (S := fun w' => w'.cell? ⟨gb303, 0, none⟩ = some (.int .i64 ((rd_T50 l1 x32_2).f0)) ∧ w'.cell? ⟨gb303, 1, none⟩ = some (.int .i64 ((rd_T50 l1 x32_2).f1))) (ds := []) (bs 0 11) (by kernel_rfl) rfl rfl ⟨bc BK303.out 0, bc BK303.out 1⟩ (fun hHeld => ?_); refine with_tabW impl_formatAccesses.tab10 impl_formatAccesses.bits10 (fun HT_ HW_ => ?_)
     generalize w30.drew = w31 at BK303 HB IB hHeld ⊢
     refine pu (i := 0) (N := some 36) (v := ?_) (a' := ?_) (bs 1 11) rfl rfl HT_ ?_ ?_ ?_
     rotate_left
     ·intro w'
      go_simp
      with_reducible rfl
     rotate_left
     ·simp only[pA,pS,pZ,pK,pV]
      rfl
     refine pu (i := 1) (N := some 37) (v := ?_) (a' := ?_) (bs 3 11) rfl rfl HT_ ?_ ?_ ?_
     rotate_left
     ·intro w'
      go_simp
      with_reducible rfl
     rotate_left
     ·simp only[pA,pS,pZ,pK,pV]
      rfl
     refine pu (i := 6) (N := some 42) (v := ?_) (a' := ?_) (bs 67 11) rfl rfl HT_ ?_ ?_ ?_
     rotate_left
     ·intro w'
      go_simp
      with_reducible rfl
     rotate_left
     ·simp only[pA,pS,pZ,pK,pV]
      rfl
     refine tk (i := 2) (N := some 38) (v := ?_) (a' := ?_) (bs 71 11) rfl rfl HT_ HW_ ?_ hHeld ?_ ?_
     rotate_left
     ·rintro w' ⟨s0, s1⟩
      go_simp
      with_reducible rfl
     rotate_left
     ·simp only[pA,pS,pZ,pK,pV]
      rfl
     refine tk (i := 7) (N := some 43) (v := ?_) (a' := ?_) (bs 199 11) rfl rfl HT_ HW_ ?_ hHeld ?_ ?_
     rotate_left
     ·rintro w' ⟨s0, s1⟩
      go_simp
      with_reducible rfl
     rotate_left
     ·simp only[pA,pS,pZ,pK,pV]
      rfl
     refine one_ (i := 3) (N := some 39) (bs 207 11) rfl rfl (one_of HT_.out (by kernel_rfl)) (by decide) (fun K hK => ?_)
     refine goes_ Tryz.func34 (by kernel_rfl) rfl #[.int .i64 ((rd_T50 l1 x32_2).f0)] (by rfl) rfl rfl (by (try simp only [List.map_toArray, List.map_cons, List.map_nil]); first | done | rfl | (simp only [List.length_drop, List.length_take]; rfl)) ?_
     with_reducible refine (impl_FormatInt.calls ((rd_T50 l1 x32_2).f0) t304 _ ?side1 A22.out).mono ?_
     (case side1 => first | exact hTB | exact Tryz.TB_below hTB (BT HB.out))
     rintro e w32 ⟨rfl, hb⟩
     refine ⟨_, rfl, ?_⟩
     replace BK303 := AM_ (BB BK303.out hb)
     replace HB := AM_ (below_step (BT HB.out) hb)
     replace IB := AM_ (Tryz.builder_below IB.out hb)
     (try clear hb)
     (try clear hb2)
     (try clear hk)
     (try clear hi)
     refine hK.out _ _ ⟨bc BK303.out 0, bc BK303.out 1⟩ (fun hHeld => ?_)
     clear hK K
     refine norm_ (a' := ?_) ?_ ?_
     rotate_left
     ·show Act.put _ (some 39) _ = _
      simp only[pA,pS,pZ,pK,pV]
      rfl
     refine pu (i := 4) (N := some 40) (v := ?_) (a' := ?_) (bs 223 11) rfl rfl HT_ ?_ ?_ ?_
     rotate_left
     ·intro w'
      go_simp
      with_reducible rfl
     rotate_left
     ·simp only[pA,pS,pZ,pK,pV]
      rfl
     refine pu (i := 5) (N := some 41) (v := ?_) (a' := ?_) (bs 255 11) rfl rfl HT_ ?_ ?_ ?_
     rotate_left
     ·intro w'
      go_simp
      with_reducible rfl
     rotate_left
     ·simp only[pA,pS,pZ,pK,pV]
      rfl
     refine one_ (i := 8) (N := some 44) (bs 511 11) rfl rfl (one_of HT_.out (by kernel_rfl)) (by decide) (fun K hK => ?_)
     refine goes_ Tryz.func54 (by kernel_rfl) rfl #[.int .i64 ((rd_T50 l1 x32_2).f1)] (by rfl) rfl rfl (by (try simp only [List.map_toArray, List.map_cons, List.map_nil]); first | done | rfl | (simp only [List.length_drop, List.length_take]; rfl)) ?_
     with_reducible refine (impl_formatValue.calls ((rd_T50 l1 x32_2).f1) t305 _ ?side1 A25.out).mono ?_
     (case side1 => first | exact hTB | exact Tryz.TB_below hTB (BT HB.out))
     rintro e w33 ⟨rfl, hb⟩
     refine ⟨_, rfl, ?_⟩
     replace BK303 := AM_ (BB BK303.out hb)
     replace HB := AM_ (below_step (BT HB.out) hb)
     replace IB := AM_ (Tryz.builder_below IB.out hb)
     (try clear hb)
     (try clear hb2)
     (try clear hk)
     (try clear hi)
     refine hK.out _ _ ⟨bc BK303.out 0, bc BK303.out 1⟩ (fun hHeld => ?_)
     clear hK K
     refine norm_ (a' := ?_) ?_ ?_
     rotate_left
     ·show Act.put _ (some 44) _ = _
      simp only[pA,pS,pZ,pK,pV]
      rfl
     refine pu (i := 9) (N := some 45) (v := ?_) (a' := ?_) (bs 1023 11) rfl rfl HT_ ?_ ?_ ?_
     rotate_left
     ·intro w'
      go_simp
      with_reducible rfl
     rotate_left
     ·simp only[pA,pS,pZ,pK,pV]
      rfl
     refine one_ (i := 10) (N := some 46) (bs 2047 11) rfl rfl (one_of HT_.out (by kernel_rfl)) (by decide) (fun K hK => ?_)
     refine goes_ Tryz.func53 (by kernel_rfl) rfl #[.pointer (some ⟨gb0, 0, none⟩), .string ((((⟨#[32, 119]⟩ : ByteArray) ++ t304) ++ (⟨#[58]⟩ : ByteArray)) ++ t305)] (by rfl) rfl rfl (by (try simp only [List.map_toArray, List.map_cons, List.map_nil]); first | done | rfl | (simp only [List.length_drop, List.length_take]; rfl)) ?_
     with_reducible refine (strings_Builder_WriteString.calls gb0 w.heap.size x5_2 ((((⟨#[32, 119]⟩ : ByteArray) ++ t304) ++ (⟨#[58]⟩ : ByteArray)) ++ t305) t306 _ ?side1 ?side2 A27.out).mono ?_
     (case side1 => exact IB.out)
     (case side2 => exact below_size HB.out)
     rintro e w34 ⟨rfl, hib, hb, hok⟩
     refine ⟨_, rfl, ?_⟩
     have n0_ : Aside0 (w34.heap[gb303]? = some (.cells #[.int .i64 ((rd_T50 l1 x32_2).f0), .int .i64 ((rd_T50 l1 x32_2).f1)] 50 (0, 0))) := ⟨hok _ _ BK303.out (strings_Builder_ne IB.out BK303.out (by decide)) (fun _ _ e_ => by injection e_ with _ h_; exact absurd h_ (by decide))⟩
     have n1_ := AM_ (HB.out.trans hb)
     have n2_ := AM_ hib
     clear hib hok
     clear IB
     clear BK303
     clear HB
     have BK303 := n0_
     have HB := n1_
     have IB := n2_
     clear n0_ n1_ n2_
     (try clear hb)
     (try clear hb2)
     (try clear hk)
     (try clear hi)
     refine hK.out _ _ ⟨bc BK303.out 0, bc BK303.out 1⟩ (fun hHeld => ?_)
     clear hK K
     refine norm_ (a' := ?_) ?_ ?_
     rotate_left
     ·show Act.put _ (some 46) _ = _
      simp only[pA,pS,pZ,pK,pV]
      rfl
     refine done_ (done_of HT_.out (by kernel_rfl)) ?_
     try go_wp2
     go_roundg k2
     case measure => have := HK1.out; have := HK2.out; omega
     case rel => exact ⟨(t306), (wrap64 (x32_2 + 1)), (by first | rfl | (simp; done) | (simp [*]; done)), H', ⟨by have := HK1.out; have := HK2.out; omega⟩, ⟨BT HB.out⟩, ⟨(by first | exact IB.out | exact Tryz.builder_below IB.out (by repeat (first | exact Below.refl _ _ | apply below_alloc | apply pw_below_drewN | apply below_drew1)))⟩⟩


/-! ### strings_Join: function 36 -/
def strings_Join.f (l0 : List ByteArray) (a1 : ByteArray) : Option ByteArray := if l0.length ≤ 140737488355328 then (if (Lib.join (l0.map (·.data.toList)) a1.data.toList).length ≤ 140737488355328 then (some (⟨(Lib.join (l0.map (·.data.toList)) a1.data.toList).toArray⟩ : ByteArray)) else (none)) else (none)
theorem strings_Join_plainAddr {w : World} {ad : Addr} {u : Value} (h : w.cell? ad = some u) : ad = ⟨ad.block, ad.off, none⟩ := by
 obtain ⟨b, o, s⟩ := ad
 cases s with
 | none => rfl
 | some s =>
  exfalso
  unfold World.cell? at h
  dsimp only at h
  split at h
  ·simp at h
  ·simp at h
theorem strings_Join.calls (A0 : Option Addr) (c0 : Nat) (l0 : List ByteArray) (a1 : ByteArray) (r : ByteArray) (w : World) (hr0 : Kd.C Kd.string w A0 l0.length l0) (hc0 : l0.length ≤ c0) (h : strings_Join.f l0 a1 = some r) :
  Calls Tryz.prog 36 #[.slice A0 l0.length c0, .string a1] w fun e w' => e = .returned (.string r) ∧ Below w.heap.size w w' := by
 unfold strings_Join.f at h
 by_cases q0 : l0.length ≤ 140737488355328
 rotate_left
 ·rw [if_neg q0] at h; exact absurd h (by simp)
 rw [if_pos q0] at h
 by_cases q1 : (Lib.join (l0.map (·.data.toList)) a1.data.toList).length ≤ 140737488355328
 rotate_left
 ·rw [if_neg q1] at h; exact absurd h (by simp)
 rw [if_pos q1] at h
 obtain rfl := Option.some.inj h
 by_cases hz : l0 = []
 ·subst hz
  refine (Tryz.strings_Join_none A0 c0 a1 w).mono ?_
  rintro e w' ⟨rfl, rfl⟩
  exact ⟨rfl, Below.refl _ _⟩
 have hp : 0 < l0.length := List.length_pos_iff.2 hz
 obtain ⟨ad, rfl, hcell⟩ := hr0.2.2 hp
 have hx : ∀ (j : Nat) x, l0[j]? = some x → w.cell? (ad.add j) = some (.string x) := by
  intro j x hj
  obtain ⟨c, _, hK, hc⟩ := hcell j x hj
  have hK' : c = [.string x] := hK
  subst hK'
  have := hc 0 _ rfl
  simpa [Kd.string, Kd.scalar] using this
 have h0 : w.cell? ad = some (.string l0[0]) := by
  have := hx 0 l0[0] (List.getElem?_eq_getElem hp)
  simpa [Addr.add] using this
 have hb : ad.block < w.heap.size := World.block_lt_of_cell? w _ h0
 have ha := strings_Join_plainAddr h0
 obtain ⟨b, o, s⟩ := ad
 have hs : s = none := by injection ha
 subst hs
 refine (Tryz.strings_Join b o c0 l0 a1 w (fun j x hj => ?_) hb q0 hc0 q1).mono ?_
 ·have := hx j x hj
  rwa [add_at] at this
 ·rintro e w' ⟨rfl, hw⟩
  exact ⟨rfl, hw⟩

end Go.Proofs.YtdfbmaiboadodaaGreatDoor.PFnExactParseHistory
