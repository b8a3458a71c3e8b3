-- Printed by a program of mine (wip/myprint.py), which runs the printer of the kit with contracts of mine beside it.
import Derived.Test.YtakpkmlbklahhaaPFnExactInstalledVersionsx0
import Derived.Test.YtakpkmlbklahhaaPFnExactInstalledVersionsx9
import Derived.Test.YtakpkmlbklahhaaPFnExactInstalledVersionsx12
namespace Go.Proofs.Ytakpkmlbklahhaa.PFnExactInstalledVersions
open Go.RowKit Go.Proofs.YtakpkmlbklahhaaW.PrintWords Go.Proofs.YtakpkmlbklahhaaW.PrintLast Go.Proofs.YtakpkmlbklahhaaW.PrintMore
attribute [local go_sem] max2_int min2_int max_two min_two max_three min_three max_four min_four   -- for this text's walks alone
set_option linter.unusedVariables false
set_option linter.unusedSimpArgs false

/-! ### impl_FindVersion_1: function 215 -/
def impl_FindVersion_1.f (a0_0 : Int) (a0_1 : Int) (a0_2 : Int) (a0_3 : Int) (a0_4 : Int) (a1_0 : Int) : Option (Bool) := some (a0_2 == a1_0)
set_option maxHeartbeats 8000000 in
set_option maxRecDepth 100000 in
theorem impl_FindVersion_1.calls (a0_0 : Int) (a0_1 : Int) (a0_2 : Int) (a0_3 : Int) (a0_4 : Int) (gb1 : Nat) (a1_0 : Int) (r : Bool) (w : World) (hb1 : w.heap[gb1]? = some (.cells #[.int .i64 a1_0] 3 (0, 0))) (h : impl_FindVersion_1.f a0_0 a0_1 a0_2 a0_3 a0_4 a1_0 = some r) :
  Calls Try.prog 215 #[.agg #[.int .i64 a0_0, .int .i64 a0_1, .int .i64 a0_2, .int .i64 a0_3, .int .i64 a0_4], .pointer (some ⟨gb1, 0, none⟩)] w fun e w' => e = .returned (.bool r) ∧ Below w.heap.size w w' := by
 have hu76 := Try.underlying76
 have BK1 := AM_ hb1
 clear hb1
 have HB := AM_ (Below.refl w.heap.size w)
 have H : (some (a0_2 == a1_0)) = some r := h
 clear h
 obtain rfl := Option.some.inj H
 go_enter Try.func215, Try.ntmps215
 go_wp2_with (first | ((with_reducible refine gate_dst (N := 2) rfl ?_); refine box_event ?hg (N := 2) ?hd (cs := #[.int .i64 a0_0, .int .i64 a0_1, .int .i64 a0_2, .int .i64 a0_3, .int .i64 a0_4]) (t := 76) ?hr ?_; (case hd => rfl); (case hg => rfl); (case hr => first | (go_simp; done) | (go_simp; rfl)); intro gb307 hg w3 hbox hb; have BK307 := AM_ (hbox); have GW307 := AM_ ((GS HB.out hg)); have GE307 := AM_ ((GS HB.out hg)); replace HB := AM_ (below_step (BT HB.out) hb); have NB1_307 := AM_ ((NL BK1.out hg)); have NB307_1 := AM_ ((NG BK1.out hg)); replace BK1 := AM_ (BB BK1.out hb); clear hb hbox hg; have hnb4 := NB307_1.out; have hnc4 := NB1_307.out; obtain ⟨hcz5_0, hcz5_1, hcz5_2, hcz5_3, hcz5_4, hfz5_0, hfz5_1, hfz5_2, hfz5_3, hfz5_4⟩ := bk5 BK307.out; obtain ⟨hcz6_0, hfz6_0⟩ := bk1 BK1.out))
 go_ret
 exact QT (BT HB.out)

/-! ### impl_Version_214: function 214 -/
def impl_Version_214.l0 : Nat → List (S76) → Int → Int → Int → Option (Int)
 | 0, _, _, _, _ => none
 | k + 1, x0, x7, x8, x31000 => if x8 < x7 then (if 0 ≤ x8 then (if x8 < (x0.length : Int) then ((impl_FindVersion_1.f ((rd_T76 x0 x8).f0) ((rd_T76 x0 x8).f1) ((rd_T76 x0 x8).f2) ((rd_T76 x0 x8).f3) ((rd_T76 x0 x8).f4) x31000).bind fun t309 => (if t309 = true then (some x8) else (impl_Version_214.l0 k x0 x7 (wrap64 (x8 + 1)) x31000))) else (none)) else (none)) else (some (-1))
def impl_Version_214.f (k : Nat) (l0 : List (S76)) (a1_0_0 : Int) : Option (Int) := impl_Version_214.l0 k l0 (l0.length : Int) 0 a1_0_0
theorem impl_Version_214.mono_l : ∀ k, (∀ y0 y1 y2 y3, LeO (impl_Version_214.l0 k y0 y1 y2 y3) (impl_Version_214.l0 (k + 1) y0 y1 y2 y3))
 | 0 => fun _ _ _ _ r h => by simp [impl_Version_214.l0] at h
 | k + 1 => by
  have ih0 := impl_Version_214.mono_l k
  ·intro y0 y1 y2 y3
   unfold impl_Version_214.l0
   repeat' first
   | (with_reducible exact ih0 _ _ _ _)
   | (with_reducible exact LeO.refl _)
   | (with_reducible exact LeO.none _)
   | (with_reducible refine LeO.ite ?_ ?_)
   | (with_reducible refine LeO.bind ?_ (fun _ => ?_))
   | exact ih0 _ _ _ _
   | exact LeO.none _
   | refine LeO.ite ?_ ?_
   | refine LeO.bind ?_ (fun _ => ?_)
theorem impl_Version_214.mono : ∀ a0 a1 k, LeO (impl_Version_214.f k a0 a1) (impl_Version_214.f (k + 1) a0 a1) := by
 intro a0 a1 k
 have ih0 := impl_Version_214.mono_l k
 unfold impl_Version_214.f
 repeat' first
   | (with_reducible exact ih0 _ _ _ _)
   | (with_reducible exact LeO.refl _)
   | (with_reducible exact LeO.none _)
   | (with_reducible refine LeO.ite ?_ ?_)
   | (with_reducible refine LeO.bind ?_ (fun _ => ?_))
   | exact ih0 _ _ _ _
   | exact LeO.none _
   | refine LeO.ite ?_ ?_
   | refine LeO.bind ?_ (fun _ => ?_)
set_option maxHeartbeats 8000000 in
set_option maxRecDepth 100000 in
theorem impl_Version_214.calls (k : Nat) (A0 : Option Addr) (c0 : Nat) (l0 : List (S76)) (gb30 : Nat) (a1_0_0 : Int) (r : Int) (w : World) (hr0 : Kd.C k76 w A0 l0.length l0) (hc0 : l0.length ≤ c0) (hb30 : w.heap[gb30]? = some (.cells #[.int .i64 a1_0_0] 3 (0, 0))) (h : impl_Version_214.f k l0 a1_0_0 = some r) :
  Calls Try.prog 214 #[.slice A0 l0.length c0, .func (.func 215) #[] #[.pointer (some ⟨gb30, 0, none⟩)]] w fun e w' => e = .returned (.int .i64 r) ∧ Below w.heap.size w w' := by
 have hu76 := Try.underlying76
 have BK30 := AM_ hb30
 clear hb30
 have HR0 := AM_ hr0
 have HC0 := AM_ hc0
 clear hr0 hc0
 have HB := AM_ (Below.refl w.heap.size w)
 have H : (impl_Version_214.l0 k l0 (l0.length : Int) 0 a1_0_0) = some r := h
 clear h
 have H' := AM_ H
 clear H
 go_enter Try.func214, Try.ntmps214
 go_wp2
 go_loopg [8] k (fun kq v8 w' => ∃ (x8_1 : Int), v8 = .int .i64 x8_1 ∧ Aside0 (impl_Version_214.l0 kq l0 (l0.length : Int) x8_1 a1_0_0 = some r) ∧ Aside0 (kq ≤ k) ∧ Aside0 (w'.heap[gb30]? = some (.cells #[.int .i64 a1_0_0] 3 (0, 0))) ∧ Aside0 (Below w.heap.size w w'))
 case atStart => exact ⟨(0), (by first | rfl | (simp; done) | (simp [*]; done)), H', ⟨Nat.le_refl _⟩, ⟨BH BK30.out⟩, ⟨BT HB.out⟩⟩
 case round =>
  clear H'
  try clear c2
  try clear p2
  obtain ⟨x8_1, rfl, HA, HK1, BK30, HB⟩ := hrel
  cases gk with
  | zero => exact absurd HA.out (by simp [impl_Version_214.l0])
  | succ k1 =>
   have H := HA.out
   clear HA
   simp only [impl_Version_214.l0] at H
   by_cases c3 : x8_1 < (l0.length : Int)
   rotate_left
   ·rw [if_neg c3] at H
    have c3b0 : decide (x8_1 < (l0.length : Int)) = false := decide_eq_false c3
    clear c3
    obtain rfl := Option.some.inj H
    go_wp2
    go_ret
    exact QT (BT HB.out)
   rw [if_pos c3] at H
   have c3b0 : decide (x8_1 < (l0.length : Int)) = true := decide_eq_true c3
   clear c3
   by_cases c4 : 0 ≤ x8_1
   rotate_left
   ·rw [if_neg c4] at H
    exact absurd H (by simp)
   rw [if_pos c4] at H
   have c4b0 : decide (0 ≤ x8_1) = true := decide_eq_true c4
   clear c4
   by_cases c5 : x8_1 < (l0.length : Int)
   rotate_left
   ·rw [if_neg c5] at H
    exact absurd H (by simp)
   rw [if_pos c5] at H
   have c5b0 : decide (x8_1 < (l0.length : Int)) = true := decide_eq_true c5
   clear c5
   replace H := Option.bind_eq_some_iff.mp H
   obtain ⟨t309, A60, H⟩ := H
   replace H : (if t309 = true then (some x8_1) else (impl_Version_214.l0 k1 l0 (l0.length : Int) (wrap64 (x8_1 + 1)) a1_0_0)) = some r := H
   have A6 := AM_ A60
   clear A60
   by_cases c7 : t309 = true
   ·subst c7
    have H1 : (some x8_1) = some r := by rw [if_pos rfl] at H; exact H
    clear H
    have H := H1
    clear H1
    obtain rfl := Option.some.inj H
    have p308 : 0 ≤ (x8_1 : Int) := DT
    have q308 : x8_1 < (l0.length : Int) := DT
    obtain ⟨ad308, e308, hx308_0, hx308_1, hx308_2, hx308_3, hx308_4⟩ := at_T76 HR0.out x8_1 p308 q308
    cases e308
    replace hx308_0 := BC HB.out hx308_0
    replace hx308_1 := BC HB.out hx308_1
    replace hx308_2 := BC HB.out hx308_2
    replace hx308_3 := BC HB.out hx308_3
    replace hx308_4 := BC HB.out hx308_4
    replace p308 := eq_true p308
    replace q308 := eq_true q308
    go_wp2_with (first | ((with_reducible refine gate_dst (N := 16) rfl ?_); refine goesF_ (some 16) rfl rfl Try.func215 (by kernel_rfl) rfl (lb := #[.pointer (some ⟨gb30, 0, none⟩)]) #[.agg #[.int .i64 ((rd_T76 l0 x8_1).f0), .int .i64 ((rd_T76 l0 x8_1).f1), .int .i64 ((rd_T76 l0 x8_1).f2), .int .i64 ((rd_T76 l0 x8_1).f3), .int .i64 ((rd_T76 l0 x8_1).f4)], .pointer (some ⟨gb30, 0, none⟩)] rfl rfl (by (try simp only [List.map_toArray, List.map_cons, List.map_nil]); first | done | rfl) ?_; (with_reducible refine (impl_FindVersion_1.calls ((rd_T76 l0 x8_1).f0) ((rd_T76 l0 x8_1).f1) ((rd_T76 l0 x8_1).f2) ((rd_T76 l0 x8_1).f3) ((rd_T76 l0 x8_1).f4) gb30 a1_0_0 true _ ?side1 A6.out).mono ?_); (case side1 => exact by (with_reducible repeat (first | refine blk_drewN ?_ _ | refine blk_drew ?_ | refine blk_alloc ?_ _)); exact BK30.out); rintro e w8 ⟨rfl, hb⟩; refine ⟨_, rfl, ?_⟩; replace BK30 := AM_ (BB BK30.out hb); replace HB := AM_ (below_step (BT HB.out) hb); (try clear hb); (try clear hb2); (try clear hk); (try clear hi)))
    go_ret
    exact QT (BT HB.out)
   replace c7 := Bool.eq_false_iff.mpr c7
   subst c7
   have H1 : (impl_Version_214.l0 k1 l0 (l0.length : Int) (wrap64 (x8_1 + 1)) a1_0_0) = some r := by rw [if_neg (show ¬ (false = true) by decide)] at H; exact H
   clear H
   have H := H1
   clear H1
   have H' := AM_ H
   clear H
   have p308 : 0 ≤ (x8_1 : Int) := DT
   have q308 : x8_1 < (l0.length : Int) := DT
   obtain ⟨ad308, e308, hx308_0, hx308_1, hx308_2, hx308_3, hx308_4⟩ := at_T76 HR0.out x8_1 p308 q308
   cases e308
   replace hx308_0 := BC HB.out hx308_0
   replace hx308_1 := BC HB.out hx308_1
   replace hx308_2 := BC HB.out hx308_2
   replace hx308_3 := BC HB.out hx308_3
   replace hx308_4 := BC HB.out hx308_4
   replace p308 := eq_true p308
   replace q308 := eq_true q308
   go_wp2_with (first | ((with_reducible refine gate_dst (N := 16) rfl ?_); refine goesF_ (some 16) rfl rfl Try.func215 (by kernel_rfl) rfl (lb := #[.pointer (some ⟨gb30, 0, none⟩)]) #[.agg #[.int .i64 ((rd_T76 l0 x8_1).f0), .int .i64 ((rd_T76 l0 x8_1).f1), .int .i64 ((rd_T76 l0 x8_1).f2), .int .i64 ((rd_T76 l0 x8_1).f3), .int .i64 ((rd_T76 l0 x8_1).f4)], .pointer (some ⟨gb30, 0, none⟩)] rfl rfl (by (try simp only [List.map_toArray, List.map_cons, List.map_nil]); first | done | rfl) ?_; (with_reducible refine (impl_FindVersion_1.calls ((rd_T76 l0 x8_1).f0) ((rd_T76 l0 x8_1).f1) ((rd_T76 l0 x8_1).f2) ((rd_T76 l0 x8_1).f3) ((rd_T76 l0 x8_1).f4) gb30 a1_0_0 false _ ?side1 A6.out).mono ?_); (case side1 => exact by (with_reducible repeat (first | refine blk_drewN ?_ _ | refine blk_drew ?_ | refine blk_alloc ?_ _)); exact BK30.out); rintro e w9 ⟨rfl, hb⟩; refine ⟨_, rfl, ?_⟩; replace BK30 := AM_ (BB BK30.out hb); replace HB := AM_ (below_step (BT HB.out) hb); (try clear hb); (try clear hb2); (try clear hk); (try clear hi)))
   go_roundg k1
   case measure => have := HK1.out; omega
   case rel => exact ⟨(wrap64 (x8_1 + 1)), (by first | rfl | (simp; done) | (simp [*]; done)), H', ⟨by have := HK1.out; omega⟩, ⟨BH BK30.out⟩, ⟨BT HB.out⟩⟩

/-! ### impl_FindVersion: function 195 -/
def impl_FindVersion.f (k : Nat) (l0 : List (S76)) (a1 : Int) : Option (Int) := (impl_Version_214.f k l0 a1).bind fun t311 => (some t311)
theorem impl_FindVersion.mono : ∀ a0 a1 k, LeO (impl_FindVersion.f k a0 a1) (impl_FindVersion.f (k + 1) a0 a1) := by
 intro a0 a1 k
 unfold impl_FindVersion.f
 repeat' first
   | (with_reducible exact impl_Version_214.mono _ _ _)
   | (with_reducible exact LeO.refl _)
   | (with_reducible exact LeO.none _)
   | (with_reducible refine LeO.ite ?_ ?_)
   | (with_reducible refine LeO.bind ?_ (fun _ => ?_))
   | exact impl_Version_214.mono _ _ _
   | exact LeO.none _
   | refine LeO.ite ?_ ?_
   | refine LeO.bind ?_ (fun _ => ?_)
set_option maxHeartbeats 8000000 in
set_option maxRecDepth 100000 in
theorem impl_FindVersion.calls (k : Nat) (A0 : Option Addr) (c0 : Nat) (l0 : List (S76)) (a1 : Int) (r : Int) (w : World) (hr0 : Kd.C k76 w A0 l0.length l0) (hc0 : l0.length ≤ c0) (h : impl_FindVersion.f k l0 a1 = some r) :
  Calls Try.prog 195 #[.slice A0 l0.length c0, .int .i64 a1] w fun e w' => e = .returned (.int .i64 r) ∧ Below w.heap.size w w' := by
 have HR0 := AM_ hr0
 have HC0 := AM_ hc0
 clear hr0 hc0
 have HB := AM_ (Below.refl w.heap.size w)
 have H : ((impl_Version_214.f k l0 a1).bind fun t311 => (some t311)) = some r := h
 clear h
 replace H := Option.bind_eq_some_iff.mp H
 obtain ⟨t311, A30, H⟩ := H
 replace H : (some t311) = some r := H
 have A3 := AM_ A30
 clear A30
 obtain rfl := Option.some.inj H
 go_enter Try.func195, Try.ntmps195
 go_wp2_with (first | ((with_reducible refine gate_dst (N := 3) rfl ?_); refine box_event ?hg (N := 3) ?hd (cs := #[.int .i64 a1]) (t := 3) ?hr ?_; (case hd => rfl); (case hg => rfl); (case hr => first | (go_simp; done) | (go_simp; rfl)); intro gb310 hg w4 hbox hb; have BK310 := AM_ (hbox); have GW310 := AM_ ((GS HB.out hg)); have GE310 := AM_ ((GS HB.out hg)); replace HB := AM_ (below_step (BT HB.out) hb); clear hb hbox hg) | ((with_reducible refine gate_callee (f := 214) rfl ?_); refine goesL_ (some 7) rfl rfl Try.func214 (by kernel_rfl) rfl #[.slice A0 l0.length c0, .func (.func 215) #[] #[.pointer (some ⟨gb310, 0, none⟩)]] rfl (by (try simp only [List.map_toArray, List.map_cons, List.map_nil]); first | done | rfl | (simp only [List.length_drop, List.length_take]; rfl)) ?_; (with_reducible refine (impl_Version_214.calls k _ _ l0 gb310 a1 t311 _ ?side1 ?side2 ?side3 A3.out).mono ?_); (case side1 => exact CB HR0.out HB.out); (case side2 => exact HC0.out); (case side3 => exact by (with_reducible repeat (first | refine blk_drewN ?_ _ | refine blk_drew ?_ | refine blk_alloc ?_ _)); exact BK310.out); rintro e w5 ⟨rfl, hb⟩; refine ⟨_, rfl, ?_⟩; replace BK310 := AM_ (BB BK310.out hb); replace HB := AM_ (below_step (BT HB.out) hb); (try clear hb); (try clear hb2); (try clear hk); (try clear hi)))
 go_ret
 exact QT (BT HB.out)

/-! ### impl_Store_find: function 143 -/
def impl_Store_find.f (k : Nat) (l0_0 : List (List (S76))) (a1_0 : Int) (a1_1 : Int) : Option (Int) := if 0 ≤ a1_0 then (if a1_0 < (l0_0.length : Int) then ((impl_FindVersion.f k (rd_L6 l0_0 a1_0) a1_1).bind fun t315 => (if t315 < 0 then (some (-1)) else (if 0 ≤ t315 then (if t315 < ((rd_L6 l0_0 a1_0).length : Int) then (some t315) else (none)) else (none)))) else (none)) else (none)
theorem impl_Store_find.mono : ∀ a0 a1 a2 k, LeO (impl_Store_find.f k a0 a1 a2) (impl_Store_find.f (k + 1) a0 a1 a2) := by
 intro a0 a1 a2 k
 unfold impl_Store_find.f
 repeat' first
   | (with_reducible exact impl_FindVersion.mono _ _ _)
   | (with_reducible exact LeO.refl _)
   | (with_reducible exact LeO.none _)
   | (with_reducible refine LeO.ite ?_ ?_)
   | (with_reducible refine LeO.bind ?_ (fun _ => ?_))
   | exact impl_FindVersion.mono _ _ _
   | exact LeO.none _
   | refine LeO.ite ?_ ?_
   | refine LeO.bind ?_ (fun _ => ?_)
/-- Where a version lies: known from the rows, at any world. -/
def impl_Store_find.PT (A : Option Addr) (r : Int) : Option Addr := if r < 0 then none else A.map (fun a => a.add (r.toNat * 5))
theorem impl_Store_find_at {w : World} {A0_0 : Option Addr} {l0_0 : List (List (S76))} {k : Nat} {a1_0 a1_1 r : Int} (hr0_0 : Kd.C (Kd.slice 76 k76) w A0_0 l0_0.length l0_0) (h : impl_Store_find.f k l0_0 a1_0 a1_1 = some r) :
  0 ≤ a1_0 ∧ a1_0 < (l0_0.length : Int) ∧ ∃ ad A1 c, A0_0 = some ad ∧ w.cell? (ad.add (a1_0 : Int).toNat) = some (.slice A1 (rd_L6 l0_0 a1_0).length c) ∧ (rd_L6 l0_0 a1_0).length ≤ c ∧ Kd.C k76 w A1 (rd_L6 l0_0 a1_0).length (rd_L6 l0_0 a1_0) ∧ (r ≠ -1 → 0 ≤ r ∧ ∃ adI, A1 = some adI ∧ w.cell? (adI.add (r.toNat * 5)) = some (.int .i64 (rd_T76 (rd_L6 l0_0 a1_0) r).f0) ∧ w.cell? ⟨(adI.add (r.toNat * 5)).block, (adI.add (r.toNat * 5)).off + 1, none⟩ = some (.int .i64 (rd_T76 (rd_L6 l0_0 a1_0) r).f1) ∧ w.cell? ⟨(adI.add (r.toNat * 5)).block, (adI.add (r.toNat * 5)).off + 2, none⟩ = some (.int .i64 (rd_T76 (rd_L6 l0_0 a1_0) r).f2) ∧ w.cell? ⟨(adI.add (r.toNat * 5)).block, (adI.add (r.toNat * 5)).off + 3, none⟩ = some (.int .i64 (rd_T76 (rd_L6 l0_0 a1_0) r).f3) ∧ w.cell? ⟨(adI.add (r.toNat * 5)).block, (adI.add (r.toNat * 5)).off + 4, none⟩ = some (.int .i64 (rd_T76 (rd_L6 l0_0 a1_0) r).f4)) := by
 unfold impl_Store_find.f at h
 by_cases c3 : 0 ≤ a1_0
 rotate_left
 ·rw [if_neg c3] at h; exact absurd h (by simp)
 rw [if_pos c3] at h
 by_cases c4 : a1_0 < (l0_0.length : Int)
 rotate_left
 ·rw [if_neg c4] at h; exact absurd h (by simp)
 rw [if_pos c4] at h
 obtain ⟨ad, A1, c1, e1, hx, hl, hi⟩ := at_L6 hr0_0 a1_0 c3 c4
 refine ⟨c3, c4, ad, A1, c1, e1, hx, hl, hi, fun hn => ?_⟩
 obtain ⟨t, _, h⟩ := Option.bind_eq_some_iff.mp h
 (try dsimp only at h)
 by_cases c6 : t < 0
 ·rw [if_pos c6] at h; exact absurd (Option.some.inj h).symm hn
 rw [if_neg c6] at h
 by_cases c13 : 0 ≤ t
 rotate_left
 ·rw [if_neg c13] at h; exact absurd h (by simp)
 rw [if_pos c13] at h
 by_cases c14 : t < ((rd_L6 l0_0 a1_0).length : Int)
 rotate_left
 ·rw [if_neg c14] at h; exact absurd h (by simp)
 rw [if_pos c14] at h
 obtain rfl := Option.some.inj h
 obtain ⟨adI, e2, h0, h1, h2, h3, h4⟩ := at_T76 hi t c13 c14
 exact ⟨c13, adI, e2, h0, h1, h2, h3, h4⟩
set_option maxHeartbeats 8000000 in
set_option maxRecDepth 100000 in
theorem impl_Store_find.calls (k : Nat) (ad314 : Addr) (c0_0 : Nat) (l0_0 : List (List (S76))) (A314_0 : Option Addr) (c314_0 : Nat) (a1_0 : Int) (a1_1 : Int) (r : Int) (w : World) (hx0 : w.cell? (ad314.add (a1_0 : Int).toNat) = some (.slice A314_0 (rd_L6 l0_0 a1_0).length c314_0)) (hi0 : Kd.C k76 w A314_0 (rd_L6 l0_0 a1_0).length (rd_L6 l0_0 a1_0)) (hl0 : (rd_L6 l0_0 a1_0).length ≤ c314_0) (h : impl_Store_find.f k l0_0 a1_0 a1_1 = some r) :
  Calls Try.prog 143 #[.agg #[.slice (some ad314) l0_0.length c0_0], .agg #[.int .i64 a1_0, .int .i64 a1_1]] w fun e w' => e = .returned (.pointer (impl_Store_find.PT A314_0 r)) ∧ Below w.heap.size w w' := by
 have hu49 := Try.underlying49
 have hu165 := Try.underlying165
 have HX0 := AM_ hx0
 have HI0 := AM_ hi0
 have HL0 := AM_ hl0
 clear hx0 hi0 hl0
 have HB := AM_ (Below.refl w.heap.size w)
 have H : (if 0 ≤ a1_0 then (if a1_0 < (l0_0.length : Int) then ((impl_FindVersion.f k (rd_L6 l0_0 a1_0) a1_1).bind fun t315 => (if t315 < 0 then (some (-1)) else (if 0 ≤ t315 then (if t315 < ((rd_L6 l0_0 a1_0).length : Int) then (some t315) else (none)) else (none)))) else (none)) else (none)) = some r := h
 clear h
 by_cases c3 : 0 ≤ a1_0
 rotate_left
 ·rw [if_neg c3] at H
  exact absurd H (by simp)
 rw [if_pos c3] at H
 have c3b0 : decide (0 ≤ a1_0) = true := decide_eq_true c3
 clear c3
 by_cases c4 : a1_0 < (l0_0.length : Int)
 rotate_left
 ·rw [if_neg c4] at H
  exact absurd H (by simp)
 rw [if_pos c4] at H
 have c4b0 : decide (a1_0 < (l0_0.length : Int)) = true := decide_eq_true c4
 clear c4
 replace H := Option.bind_eq_some_iff.mp H
 obtain ⟨t315, A50, H⟩ := H
 replace H : (if t315 < 0 then (some (-1)) else (if 0 ≤ t315 then (if t315 < ((rd_L6 l0_0 a1_0).length : Int) then (some t315) else (none)) else (none))) = some r := H
 have A5 := AM_ A50
 clear A50
 by_cases c6 : t315 < 0
 ·rw [if_pos c6] at H
  have c6b0 : decide (t315 < 0) = true := decide_eq_true c6
  clear c6
  obtain rfl := Option.some.inj H
  go_enter Try.func143, Try.ntmps143
  go_wp2_with (first | ((with_reducible refine gate_dst (N := 2) rfl ?_); refine box_event ?hg (N := 2) ?hd (cs := #[.slice (some ad314) l0_0.length c0_0]) (t := 49) ?hr ?_; (case hd => rfl); (case hg => rfl); (case hr => first | (go_simp; done) | (go_simp; rfl)); intro gb312 hg w7 hbox hb; have BK312 := AM_ (hbox); have GW312 := AM_ ((GS HB.out hg)); have GE312 := AM_ ((GS HB.out hg)); replace HB := AM_ (below_step (BT HB.out) hb); clear hb hbox hg) | ((with_reducible refine gate_dst (N := 3) rfl ?_); refine box_event ?hg (N := 3) ?hd (cs := #[.int .i64 a1_0, .int .i64 a1_1]) (t := 165) ?hr ?_; (case hd => rfl); (case hg => rfl); (case hr => first | (go_simp; done) | (go_simp; rfl)); intro gb313 hg w8 hbox hb; have BK313 := AM_ (hbox); have GW313 := AM_ ((GS HB.out hg)); have GE313 := AM_ ((GS HB.out hg)); replace HB := AM_ (below_step (BT HB.out) hb); have NB312_313 := AM_ ((NL BK312.out hg)); have NB313_312 := AM_ ((NG BK312.out hg)); replace BK312 := AM_ (BB BK312.out hb); clear hb hbox hg; have hnb9 := NB312_313.out; have hnc9 := NB313_312.out; obtain ⟨hcz10_0, hfz10_0⟩ := bk1 BK312.out; obtain ⟨hcz11_0, hcz11_1, hfz11_0, hfz11_1⟩ := bk2 BK313.out; have p314 : 0 ≤ (a1_0 : Int) := DT; have q314 : a1_0 < (l0_0.length : Int) := DT; have hx314_0 := HX0.out; have hl314_0 := HL0.out; have hi314_0 := HI0.out; replace hx314_0 := BD HB.out hx314_0; have HR314_0 := AM_ hi314_0; have HC314_0 := AM_ hl314_0; clear hi314_0 hl314_0; replace p314 := eq_true p314; replace q314 := eq_true q314) | ((with_reducible refine gate_callee (f := 195) rfl ?_); refine goesL_ (some 16) rfl rfl Try.func195 (by kernel_rfl) rfl #[.slice A314_0 (rd_L6 l0_0 a1_0).length c314_0, .int .i64 a1_1] rfl (by (try simp only [List.map_toArray, List.map_cons, List.map_nil]); first | done | rfl | (simp only [List.length_drop, List.length_take]; rfl)) ?_; (with_reducible refine (impl_FindVersion.calls k _ _ (rd_L6 l0_0 a1_0) a1_1 t315 _ ?side1 ?side2 A5.out).mono ?_); (case side1 => exact CB HR314_0.out HB.out); (case side2 => exact HC314_0.out); rintro e w12 ⟨rfl, hb⟩; refine ⟨_, rfl, ?_⟩; replace BK312 := AM_ (BB BK312.out hb); replace BK313 := AM_ (BB BK313.out hb); replace HB := AM_ (below_step (BT HB.out) hb); (try clear hb); (try clear hb2); (try clear hk); (try clear hi)))
  go_ret
  exact QT (BT HB.out)
 rw [if_neg c6] at H
 have c6b0 : decide (t315 < 0) = false := decide_eq_false c6
 clear c6
 by_cases c13 : 0 ≤ t315
 rotate_left
 ·rw [if_neg c13] at H
  exact absurd H (by simp)
 rw [if_pos c13] at H
 have c13b0 : decide (0 ≤ t315) = true := decide_eq_true c13
 clear c13
 by_cases c14 : t315 < ((rd_L6 l0_0 a1_0).length : Int)
 rotate_left
 ·rw [if_neg c14] at H
  exact absurd H (by simp)
 rw [if_pos c14] at H
 have c14b0 : decide (t315 < ((rd_L6 l0_0 a1_0).length : Int)) = true := decide_eq_true c14
 clear c14
 obtain rfl := Option.some.inj H
 go_enter Try.func143, Try.ntmps143
 go_wp2_with (first | ((with_reducible refine gate_dst (N := 2) rfl ?_); refine box_event ?hg (N := 2) ?hd (cs := #[.slice (some ad314) l0_0.length c0_0]) (t := 49) ?hr ?_; (case hd => rfl); (case hg => rfl); (case hr => first | (go_simp; done) | (go_simp; rfl)); intro gb312 hg w15 hbox hb; have BK312 := AM_ (hbox); have GW312 := AM_ ((GS HB.out hg)); have GE312 := AM_ ((GS HB.out hg)); replace HB := AM_ (below_step (BT HB.out) hb); clear hb hbox hg) | ((with_reducible refine gate_dst (N := 3) rfl ?_); refine box_event ?hg (N := 3) ?hd (cs := #[.int .i64 a1_0, .int .i64 a1_1]) (t := 165) ?hr ?_; (case hd => rfl); (case hg => rfl); (case hr => first | (go_simp; done) | (go_simp; rfl)); intro gb313 hg w16 hbox hb; have BK313 := AM_ (hbox); have GW313 := AM_ ((GS HB.out hg)); have GE313 := AM_ ((GS HB.out hg)); replace HB := AM_ (below_step (BT HB.out) hb); have NB312_313 := AM_ ((NL BK312.out hg)); have NB313_312 := AM_ ((NG BK312.out hg)); replace BK312 := AM_ (BB BK312.out hb); clear hb hbox hg; have hnb17 := NB312_313.out; have hnc17 := NB313_312.out; obtain ⟨hcz18_0, hfz18_0⟩ := bk1 BK312.out; obtain ⟨hcz19_0, hcz19_1, hfz19_0, hfz19_1⟩ := bk2 BK313.out; have p314 : 0 ≤ (a1_0 : Int) := DT; have q314 : a1_0 < (l0_0.length : Int) := DT; have hx314_0 := HX0.out; have hl314_0 := HL0.out; have hi314_0 := HI0.out; replace hx314_0 := BD HB.out hx314_0; have HR314_0 := AM_ hi314_0; have HC314_0 := AM_ hl314_0; clear hi314_0 hl314_0; replace p314 := eq_true p314; replace q314 := eq_true q314) | ((with_reducible refine gate_callee (f := 195) rfl ?_); refine goesL_ (some 16) rfl rfl Try.func195 (by kernel_rfl) rfl #[.slice A314_0 (rd_L6 l0_0 a1_0).length c314_0, .int .i64 a1_1] rfl (by (try simp only [List.map_toArray, List.map_cons, List.map_nil]); first | done | rfl | (simp only [List.length_drop, List.length_take]; rfl)) ?_; (with_reducible refine (impl_FindVersion.calls k _ _ (rd_L6 l0_0 a1_0) a1_1 t315 _ ?side1 ?side2 A5.out).mono ?_); (case side1 => exact CB HR314_0.out HB.out); (case side2 => exact HC314_0.out); rintro e w20 ⟨rfl, hb⟩; refine ⟨_, rfl, ?_⟩; replace BK312 := AM_ (BB BK312.out hb); replace BK313 := AM_ (BB BK313.out hb); replace HB := AM_ (below_step (BT HB.out) hb); (try clear hb); (try clear hb2); (try clear hk); (try clear hi); have p316 : 0 ≤ (t315 : Int) := DT; have q316 : t315 < ((rd_L6 l0_0 a1_0).length : Int) := DT; obtain ⟨ad316, e316, hx316_0, hx316_1, hx316_2, hx316_3, hx316_4⟩ := at_T76 HR314_0.out t315 p316 q316; cases e316; replace hx316_0 := BD HB.out hx316_0; replace hx316_1 := BD HB.out hx316_1; replace hx316_2 := BD HB.out hx316_2; replace hx316_3 := BD HB.out hx316_3; replace hx316_4 := BD HB.out hx316_4; replace p316 := eq_true p316; replace q316 := eq_true q316))
 go_ret
 exact ⟨by first | (unfold impl_Store_find.PT; rw [if_neg (of_decide_eq_false c6b0)]; rfl) | rfl | (simp [errW_none, errW_some] <;> rfl) | (simp [*, errW_none, errW_some] <;> rfl), BT HB.out⟩


/-! ### impl_InstalledVersions: function 60 -/
mutual
def impl_InstalledVersions.j0 : Nat → Int → Bool → List (List (S76)) → Int → Int → Int → Int → Int → Int → Int → List (S165) → List (S133) → Option ((List (S76)))
 | 0, _, _, _, _, _, _, _, _, _, _, _, _ => none
 | k + 1, x5, x17, x318000, x319000, x319001, x319002, x319003, x319004, x319005, x319006, x319007, x319008 => if x17 = true then (some ([] : List (S76))) else (impl_InstalledVersions.l0 k x5 (([] : List (S76))) 0 x318000 x319000 x319001 x319002 x319003 x319004 x319005 x319006 x319007 x319008)
def impl_InstalledVersions.l0 : Nat → Int → List (S76) → Int → List (List (S76)) → Int → Int → Int → Int → Int → Int → Int → List (S165) → List (S133) → Option ((List (S76)))
 | 0, _, _, _, _, _, _, _, _, _, _, _, _, _ => none
 | k + 1, x5, x6, x19, x318000, x319000, x319001, x319002, x319003, x319004, x319005, x319006, x319007, x319008 => if x19 < 6 then ((impl_Store_find.f k x318000 x19 x5).bind fun t324 => (if t324 = (-1) then (impl_InstalledVersions.l0 k x5 x6 (wrap64 (x19 + 1)) x318000 x319000 x319001 x319002 x319003 x319004 x319005 x319006 x319007 x319008) else (if (rd_T76 (rd_L6 x318000 x19) t324).f0 = x319000 then (if x6.length < 3518437208883 then (impl_InstalledVersions.l0 k x5 (x6 ++ [(⟨(rd_T76 (rd_L6 x318000 x19) t324).f0, (rd_T76 (rd_L6 x318000 x19) t324).f1, (rd_T76 (rd_L6 x318000 x19) t324).f2, (rd_T76 (rd_L6 x318000 x19) t324).f3, (rd_T76 (rd_L6 x318000 x19) t324).f4⟩ : S76)]) (wrap64 (x19 + 1)) x318000 x319000 x319001 x319002 x319003 x319004 x319005 x319006 x319007 x319008) else (none)) else (impl_InstalledVersions.l0 k x5 x6 (wrap64 (x19 + 1)) x318000 x319000 x319001 x319002 x319003 x319004 x319005 x319006 x319007 x319008)))) else (some x6)
end
def impl_InstalledVersions.f (k : Nat) (l0_0 : List (List (S76))) (a1_0 : Int) (a1_1 : Int) (a1_2 : Int) (a1_3 : Int) (a1_4 : Int) (a1_5 : Int) (a1_6 : Int) (l1_7 : List (S165)) (l1_8 : List (S133)) : Option ((List (S76))) := (impl_CommittedStamp.f k a1_0 a1_1 a1_2 a1_3 a1_4 a1_5 a1_6 l1_7 l1_8).bind fun t319 => (if t319 = 0 then (impl_InstalledVersions.j0 k t319 true l0_0 a1_0 a1_1 a1_2 a1_3 a1_4 a1_5 a1_6 l1_7 l1_8) else ((impl_IsValidStore.f k l0_0).bind fun t320 => (impl_InstalledVersions.j0 k t319 (!t320) l0_0 a1_0 a1_1 a1_2 a1_3 a1_4 a1_5 a1_6 l1_7 l1_8)))
theorem impl_InstalledVersions.mono_l : ∀ k, (∀ y0 y1 y2 y3 y4 y5 y6 y7 y8 y9 y10 y11, LeO (impl_InstalledVersions.j0 k y0 y1 y2 y3 y4 y5 y6 y7 y8 y9 y10 y11) (impl_InstalledVersions.j0 (k + 1) y0 y1 y2 y3 y4 y5 y6 y7 y8 y9 y10 y11)) ∧ (∀ y0 y1 y2 y3 y4 y5 y6 y7 y8 y9 y10 y11 y12, LeO (impl_InstalledVersions.l0 k y0 y1 y2 y3 y4 y5 y6 y7 y8 y9 y10 y11 y12) (impl_InstalledVersions.l0 (k + 1) y0 y1 y2 y3 y4 y5 y6 y7 y8 y9 y10 y11 y12))
 | 0 => ⟨fun _ _ _ _ _ _ _ _ _ _ _ _ r h => by simp [impl_InstalledVersions.j0] at h, fun _ _ _ _ _ _ _ _ _ _ _ _ _ r h => by simp [impl_InstalledVersions.l0] at h⟩
 | k + 1 => by
  obtain ⟨ih0, ih1⟩ := impl_InstalledVersions.mono_l k
  refine ⟨?_, ?_⟩
  ·intro y0 y1 y2 y3 y4 y5 y6 y7 y8 y9 y10 y11
   unfold impl_InstalledVersions.j0
   repeat' first
   | (with_reducible exact ih0 _ _ _ _ _ _ _ _ _ _ _ _)
   | (with_reducible exact ih1 _ _ _ _ _ _ _ _ _ _ _ _ _)
   | (with_reducible exact impl_CommittedStamp.mono _ _ _ _ _ _ _ _ _ _)
   | (with_reducible exact impl_IsValidStore.mono _ _)
   | (with_reducible exact impl_Store_find.mono _ _ _ _)
   | (with_reducible exact LeO.refl _)
   | (with_reducible exact LeO.none _)
   | (with_reducible refine LeO.ite ?_ ?_)
   | (with_reducible refine LeO.bind ?_ (fun _ => ?_))
   | exact ih0 _ _ _ _ _ _ _ _ _ _ _ _
   | exact ih1 _ _ _ _ _ _ _ _ _ _ _ _ _
   | exact impl_CommittedStamp.mono _ _ _ _ _ _ _ _ _ _
   | exact impl_IsValidStore.mono _ _
   | exact impl_Store_find.mono _ _ _ _
   | exact LeO.none _
   | refine LeO.ite ?_ ?_
   | refine LeO.bind ?_ (fun _ => ?_)
  ·intro y0 y1 y2 y3 y4 y5 y6 y7 y8 y9 y10 y11 y12
   unfold impl_InstalledVersions.l0
   repeat' first
   | (with_reducible exact ih0 _ _ _ _ _ _ _ _ _ _ _ _)
   | (with_reducible exact ih1 _ _ _ _ _ _ _ _ _ _ _ _ _)
   | (with_reducible exact impl_CommittedStamp.mono _ _ _ _ _ _ _ _ _ _)
   | (with_reducible exact impl_IsValidStore.mono _ _)
   | (with_reducible exact impl_Store_find.mono _ _ _ _)
   | (with_reducible exact LeO.refl _)
   | (with_reducible exact LeO.none _)
   | (with_reducible refine LeO.ite ?_ ?_)
   | (with_reducible refine LeO.bind ?_ (fun _ => ?_))
   | exact ih0 _ _ _ _ _ _ _ _ _ _ _ _
   | exact ih1 _ _ _ _ _ _ _ _ _ _ _ _ _
   | exact impl_CommittedStamp.mono _ _ _ _ _ _ _ _ _ _
   | exact impl_IsValidStore.mono _ _
   | exact impl_Store_find.mono _ _ _ _
   | exact LeO.none _
   | refine LeO.ite ?_ ?_
   | refine LeO.bind ?_ (fun _ => ?_)
theorem impl_InstalledVersions.mono : ∀ a0 a1 a2 a3 a4 a5 a6 a7 a8 a9 k, LeO (impl_InstalledVersions.f k a0 a1 a2 a3 a4 a5 a6 a7 a8 a9) (impl_InstalledVersions.f (k + 1) a0 a1 a2 a3 a4 a5 a6 a7 a8 a9) := by
 intro a0 a1 a2 a3 a4 a5 a6 a7 a8 a9 k
 obtain ⟨ih0, ih1⟩ := impl_InstalledVersions.mono_l k
 unfold impl_InstalledVersions.f
 repeat' first
   | (with_reducible exact ih0 _ _ _ _ _ _ _ _ _ _ _ _)
   | (with_reducible exact ih1 _ _ _ _ _ _ _ _ _ _ _ _ _)
   | (with_reducible exact impl_CommittedStamp.mono _ _ _ _ _ _ _ _ _ _)
   | (with_reducible exact impl_IsValidStore.mono _ _)
   | (with_reducible exact impl_Store_find.mono _ _ _ _)
   | (with_reducible exact LeO.refl _)
   | (with_reducible exact LeO.none _)
   | (with_reducible refine LeO.ite ?_ ?_)
   | (with_reducible refine LeO.bind ?_ (fun _ => ?_))
   | exact ih0 _ _ _ _ _ _ _ _ _ _ _ _
   | exact ih1 _ _ _ _ _ _ _ _ _ _ _ _ _
   | exact impl_CommittedStamp.mono _ _ _ _ _ _ _ _ _ _
   | exact impl_IsValidStore.mono _ _
   | exact impl_Store_find.mono _ _ _ _
   | exact LeO.none _
   | refine LeO.ite ?_ ?_
   | refine LeO.bind ?_ (fun _ => ?_)
set_option maxHeartbeats 8000000 in
set_option maxRecDepth 100000 in
theorem impl_InstalledVersions.calls (k : Nat) (A0_0 : Option Addr) (c0_0 : Nat) (l0_0 : List (List (S76))) (a1_0 : Int) (a1_1 : Int) (a1_2 : Int) (a1_3 : Int) (a1_4 : Int) (a1_5 : Int) (a1_6 : Int) (A1_7 : Option Addr) (c1_7 : Nat) (l1_7 : List (S165)) (A1_8 : Option Addr) (c1_8 : Nat) (l1_8 : List (S133)) (r : List (S76)) (w : World) (hr0_0 : Kd.C (Kd.slice 76 k76) w A0_0 l0_0.length l0_0) (hc0_0 : l0_0.length ≤ c0_0) (hr1_7 : Kd.C k165 w A1_7 l1_7.length l1_7) (hc1_7 : l1_7.length ≤ c1_7) (hr1_8 : Kd.C k133 w A1_8 l1_8.length l1_8) (hc1_8 : l1_8.length ≤ c1_8) (h : impl_InstalledVersions.f k l0_0 a1_0 a1_1 a1_2 a1_3 a1_4 a1_5 a1_6 l1_7 l1_8 = some r) :
  Calls Try.prog 60 #[.agg #[.slice A0_0 l0_0.length c0_0], .agg #[.int .i64 a1_0, .int .i64 a1_1, .int .i64 a1_2, .int .i64 a1_3, .int .i64 a1_4, .int .i64 a1_5, .int .i64 a1_6, .slice A1_7 l1_7.length c1_7, .slice A1_8 l1_8.length c1_8]] w fun e w' => ∃ v0_ : Value, e = .returned (v0_) ∧ Kd.R k76 76 w' w.heap.size (fun _ => True) v0_ r ∧ Below w.heap.size w w' := by
 have hu49 := Try.underlying49
 have hu68 := Try.underlying68
 have hu165 := Try.underlying165
 have hu76 := Try.underlying76
 have HR0_0 := AM_ hr0_0
 have HC0_0 := AM_ hc0_0
 clear hr0_0 hc0_0
 have HR1_7 := AM_ hr1_7
 have HC1_7 := AM_ hc1_7
 clear hr1_7 hc1_7
 have HR1_8 := AM_ hr1_8
 have HC1_8 := AM_ hc1_8
 clear hr1_8 hc1_8
 have HB := AM_ (Below.refl w.heap.size w)
 have H : ((impl_CommittedStamp.f k a1_0 a1_1 a1_2 a1_3 a1_4 a1_5 a1_6 l1_7 l1_8).bind fun t319 => (if t319 = 0 then (impl_InstalledVersions.j0 k t319 true l0_0 a1_0 a1_1 a1_2 a1_3 a1_4 a1_5 a1_6 l1_7 l1_8) else ((impl_IsValidStore.f k l0_0).bind fun t320 => (impl_InstalledVersions.j0 k t319 (!t320) l0_0 a1_0 a1_1 a1_2 a1_3 a1_4 a1_5 a1_6 l1_7 l1_8)))) = some r := h
 clear h
 replace H := Option.bind_eq_some_iff.mp H
 obtain ⟨t319, A30, H⟩ := H
 replace H : (if t319 = 0 then (impl_InstalledVersions.j0 k t319 true l0_0 a1_0 a1_1 a1_2 a1_3 a1_4 a1_5 a1_6 l1_7 l1_8) else ((impl_IsValidStore.f k l0_0).bind fun t320 => (impl_InstalledVersions.j0 k t319 (!t320) l0_0 a1_0 a1_1 a1_2 a1_3 a1_4 a1_5 a1_6 l1_7 l1_8))) = some r := H
 have A3 := AM_ A30
 clear A30
 have HC4 := AM_ H
 clear H
 go_enter Try.func60, Try.ntmps60
 go_upto_region 2 with (first | ((with_reducible refine gate_dst (N := 2) rfl ?_); refine box_event ?hg (N := 2) ?hd (cs := #[.slice A0_0 l0_0.length c0_0]) (t := 49) ?hr ?_; (case hd => rfl); (case hg => rfl); (case hr => first | (go_simp; done) | (go_simp; rfl)); intro gb317 hg w5 hbox hb; have BK317 := AM_ (hbox); have GW317 := AM_ ((GS HB.out hg)); have GE317 := AM_ ((GS HB.out hg)); replace HB := AM_ (below_step (BT HB.out) hb); clear hb hbox hg) | ((with_reducible refine gate_dst (N := 3) rfl ?_); refine box_event ?hg (N := 3) ?hd (cs := #[.int .i64 a1_0, .int .i64 a1_1, .int .i64 a1_2, .int .i64 a1_3, .int .i64 a1_4, .int .i64 a1_5, .int .i64 a1_6, .slice A1_7 l1_7.length c1_7, .slice A1_8 l1_8.length c1_8]) (t := 68) ?hr ?_; (case hd => rfl); (case hg => rfl); (case hr => first | (go_simp; done) | (go_simp; rfl)); intro gb318 hg w6 hbox hb; have BK318 := AM_ (hbox); have GW318 := AM_ ((GS HB.out hg)); have GE318 := AM_ ((GS HB.out hg)); replace HB := AM_ (below_step (BT HB.out) hb); have NB317_318 := AM_ ((NL BK317.out hg)); have NB318_317 := AM_ ((NG BK317.out hg)); replace BK317 := AM_ (BB BK317.out hb); clear hb hbox hg; have hnb7 := NB318_317.out; have hnc7 := NB317_318.out; obtain ⟨hcz8_0, hcz8_1, hcz8_2, hcz8_3, hcz8_4, hcz8_5, hcz8_6, hcz8_7, hcz8_8, hfz8_0, hfz8_1, hfz8_2, hfz8_3, hfz8_4, hfz8_5, hfz8_6, hfz8_7, hfz8_8⟩ := bk9 BK318.out) | (go_at_call 142; (with_reducible refine (impl_CommittedStamp.calls k a1_0 a1_1 a1_2 a1_3 a1_4 a1_5 a1_6 _ _ l1_7 _ _ l1_8 t319 _ ?side1 ?side2 ?side3 ?side4 A3.out).mono ?_); (case side1 => exact CB HR1_7.out HB.out); (case side2 => exact HC1_7.out); (case side3 => exact CB HR1_8.out HB.out); (case side4 => exact HC1_8.out); rintro e w9 ⟨rfl, hb⟩; replace BK317 := AM_ (BB BK317.out hb); replace BK318 := AM_ (BB BK318.out hb); replace HB := AM_ (below_step (BT HB.out) hb); (try clear hb); (try clear hb2); (try clear hk); (try clear hi)))
 repeat (go_quiet (first | ((with_reducible refine gate_dst (N := 2) rfl ?_); refine box_event ?hg (N := 2) ?hd (cs := #[.slice A0_0 l0_0.length c0_0]) (t := 49) ?hr ?_; (case hd => rfl); (case hg => rfl); (case hr => first | (go_simp; done) | (go_simp; rfl)); intro gb317 hg w5 hbox hb; have BK317 := AM_ (hbox); have GW317 := AM_ ((GS HB.out hg)); have GE317 := AM_ ((GS HB.out hg)); replace HB := AM_ (below_step (BT HB.out) hb); clear hb hbox hg) | ((with_reducible refine gate_dst (N := 3) rfl ?_); refine box_event ?hg (N := 3) ?hd (cs := #[.int .i64 a1_0, .int .i64 a1_1, .int .i64 a1_2, .int .i64 a1_3, .int .i64 a1_4, .int .i64 a1_5, .int .i64 a1_6, .slice A1_7 l1_7.length c1_7, .slice A1_8 l1_8.length c1_8]) (t := 68) ?hr ?_; (case hd => rfl); (case hg => rfl); (case hr => first | (go_simp; done) | (go_simp; rfl)); intro gb318 hg w6 hbox hb; have BK318 := AM_ (hbox); have GW318 := AM_ ((GS HB.out hg)); have GE318 := AM_ ((GS HB.out hg)); replace HB := AM_ (below_step (BT HB.out) hb); have NB317_318 := AM_ ((NL BK317.out hg)); have NB318_317 := AM_ ((NG BK317.out hg)); replace BK317 := AM_ (BB BK317.out hb); clear hb hbox hg; have hnb7 := NB318_317.out; have hnc7 := NB317_318.out; obtain ⟨hcz8_0, hcz8_1, hcz8_2, hcz8_3, hcz8_4, hcz8_5, hcz8_6, hcz8_7, hcz8_8, hfz8_0, hfz8_1, hfz8_2, hfz8_3, hfz8_4, hfz8_5, hfz8_6, hfz8_7, hfz8_8⟩ := bk9 BK318.out) | (go_at_call 142; (with_reducible refine (impl_CommittedStamp.calls k a1_0 a1_1 a1_2 a1_3 a1_4 a1_5 a1_6 _ _ l1_7 _ _ l1_8 t319 _ ?side1 ?side2 ?side3 ?side4 A3.out).mono ?_); (case side1 => exact CB HR1_7.out HB.out); (case side2 => exact HC1_7.out); (case side3 => exact CB HR1_8.out HB.out); (case side4 => exact HC1_8.out); rintro e w9 ⟨rfl, hb⟩; replace BK317 := AM_ (BB BK317.out hb); replace BK318 := AM_ (BB BK318.out hb); replace HB := AM_ (below_step (BT HB.out) hb); (try clear hb); (try clear hb2); (try clear hk); (try clear hi))); go_upto_region 2 with (first | ((with_reducible refine gate_dst (N := 2) rfl ?_); refine box_event ?hg (N := 2) ?hd (cs := #[.slice A0_0 l0_0.length c0_0]) (t := 49) ?hr ?_; (case hd => rfl); (case hg => rfl); (case hr => first | (go_simp; done) | (go_simp; rfl)); intro gb317 hg w5 hbox hb; have BK317 := AM_ (hbox); have GW317 := AM_ ((GS HB.out hg)); have GE317 := AM_ ((GS HB.out hg)); replace HB := AM_ (below_step (BT HB.out) hb); clear hb hbox hg) | ((with_reducible refine gate_dst (N := 3) rfl ?_); refine box_event ?hg (N := 3) ?hd (cs := #[.int .i64 a1_0, .int .i64 a1_1, .int .i64 a1_2, .int .i64 a1_3, .int .i64 a1_4, .int .i64 a1_5, .int .i64 a1_6, .slice A1_7 l1_7.length c1_7, .slice A1_8 l1_8.length c1_8]) (t := 68) ?hr ?_; (case hd => rfl); (case hg => rfl); (case hr => first | (go_simp; done) | (go_simp; rfl)); intro gb318 hg w6 hbox hb; have BK318 := AM_ (hbox); have GW318 := AM_ ((GS HB.out hg)); have GE318 := AM_ ((GS HB.out hg)); replace HB := AM_ (below_step (BT HB.out) hb); have NB317_318 := AM_ ((NL BK317.out hg)); have NB318_317 := AM_ ((NG BK317.out hg)); replace BK317 := AM_ (BB BK317.out hb); clear hb hbox hg; have hnb7 := NB318_317.out; have hnc7 := NB317_318.out; obtain ⟨hcz8_0, hcz8_1, hcz8_2, hcz8_3, hcz8_4, hcz8_5, hcz8_6, hcz8_7, hcz8_8, hfz8_0, hfz8_1, hfz8_2, hfz8_3, hfz8_4, hfz8_5, hfz8_6, hfz8_7, hfz8_8⟩ := bk9 BK318.out) | (go_at_call 142; (with_reducible refine (impl_CommittedStamp.calls k a1_0 a1_1 a1_2 a1_3 a1_4 a1_5 a1_6 _ _ l1_7 _ _ l1_8 t319 _ ?side1 ?side2 ?side3 ?side4 A3.out).mono ?_); (case side1 => exact CB HR1_7.out HB.out); (case side2 => exact HC1_7.out); (case side3 => exact CB HR1_8.out HB.out); (case side4 => exact HC1_8.out); rintro e w9 ⟨rfl, hb⟩; replace BK317 := AM_ (BB BK317.out hb); replace BK318 := AM_ (BB BK318.out hb); replace HB := AM_ (below_step (BT HB.out) hb); (try clear hb); (try clear hb2); (try clear hk); (try clear hi))))
 (try simp only [pA, pS, pZ, pK])
 go_cut [17] (fun v17 wc => ∃ (kq : Nat) (x17_3 : Bool), v17 = .bool x17_3 ∧ Aside0 (impl_InstalledVersions.j0 kq t319 x17_3 l0_0 a1_0 a1_1 a1_2 a1_3 a1_4 a1_5 a1_6 l1_7 l1_8 = some r) ∧ Aside0 (kq ≤ k) ∧ Aside0 (wc.heap[gb317]? = some (.cells #[(.slice A0_0 l0_0.length c0_0)] 49 (0, 0))) ∧ Aside0 (wc.heap[gb318]? = some (.cells #[.int .i64 a1_0, .int .i64 a1_1, .int .i64 a1_2, .int .i64 a1_3, .int .i64 a1_4, .int .i64 a1_5, .int .i64 a1_6, (.slice A1_7 l1_7.length c1_7), (.slice A1_8 l1_8.length c1_8)] 68 (0, 0))) ∧ Aside0 (Below w.heap.size w wc))
 case first =>
  have H := HC4.out
  clear HC4
  by_cases c10 : t319 = 0
  ·rw [if_pos c10] at H
   have c10b0 : (t319 == 0) = true := beq_iff_eq.mpr c10
   have c10b1 : (t319 != 0) = false := bne_eq_false_iff_eq.mpr c10
   clear c10
   (first | rw [c10b0] | (simp only [i64_w, i32_w]; rw [c10b0]) | skip)
   have H' := AM_ H
   clear H
   go_wp2
   repeat (go_quiet (fail); try go_wp2)
   go_meet
   case rel => exact ⟨_, (true), (by first | rfl | (simp; done) | (simp [*]; done)), H', ⟨by first | omega | exact Nat.le_refl _⟩, ⟨BH BK317.out⟩, ⟨BH BK318.out⟩, ⟨BT HB.out⟩⟩
  rw [if_neg c10] at H
  have c10b0 : (t319 == 0) = false := beq_eq_false_iff_ne.mpr c10
  have c10b1 : (t319 != 0) = true := bne_iff_ne.mpr c10
  (first | rw [c10b0] | (simp only [i64_w, i32_w]; rw [c10b0]) | skip)
  replace H := Option.bind_eq_some_iff.mp H
  obtain ⟨t320, A110, H⟩ := H
  replace H : (impl_InstalledVersions.j0 k t319 (!t320) l0_0 a1_0 a1_1 a1_2 a1_3 a1_4 a1_5 a1_6 l1_7 l1_8) = some r := H
  have A11 := AM_ A110
  clear A110
  have H' := AM_ H
  clear H
  have hnb12 := NB317_318.out
  have hnc12 := NB318_317.out
  obtain ⟨hcz13_0, hfz13_0⟩ := bk1 BK317.out
  go_wp2_with (first | (go_at_call 104; (with_reducible refine (impl_IsValidStore.calls k _ _ l0_0 t320 _ ?side1 ?side2 A11.out).mono ?_); (case side1 => exact CB HR0_0.out HB.out); (case side2 => exact HC0_0.out); rintro e w14 ⟨rfl, hb⟩; replace BK317 := AM_ (BB BK317.out hb); replace BK318 := AM_ (BB BK318.out hb); replace HB := AM_ (below_step (BT HB.out) hb); (try clear hb); (try clear hb2); (try clear hk); (try clear hi)))
  repeat (go_quiet (first | (go_at_call 104; (with_reducible refine (impl_IsValidStore.calls k _ _ l0_0 t320 _ ?side1 ?side2 A11.out).mono ?_); (case side1 => exact CB HR0_0.out HB.out); (case side2 => exact HC0_0.out); rintro e w14 ⟨rfl, hb⟩; replace BK317 := AM_ (BB BK317.out hb); replace BK318 := AM_ (BB BK318.out hb); replace HB := AM_ (below_step (BT HB.out) hb); (try clear hb); (try clear hb2); (try clear hk); (try clear hi))); try go_wp2_with (first | (go_at_call 104; (with_reducible refine (impl_IsValidStore.calls k _ _ l0_0 t320 _ ?side1 ?side2 A11.out).mono ?_); (case side1 => exact CB HR0_0.out HB.out); (case side2 => exact HC0_0.out); rintro e w14 ⟨rfl, hb⟩; replace BK317 := AM_ (BB BK317.out hb); replace BK318 := AM_ (BB BK318.out hb); replace HB := AM_ (below_step (BT HB.out) hb); (try clear hb); (try clear hb2); (try clear hk); (try clear hi))))
  go_meet
  case rel => exact ⟨_, (!t320), (by first | rfl | (simp; done) | (simp [*]; done)), H', ⟨by first | omega | exact Nat.le_refl _⟩, ⟨BH BK317.out⟩, ⟨BH BK318.out⟩, ⟨BT HB.out⟩⟩
 case rest =>
  clear HC4
  try clear c1
  try clear p2
  try clear c6
  try clear c7
  try clear c10
  try clear c10b0
  try clear c10b1
  try clear c12
  try clear hcz13_0
  try clear hcz8_0
  try clear hcz8_1
  try clear hcz8_2
  try clear hcz8_3
  try clear hcz8_4
  try clear hcz8_5
  try clear hcz8_6
  try clear hcz8_7
  try clear hcz8_8
  try clear hfz13_0
  try clear hfz8_0
  try clear hfz8_1
  try clear hfz8_2
  try clear hfz8_3
  try clear hfz8_4
  try clear hfz8_5
  try clear hfz8_6
  try clear hfz8_7
  try clear hfz8_8
  obtain ⟨kq, x17_3, rfl, HA, HJ3, BK317, BK318, HB⟩ := hcut
  cases kq with
  | zero => exact absurd HA.out (by simp [impl_InstalledVersions.j0])
  | succ kj3 =>
   have H := HA.out
   clear HA
   simp only [impl_InstalledVersions.j0] at H
   by_cases c15 : x17_3 = true
   ·subst c15
    have H1 : (some ([] : List (S76))) = some r := by rw [if_pos rfl] at H; exact H
    clear H
    have H := H1
    clear H1
    obtain rfl := Option.some.inj H
    go_wp2
    repeat (go_quiet (fail); try go_wp2)
    go_ret
    exact ⟨_, by first | rfl | (simp [errW_none, errW_some] <;> rfl) | (simp [*, errW_none, errW_some] <;> rfl), by first | exact Kd.R_nil _ _ _ _ _ | exact Kd.N_nil _ _ _ _ _ | exact Kd.V_nil _ _ _ _ _ | exact Kd.Q_nil _ _ _ _ _ | exact Kd.S_nil _ _ _ _ _, BT HB.out⟩
   replace c15 := Bool.eq_false_iff.mpr c15
   subst c15
   have H1 : (impl_InstalledVersions.l0 kj3 t319 (([] : List (S76))) 0 l0_0 a1_0 a1_1 a1_2 a1_3 a1_4 a1_5 a1_6 l1_7 l1_8) = some r := by rw [if_neg (show ¬ (false = true) by decide)] at H; exact H
   clear H
   have H := H1
   clear H1
   obtain ⟨y321, hy321⟩ : ∃ y_ : List (S76), y_ = (([] : List (S76))) := ⟨_, rfl⟩
   replace H : (impl_InstalledVersions.l0 kj3 t319 y321 0 l0_0 a1_0 a1_1 a1_2 a1_3 a1_4 a1_5 a1_6 l1_7 l1_8) = some r := by first | (rw [hy321]; with_reducible exact H) | (have H2_ := (Option.bind_some _ _).symm.trans H; rw [hy321]; with_reducible exact H2_) | (have H2_ := (Option.bind_some _ _).symm.trans H; with_reducible exact H2_) | with_reducible exact H | (rw [hy321]; exact H) | exact H
   have Ny321 := AM_ hy321
   clear hy321
   have H' := AM_ H
   clear H
   go_wp2_with (first | ((with_reducible refine gate_dst (N := 18) rfl ?_); refine Kd.R_lit k76 _ 76 ?hg (N := 18) ?hd (xs := ([] : List (S76))) (inner := []) (ok := fun _ => True) (okp := fun _ => True) ?hr ?hp (fun _ hk => hk) trivial (Below.refl _ _) (Nat.le_refl _) (by simp) ?_; (case hd => rfl); (case hg => rfl); (case hr => first | (go_simp; done) | (go_simp; rfl)); (case hp => exact (Reps.none _ _)); intro v322 w16 ho17 hb hg_ hnew_; clear hg_ hnew_; (first | rw [← Ny321.out] at ho17 | (simp only [Int.reduceToNat] at ho17; rw [← Ny321.out] at ho17)); have HO323 := AM_ (Kd.R_lower ho17 (below_size (BT HB.out))); replace BK317 := AM_ (BB BK317.out hb); replace BK318 := AM_ (BB BK318.out hb); replace HB := AM_ (below_step (BT HB.out) hb); clear hb ho17))
   repeat (go_quiet (first | ((with_reducible refine gate_dst (N := 18) rfl ?_); refine Kd.R_lit k76 _ 76 ?hg (N := 18) ?hd (xs := ([] : List (S76))) (inner := []) (ok := fun _ => True) (okp := fun _ => True) ?hr ?hp (fun _ hk => hk) trivial (Below.refl _ _) (Nat.le_refl _) (by simp) ?_; (case hd => rfl); (case hg => rfl); (case hr => first | (go_simp; done) | (go_simp; rfl)); (case hp => exact (Reps.none _ _)); intro v322 w16 ho17 hb hg_ hnew_; clear hg_ hnew_; (first | rw [← Ny321.out] at ho17 | (simp only [Int.reduceToNat] at ho17; rw [← Ny321.out] at ho17)); have HO323 := AM_ (Kd.R_lower ho17 (below_size (BT HB.out))); replace BK317 := AM_ (BB BK317.out hb); replace BK318 := AM_ (BB BK318.out hb); replace HB := AM_ (below_step (BT HB.out) hb); clear hb ho17)); try go_wp2_with (first | ((with_reducible refine gate_dst (N := 18) rfl ?_); refine Kd.R_lit k76 _ 76 ?hg (N := 18) ?hd (xs := ([] : List (S76))) (inner := []) (ok := fun _ => True) (okp := fun _ => True) ?hr ?hp (fun _ hk => hk) trivial (Below.refl _ _) (Nat.le_refl _) (by simp) ?_; (case hd => rfl); (case hg => rfl); (case hr => first | (go_simp; done) | (go_simp; rfl)); (case hp => exact (Reps.none _ _)); intro v322 w16 ho17 hb hg_ hnew_; clear hg_ hnew_; (first | rw [← Ny321.out] at ho17 | (simp only [Int.reduceToNat] at ho17; rw [← Ny321.out] at ho17)); have HO323 := AM_ (Kd.R_lower ho17 (below_size (BT HB.out))); replace BK317 := AM_ (BB BK317.out hb); replace BK318 := AM_ (BB BK318.out hb); replace HB := AM_ (below_step (BT HB.out) hb); clear hb ho17)))
   go_loopg [6, 19] kj3 (fun kq v6 v19 w' => ∃ (x6_2 : List (S76)) (x19_2 : Int), v19 = .int .i64 x19_2 ∧ Aside0 (impl_InstalledVersions.l0 kq t319 x6_2 x19_2 l0_0 a1_0 a1_1 a1_2 a1_3 a1_4 a1_5 a1_6 l1_7 l1_8 = some r) ∧ Aside0 (kq ≤ kj3) ∧ Aside0 (Kd.R k76 76 w' w.heap.size (fun _ => True) v6 x6_2) ∧ Aside0 (w'.heap[gb317]? = some (.cells #[(.slice A0_0 l0_0.length c0_0)] 49 (0, 0))) ∧ Aside0 (w'.heap[gb318]? = some (.cells #[.int .i64 a1_0, .int .i64 a1_1, .int .i64 a1_2, .int .i64 a1_3, .int .i64 a1_4, .int .i64 a1_5, .int .i64 a1_6, (.slice A1_7 l1_7.length c1_7), (.slice A1_8 l1_8.length c1_8)] 68 (0, 0))) ∧ Aside0 (Below w.heap.size w w'))
   case atStart => exact ⟨(y321), (0), (by first | rfl | (simp; done) | (simp [*]; done)), H', ⟨Nat.le_refl _⟩, ⟨RT HO323.out⟩, ⟨BH BK317.out⟩, ⟨BH BK318.out⟩, ⟨BT HB.out⟩⟩
   case round =>
    clear H'
    try clear c1
    try clear p2
    try clear c6
    try clear c7
    try clear c10
    try clear c10b0
    try clear c10b1
    try clear c12
    try clear c15
    try clear hcz13_0
    try clear hcz8_0
    try clear hcz8_1
    try clear hcz8_2
    try clear hcz8_3
    try clear hcz8_4
    try clear hcz8_5
    try clear hcz8_6
    try clear hcz8_7
    try clear hcz8_8
    try clear hfz13_0
    try clear hfz8_0
    try clear hfz8_1
    try clear hfz8_2
    try clear hfz8_3
    try clear hfz8_4
    try clear hfz8_5
    try clear hfz8_6
    try clear hfz8_7
    try clear hfz8_8
    try clear p2
    obtain ⟨x6_2, x19_2, rfl, HA, HK2, HO_6, BK317, BK318, HB⟩ := hrel
    cases gk with
    | zero => exact absurd HA.out (by simp [impl_InstalledVersions.l0])
    | succ k2 =>
     have H := HA.out
     clear HA
     simp only [impl_InstalledVersions.l0] at H
     by_cases c18 : x19_2 < 6
     rotate_left
     ·rw [if_neg c18] at H
      have c18b0 : decide (x19_2 < 6) = false := decide_eq_false c18
      clear c18
      obtain rfl := Option.some.inj H
      go_wp2
      repeat (go_quiet (fail); try go_wp2)
      go_ret
      exact ⟨_, by first | rfl | (simp [errW_none, errW_some] <;> rfl) | (simp [*, errW_none, errW_some] <;> rfl), RT HO_6.out, BT HB.out⟩
     rw [if_pos c18] at H
     have c18b0 : decide (x19_2 < 6) = true := decide_eq_true c18
     clear c18
     replace H := Option.bind_eq_some_iff.mp H
     obtain ⟨t324, A190, H⟩ := H
     replace H : (if t324 = (-1) then (impl_InstalledVersions.l0 k2 t319 x6_2 (wrap64 (x19_2 + 1)) l0_0 a1_0 a1_1 a1_2 a1_3 a1_4 a1_5 a1_6 l1_7 l1_8) else (if (rd_T76 (rd_L6 l0_0 x19_2) t324).f0 = a1_0 then (if x6_2.length < 3518437208883 then (impl_InstalledVersions.l0 k2 t319 (x6_2 ++ [(⟨(rd_T76 (rd_L6 l0_0 x19_2) t324).f0, (rd_T76 (rd_L6 l0_0 x19_2) t324).f1, (rd_T76 (rd_L6 l0_0 x19_2) t324).f2, (rd_T76 (rd_L6 l0_0 x19_2) t324).f3, (rd_T76 (rd_L6 l0_0 x19_2) t324).f4⟩ : S76)]) (wrap64 (x19_2 + 1)) l0_0 a1_0 a1_1 a1_2 a1_3 a1_4 a1_5 a1_6 l1_7 l1_8) else (none)) else (impl_InstalledVersions.l0 k2 t319 x6_2 (wrap64 (x19_2 + 1)) l0_0 a1_0 a1_1 a1_2 a1_3 a1_4 a1_5 a1_6 l1_7 l1_8))) = some r := H
     have A19 := AM_ A190
     clear A190
     obtain ⟨q3, q4, adO, AI, cI, eA, hx0, hl0, hi0, hor⟩ := impl_Store_find_at HR0_0.out A19.out
     subst eA
     have Q3 := AM_ q3
     have Q4 := AM_ q4
     have HX0 := AM_ hx0
     have HL0 := AM_ hl0
     have HI0 := AM_ hi0
     clear q3 q4 hx0 hl0 hi0
     by_cases c20 : t324 = (-1)
     ·rw [if_pos c20] at H
      have c20b0 : (t324 == (-1)) = true := beq_iff_eq.mpr c20
      have c20b1 : (t324 != (-1)) = false := bne_eq_false_iff_eq.mpr c20
      have PTE := AM_ (show impl_Store_find.PT AI t324 = none by rw [c20]; rfl)
      clear c20
      have H' := AM_ H
      clear H
      have hnb21 := NB317_318.out
      have hnc21 := NB318_317.out
      obtain ⟨hcz22_0, hfz22_0⟩ := bk1 BK317.out
      go_wp2_with (first | (go_at_call 143; (with_reducible refine (impl_Store_find.calls k2 adO c0_0 l0_0 AI cI x19_2 t319 t324 _ ?side1 ?side2 HL0.out A19.out).mono ?_); (case side1 => exact (HB.out.cell (World.block_lt_of_cell? w _ HX0.out)).trans HX0.out); (case side2 => exact CB HI0.out HB.out); rintro e w23 ⟨he, hb⟩; rw [PTE.out] at he; subst he; replace HO_6 := AM_ (Kd.R_below (RT HO_6.out) hb); replace BK317 := AM_ (BB BK317.out hb); replace BK318 := AM_ (BB BK318.out hb); replace HB := AM_ (below_step (BT HB.out) hb); (try clear hb); (try clear hb2); (try clear hk); (try clear hi)))
      repeat (go_quiet (first | (go_at_call 143; (with_reducible refine (impl_Store_find.calls k2 adO c0_0 l0_0 AI cI x19_2 t319 t324 _ ?side1 ?side2 HL0.out A19.out).mono ?_); (case side1 => exact (HB.out.cell (World.block_lt_of_cell? w _ HX0.out)).trans HX0.out); (case side2 => exact CB HI0.out HB.out); rintro e w23 ⟨he, hb⟩; rw [PTE.out] at he; subst he; replace HO_6 := AM_ (Kd.R_below (RT HO_6.out) hb); replace BK317 := AM_ (BB BK317.out hb); replace BK318 := AM_ (BB BK318.out hb); replace HB := AM_ (below_step (BT HB.out) hb); (try clear hb); (try clear hb2); (try clear hk); (try clear hi))); try go_wp2_with (first | (go_at_call 143; (with_reducible refine (impl_Store_find.calls k2 adO c0_0 l0_0 AI cI x19_2 t319 t324 _ ?side1 ?side2 HL0.out A19.out).mono ?_); (case side1 => exact CB HR0_0.out HB.out); (case side2 => exact HC0_0.out); rintro e w23 ⟨rfl, hb⟩; replace HO_6 := AM_ (Kd.R_below (RT HO_6.out) hb); replace BK317 := AM_ (BB BK317.out hb); replace BK318 := AM_ (BB BK318.out hb); replace HB := AM_ (below_step (BT HB.out) hb); (try clear hb); (try clear hb2); (try clear hk); (try clear hi))))
      go_roundg k2
      case measure => have := HJ3.out; have := HK2.out; omega
      case rel => exact ⟨(x6_2), (wrap64 (x19_2 + 1)), (by first | rfl | (simp; done) | (simp [*]; done)), H', ⟨by have := HJ3.out; have := HK2.out; omega⟩, ⟨RT HO_6.out⟩, ⟨BH BK317.out⟩, ⟨BH BK318.out⟩, ⟨BT HB.out⟩⟩
     rw [if_neg c20] at H
     obtain ⟨hr0, adI, eI, hy0, hy1, hy2, hy3, hy4⟩ := hor c20
     subst eI
     have PTE := AM_ (show impl_Store_find.PT (some adI) t324 = some (adI.add (t324.toNat * 5)) by unfold impl_Store_find.PT; rw [if_neg (by omega)]; rfl)
     have HY0 := AM_ hy0
     have HY1 := AM_ hy1
     have HY2 := AM_ hy2
     have HY3 := AM_ hy3
     have HY4 := AM_ hy4
     clear hr0 hy0 hy1 hy2 hy3 hy4 hor
     have c20b0 : (t324 == (-1)) = false := beq_eq_false_iff_ne.mpr c20
     have c20b1 : (t324 != (-1)) = true := bne_iff_ne.mpr c20
     by_cases c24 : (rd_T76 (rd_L6 l0_0 x19_2) t324).f0 = a1_0
     rotate_left
     ·rw [if_neg c24] at H
      have c24b0 : ((rd_T76 (rd_L6 l0_0 x19_2) t324).f0 == a1_0) = false := beq_eq_false_iff_ne.mpr c24
      have c24b1 : ((rd_T76 (rd_L6 l0_0 x19_2) t324).f0 != a1_0) = true := bne_iff_ne.mpr c24
      have H' := AM_ H
      clear H
      have hnb31 := NB317_318.out
      have hnc31 := NB318_317.out
      obtain ⟨hcz32_0, hfz32_0⟩ := bk1 BK317.out
      go_wp2_with (first | (go_at_call 143; (with_reducible refine (impl_Store_find.calls k2 adO c0_0 l0_0 (some adI) cI x19_2 t319 t324 _ ?side1 ?side2 HL0.out A19.out).mono ?_); (case side1 => exact (HB.out.cell (World.block_lt_of_cell? w _ HX0.out)).trans HX0.out); (case side2 => exact CB HI0.out HB.out); rintro e w33 ⟨he, hb⟩; rw [PTE.out] at he; subst he; replace HO_6 := AM_ (Kd.R_below (RT HO_6.out) hb); replace BK317 := AM_ (BB BK317.out hb); replace BK318 := AM_ (BB BK318.out hb); replace HB := AM_ (below_step (BT HB.out) hb); (try clear hb); (try clear hb2); (try clear hk); (try clear hi); have hy0 := (HB.out.cell (World.block_lt_of_cell? w _ HY0.out)).trans HY0.out; have hy1 := (HB.out.cell (World.block_lt_of_cell? w _ HY1.out)).trans HY1.out; have hy2 := (HB.out.cell (World.block_lt_of_cell? w _ HY2.out)).trans HY2.out; have hy3 := (HB.out.cell (World.block_lt_of_cell? w _ HY3.out)).trans HY3.out; have hy4 := (HB.out.cell (World.block_lt_of_cell? w _ HY4.out)).trans HY4.out; obtain ⟨hcz34_0, hcz34_1, hcz34_2, hcz34_3, hcz34_4, hcz34_5, hcz34_6, hcz34_7, hcz34_8, hfz34_0, hfz34_1, hfz34_2, hfz34_3, hfz34_4, hfz34_5, hfz34_6, hfz34_7, hfz34_8⟩ := bk9 BK318.out))
      repeat (go_quiet (first | (go_at_call 143; (with_reducible refine (impl_Store_find.calls k2 adO c0_0 l0_0 (some adI) cI x19_2 t319 t324 _ ?side1 ?side2 HL0.out A19.out).mono ?_); (case side1 => exact (HB.out.cell (World.block_lt_of_cell? w _ HX0.out)).trans HX0.out); (case side2 => exact CB HI0.out HB.out); rintro e w33 ⟨he, hb⟩; rw [PTE.out] at he; subst he; replace HO_6 := AM_ (Kd.R_below (RT HO_6.out) hb); replace BK317 := AM_ (BB BK317.out hb); replace BK318 := AM_ (BB BK318.out hb); replace HB := AM_ (below_step (BT HB.out) hb); (try clear hb); (try clear hb2); (try clear hk); (try clear hi); have hy0 := (HB.out.cell (World.block_lt_of_cell? w _ HY0.out)).trans HY0.out; have hy1 := (HB.out.cell (World.block_lt_of_cell? w _ HY1.out)).trans HY1.out; have hy2 := (HB.out.cell (World.block_lt_of_cell? w _ HY2.out)).trans HY2.out; have hy3 := (HB.out.cell (World.block_lt_of_cell? w _ HY3.out)).trans HY3.out; have hy4 := (HB.out.cell (World.block_lt_of_cell? w _ HY4.out)).trans HY4.out; obtain ⟨hcz34_0, hcz34_1, hcz34_2, hcz34_3, hcz34_4, hcz34_5, hcz34_6, hcz34_7, hcz34_8, hfz34_0, hfz34_1, hfz34_2, hfz34_3, hfz34_4, hfz34_5, hfz34_6, hfz34_7, hfz34_8⟩ := bk9 BK318.out)); try go_wp2_with (first | (go_at_call 143; (with_reducible refine (impl_Store_find.calls k2 adO c0_0 l0_0 (some adI) cI x19_2 t319 t324 _ ?side1 ?side2 HL0.out A19.out).mono ?_); (case side1 => exact CB HR0_0.out HB.out); (case side2 => exact HC0_0.out); rintro e w33 ⟨rfl, hb⟩; replace HO_6 := AM_ (Kd.R_below (RT HO_6.out) hb); replace BK317 := AM_ (BB BK317.out hb); replace BK318 := AM_ (BB BK318.out hb); replace HB := AM_ (below_step (BT HB.out) hb); (try clear hb); (try clear hb2); (try clear hk); (try clear hi); obtain ⟨hcz34_0, hcz34_1, hcz34_2, hcz34_3, hcz34_4, hcz34_5, hcz34_6, hcz34_7, hcz34_8, hfz34_0, hfz34_1, hfz34_2, hfz34_3, hfz34_4, hfz34_5, hfz34_6, hfz34_7, hfz34_8⟩ := bk9 BK318.out)))
      go_roundg k2
      case measure => have := HJ3.out; have := HK2.out; omega
      case rel => exact ⟨(x6_2), (wrap64 (x19_2 + 1)), (by first | rfl | (simp; done) | (simp [*]; done)), H', ⟨by have := HJ3.out; have := HK2.out; omega⟩, ⟨RT HO_6.out⟩, ⟨BH BK317.out⟩, ⟨BH BK318.out⟩, ⟨BT HB.out⟩⟩
     rw [if_pos c24] at H
     have c24b0 : ((rd_T76 (rd_L6 l0_0 x19_2) t324).f0 == a1_0) = true := beq_iff_eq.mpr c24
     have c24b1 : ((rd_T76 (rd_L6 l0_0 x19_2) t324).f0 != a1_0) = false := bne_eq_false_iff_eq.mpr c24
     clear c24
     by_cases c25 : x6_2.length < 3518437208883
     rotate_left
     ·rw [if_neg c25] at H
      exact absurd H (by simp)
     rw [if_pos c25] at H
     have LMc25 := AM_ c25
     clear c25
     obtain ⟨y325, hy325⟩ : ∃ y_ : List (S76), y_ = (x6_2 ++ [(⟨(rd_T76 (rd_L6 l0_0 x19_2) t324).f0, (rd_T76 (rd_L6 l0_0 x19_2) t324).f1, (rd_T76 (rd_L6 l0_0 x19_2) t324).f2, (rd_T76 (rd_L6 l0_0 x19_2) t324).f3, (rd_T76 (rd_L6 l0_0 x19_2) t324).f4⟩ : S76)]) := ⟨_, rfl⟩
     replace H : (impl_InstalledVersions.l0 k2 t319 y325 (wrap64 (x19_2 + 1)) l0_0 a1_0 a1_1 a1_2 a1_3 a1_4 a1_5 a1_6 l1_7 l1_8) = some r := by first | (rw [hy325]; with_reducible exact H) | (have H2_ := (Option.bind_some _ _).symm.trans H; rw [hy325]; with_reducible exact H2_) | (have H2_ := (Option.bind_some _ _).symm.trans H; with_reducible exact H2_) | with_reducible exact H | (rw [hy325]; exact H) | exact H
     have Ny325 := AM_ hy325
     clear hy325
     have H' := AM_ H
     clear H
     have hnb26 := NB317_318.out
     have hnc26 := NB318_317.out
     obtain ⟨hcz27_0, hfz27_0⟩ := bk1 BK317.out
     go_wp2_with (first | (go_at_call 143; (with_reducible refine (impl_Store_find.calls k2 adO c0_0 l0_0 (some adI) cI x19_2 t319 t324 _ ?side1 ?side2 HL0.out A19.out).mono ?_); (case side1 => exact (HB.out.cell (World.block_lt_of_cell? w _ HX0.out)).trans HX0.out); (case side2 => exact CB HI0.out HB.out); rintro e w28 ⟨he, hb⟩; rw [PTE.out] at he; subst he; replace HO_6 := AM_ (Kd.R_below (RT HO_6.out) hb); replace BK317 := AM_ (BB BK317.out hb); replace BK318 := AM_ (BB BK318.out hb); replace HB := AM_ (below_step (BT HB.out) hb); (try clear hb); (try clear hb2); (try clear hk); (try clear hi); have hy0 := (HB.out.cell (World.block_lt_of_cell? w _ HY0.out)).trans HY0.out; have hy1 := (HB.out.cell (World.block_lt_of_cell? w _ HY1.out)).trans HY1.out; have hy2 := (HB.out.cell (World.block_lt_of_cell? w _ HY2.out)).trans HY2.out; have hy3 := (HB.out.cell (World.block_lt_of_cell? w _ HY3.out)).trans HY3.out; have hy4 := (HB.out.cell (World.block_lt_of_cell? w _ HY4.out)).trans HY4.out; obtain ⟨hcz29_0, hcz29_1, hcz29_2, hcz29_3, hcz29_4, hcz29_5, hcz29_6, hcz29_7, hcz29_8, hfz29_0, hfz29_1, hfz29_2, hfz29_3, hfz29_4, hfz29_5, hfz29_6, hfz29_7, hfz29_8⟩ := bk9 BK318.out) | ((with_reducible refine gate_builtin (b := .append) (xs := #[.tmp 38, .tmp 42]) rfl ?_); at_builtin; refine Kd.R_append k76 (w0 := w) w.heap.size rfl (.tmp 38) (.tmp 42) 90 76 (.agg #[(.int .i64 0), (.int .i64 0), (.int .i64 0), (.int .i64 0), (.int .i64 0)]) 40 rfl Try.underlying90 info76 rfl (by decide) (by omega) u6 x6_2 (⟨(rd_T76 (rd_L6 l0_0 x19_2) t324).f0, (rd_T76 (rd_L6 l0_0 x19_2) t324).f1, (rd_T76 (rd_L6 l0_0 x19_2) t324).f2, (rd_T76 (rd_L6 l0_0 x19_2) t324).f3, (rd_T76 (rd_L6 l0_0 x19_2) t324).f4⟩ : S76) [.int .i64 (rd_T76 (rd_L6 l0_0 x19_2) t324).f0, .int .i64 (rd_T76 (rd_L6 l0_0 x19_2) t324).f1, .int .i64 (rd_T76 (rd_L6 l0_0 x19_2) t324).f2, .int .i64 (rd_T76 (rd_L6 l0_0 x19_2) t324).f3, .int .i64 (rd_T76 (rd_L6 l0_0 x19_2) t324).f4] (fun _ => True) (fun _ => False) rfl rfl ?aP (fun _ hk => hk.elim) ?aF ?aO ?aB ?aS ?aL ?_; (case aP => exact k76_mkM _ _ _ (⟨(rd_T76 (rd_L6 l0_0 x19_2) t324).f0, (rd_T76 (rd_L6 l0_0 x19_2) t324).f1, (rd_T76 (rd_L6 l0_0 x19_2) t324).f2, (rd_T76 (rd_L6 l0_0 x19_2) t324).f3, (rd_T76 (rd_L6 l0_0 x19_2) t324).f4⟩ : S76)); (case aB => exact (BT HB.out)); (case aF => exact (fun _ _ => trivial)); (case aO => exact (RT HO_6.out)); (case aS => exact (below_size (BT HB.out))); (case aL => have := LMc25.out; omega); intro v326 w30 ho hb hg hat; rw [← Ny325.out] at ho; have n0_ := AM_ (blk_grown (g := gb317) (o := .cells #[.slice (some adO) l0_0.length c0_0] 49 (0, 0)) (by (with_reducible repeat (first | refine blk_drewN ?_ _ | refine blk_drew ?_ | refine blk_alloc ?_ _)); exact BK317.out) hg (Kd.R_ne HO_6.out BK317.out (by decide))); have n1_ := AM_ (blk_grown (g := gb318) (o := .cells #[.int .i64 a1_0, .int .i64 a1_1, .int .i64 a1_2, .int .i64 a1_3, .int .i64 a1_4, .int .i64 a1_5, .int .i64 a1_6, .slice A1_7 l1_7.length c1_7, .slice A1_8 l1_8.length c1_8] 68 (0, 0)) (by (with_reducible repeat (first | refine blk_drewN ?_ _ | refine blk_drew ?_ | refine blk_alloc ?_ _)); exact BK318.out) hg (Kd.R_ne HO_6.out BK318.out (by decide))); have n2_ := AM_ (hb); have n3_ := AM_ (ho); clear BK317; clear BK318; clear HB; clear HO_6; have BK317 := n0_; have BK318 := n1_; have HB := n2_; have HO327 := n3_; clear n0_ n1_ n2_ n3_; clear ho hb hg hat))
     repeat (go_quiet (first | (go_at_call 143; (with_reducible refine (impl_Store_find.calls k2 adO c0_0 l0_0 (some adI) cI x19_2 t319 t324 _ ?side1 ?side2 HL0.out A19.out).mono ?_); (case side1 => exact (HB.out.cell (World.block_lt_of_cell? w _ HX0.out)).trans HX0.out); (case side2 => exact CB HI0.out HB.out); rintro e w28 ⟨he, hb⟩; rw [PTE.out] at he; subst he; replace HO_6 := AM_ (Kd.R_below (RT HO_6.out) hb); replace BK317 := AM_ (BB BK317.out hb); replace BK318 := AM_ (BB BK318.out hb); replace HB := AM_ (below_step (BT HB.out) hb); (try clear hb); (try clear hb2); (try clear hk); (try clear hi); have hy0 := (HB.out.cell (World.block_lt_of_cell? w _ HY0.out)).trans HY0.out; have hy1 := (HB.out.cell (World.block_lt_of_cell? w _ HY1.out)).trans HY1.out; have hy2 := (HB.out.cell (World.block_lt_of_cell? w _ HY2.out)).trans HY2.out; have hy3 := (HB.out.cell (World.block_lt_of_cell? w _ HY3.out)).trans HY3.out; have hy4 := (HB.out.cell (World.block_lt_of_cell? w _ HY4.out)).trans HY4.out; obtain ⟨hcz29_0, hcz29_1, hcz29_2, hcz29_3, hcz29_4, hcz29_5, hcz29_6, hcz29_7, hcz29_8, hfz29_0, hfz29_1, hfz29_2, hfz29_3, hfz29_4, hfz29_5, hfz29_6, hfz29_7, hfz29_8⟩ := bk9 BK318.out) | ((with_reducible refine gate_builtin (b := .append) (xs := #[.tmp 38, .tmp 42]) rfl ?_); at_builtin; refine Kd.R_append k76 (w0 := w) w.heap.size rfl (.tmp 38) (.tmp 42) 90 76 (.agg #[(.int .i64 0), (.int .i64 0), (.int .i64 0), (.int .i64 0), (.int .i64 0)]) 40 rfl Try.underlying90 info76 rfl (by decide) (by omega) u6 x6_2 (⟨(rd_T76 (rd_L6 l0_0 x19_2) t324).f0, (rd_T76 (rd_L6 l0_0 x19_2) t324).f1, (rd_T76 (rd_L6 l0_0 x19_2) t324).f2, (rd_T76 (rd_L6 l0_0 x19_2) t324).f3, (rd_T76 (rd_L6 l0_0 x19_2) t324).f4⟩ : S76) [.int .i64 (rd_T76 (rd_L6 l0_0 x19_2) t324).f0, .int .i64 (rd_T76 (rd_L6 l0_0 x19_2) t324).f1, .int .i64 (rd_T76 (rd_L6 l0_0 x19_2) t324).f2, .int .i64 (rd_T76 (rd_L6 l0_0 x19_2) t324).f3, .int .i64 (rd_T76 (rd_L6 l0_0 x19_2) t324).f4] (fun _ => True) (fun _ => False) rfl rfl ?aP (fun _ hk => hk.elim) ?aF ?aO ?aB ?aS ?aL ?_; (case aP => exact k76_mkM _ _ _ (⟨(rd_T76 (rd_L6 l0_0 x19_2) t324).f0, (rd_T76 (rd_L6 l0_0 x19_2) t324).f1, (rd_T76 (rd_L6 l0_0 x19_2) t324).f2, (rd_T76 (rd_L6 l0_0 x19_2) t324).f3, (rd_T76 (rd_L6 l0_0 x19_2) t324).f4⟩ : S76)); (case aB => exact (BT HB.out)); (case aF => exact (fun _ _ => trivial)); (case aO => exact (RT HO_6.out)); (case aS => exact (below_size (BT HB.out))); (case aL => have := LMc25.out; omega); intro v326 w30 ho hb hg hat; rw [← Ny325.out] at ho; have n0_ := AM_ (blk_grown (g := gb317) (o := .cells #[.slice (some adO) l0_0.length c0_0] 49 (0, 0)) (by (with_reducible repeat (first | refine blk_drewN ?_ _ | refine blk_drew ?_ | refine blk_alloc ?_ _)); exact BK317.out) hg (Kd.R_ne HO_6.out BK317.out (by decide))); have n1_ := AM_ (blk_grown (g := gb318) (o := .cells #[.int .i64 a1_0, .int .i64 a1_1, .int .i64 a1_2, .int .i64 a1_3, .int .i64 a1_4, .int .i64 a1_5, .int .i64 a1_6, .slice A1_7 l1_7.length c1_7, .slice A1_8 l1_8.length c1_8] 68 (0, 0)) (by (with_reducible repeat (first | refine blk_drewN ?_ _ | refine blk_drew ?_ | refine blk_alloc ?_ _)); exact BK318.out) hg (Kd.R_ne HO_6.out BK318.out (by decide))); have n2_ := AM_ (hb); have n3_ := AM_ (ho); clear BK317; clear BK318; clear HB; clear HO_6; have BK317 := n0_; have BK318 := n1_; have HB := n2_; have HO327 := n3_; clear n0_ n1_ n2_ n3_; clear ho hb hg hat)); try go_wp2_with (first | (go_at_call 143; (with_reducible refine (impl_Store_find.calls k2 adO c0_0 l0_0 (some adI) cI x19_2 t319 t324 _ ?side1 ?side2 HL0.out A19.out).mono ?_); (case side1 => exact CB HR0_0.out HB.out); (case side2 => exact HC0_0.out); rintro e w28 ⟨rfl, hb⟩; replace HO_6 := AM_ (Kd.R_below (RT HO_6.out) hb); replace BK317 := AM_ (BB BK317.out hb); replace BK318 := AM_ (BB BK318.out hb); replace HB := AM_ (below_step (BT HB.out) hb); (try clear hb); (try clear hb2); (try clear hk); (try clear hi); obtain ⟨hcz29_0, hcz29_1, hcz29_2, hcz29_3, hcz29_4, hcz29_5, hcz29_6, hcz29_7, hcz29_8, hfz29_0, hfz29_1, hfz29_2, hfz29_3, hfz29_4, hfz29_5, hfz29_6, hfz29_7, hfz29_8⟩ := bk9 BK318.out) | ((with_reducible refine gate_builtin (b := .append) (xs := #[.tmp 38, .tmp 42]) rfl ?_); at_builtin; refine Kd.R_append k76 (w0 := w) w.heap.size rfl (.tmp 38) (.tmp 42) 90 76 (.agg #[(.int .i64 0), (.int .i64 0), (.int .i64 0), (.int .i64 0), (.int .i64 0)]) 40 rfl Try.underlying90 info76 rfl (by decide) (by omega) u6 x6_2 (⟨(rd_T76 (rd_L6 l0_0 x19_2) t324).f0, (rd_T76 (rd_L6 l0_0 x19_2) t324).f1, (rd_T76 (rd_L6 l0_0 x19_2) t324).f2, (rd_T76 (rd_L6 l0_0 x19_2) t324).f3, (rd_T76 (rd_L6 l0_0 x19_2) t324).f4⟩ : S76) [.int .i64 (rd_T76 (rd_L6 l0_0 x19_2) t324).f0, .int .i64 (rd_T76 (rd_L6 l0_0 x19_2) t324).f1, .int .i64 (rd_T76 (rd_L6 l0_0 x19_2) t324).f2, .int .i64 (rd_T76 (rd_L6 l0_0 x19_2) t324).f3, .int .i64 (rd_T76 (rd_L6 l0_0 x19_2) t324).f4] (fun _ => True) (fun _ => False) rfl rfl ?aP (fun _ hk => hk.elim) ?aF ?aO ?aB ?aS ?aL ?_; (case aP => exact k76_mkM _ _ _ (⟨(rd_T76 (rd_L6 l0_0 x19_2) t324).f0, (rd_T76 (rd_L6 l0_0 x19_2) t324).f1, (rd_T76 (rd_L6 l0_0 x19_2) t324).f2, (rd_T76 (rd_L6 l0_0 x19_2) t324).f3, (rd_T76 (rd_L6 l0_0 x19_2) t324).f4⟩ : S76)); (case aB => exact (BT HB.out)); (case aF => exact (fun _ _ => trivial)); (case aO => exact (RT HO_6.out)); (case aS => exact (below_size (BT HB.out))); (case aL => have := LMc25.out; omega); intro v326 w30 ho hb hg hat; rw [← Ny325.out] at ho; have n0_ := AM_ (blk_grown (g := gb317) (o := .cells #[.slice (some adO) l0_0.length c0_0] 49 (0, 0)) (by (with_reducible repeat (first | refine blk_drewN ?_ _ | refine blk_drew ?_ | refine blk_alloc ?_ _)); exact BK317.out) hg (Kd.R_ne HO_6.out BK317.out (by decide))); have n1_ := AM_ (blk_grown (g := gb318) (o := .cells #[.int .i64 a1_0, .int .i64 a1_1, .int .i64 a1_2, .int .i64 a1_3, .int .i64 a1_4, .int .i64 a1_5, .int .i64 a1_6, .slice A1_7 l1_7.length c1_7, .slice A1_8 l1_8.length c1_8] 68 (0, 0)) (by (with_reducible repeat (first | refine blk_drewN ?_ _ | refine blk_drew ?_ | refine blk_alloc ?_ _)); exact BK318.out) hg (Kd.R_ne HO_6.out BK318.out (by decide))); have n2_ := AM_ (hb); have n3_ := AM_ (ho); clear BK317; clear BK318; clear HB; clear HO_6; have BK317 := n0_; have BK318 := n1_; have HB := n2_; have HO327 := n3_; clear n0_ n1_ n2_ n3_; clear ho hb hg hat)))
     go_roundg k2
     case measure => have := HJ3.out; have := HK2.out; omega
     case rel => exact ⟨(y325), (wrap64 (x19_2 + 1)), (by first | rfl | (simp; done) | (simp [*]; done)), H', ⟨by have := HJ3.out; have := HK2.out; omega⟩, ⟨RT HO327.out⟩, ⟨BH BK317.out⟩, ⟨BH BK318.out⟩, ⟨BT HB.out⟩⟩


/-! ### laws_markVersionS: function 64 -/
def laws_markVersionS.l0 : Nat → List (S76) → Int → Int → Option (Int × (List (S76)))
 | 0, _, _, _ => none
 | k + 1, x0, x1, x5 => if x5 < (x0.length : Int) then (if 0 ≤ x5 then ((some (x0.set (x5 : Int).toNat (⟨x1, (rd_T76 x0 x5).f1, (rd_T76 x0 x5).f2, (rd_T76 x0 x5).f3, (rd_T76 x0 x5).f4⟩ : S76) : List (S76))).bind fun y312 => ((some (y312.set (x5 : Int).toNat (⟨(rd_T76 y312 x5).f0, wrap64 (x1 + 1), (rd_T76 y312 x5).f2, (rd_T76 y312 x5).f3, (rd_T76 y312 x5).f4⟩ : S76) : List (S76))).bind fun y313 => ((some (y313.set (x5 : Int).toNat (⟨(rd_T76 y313 x5).f0, (rd_T76 y313 x5).f1, wrap64 ((wrap64 (x1 + 1)) + 1), (rd_T76 y313 x5).f3, (rd_T76 y313 x5).f4⟩ : S76) : List (S76))).bind fun y314 => ((some (y314.set (x5 : Int).toNat (⟨(rd_T76 y314 x5).f0, (rd_T76 y314 x5).f1, (rd_T76 y314 x5).f2, wrap64 ((wrap64 ((wrap64 (x1 + 1)) + 1)) + 1), (rd_T76 y314 x5).f4⟩ : S76) : List (S76))).bind fun y315 => (laws_markVersionS.l0 k (y315.set (x5 : Int).toNat (⟨(rd_T76 y315 x5).f0, (rd_T76 y315 x5).f1, (rd_T76 y315 x5).f2, (rd_T76 y315 x5).f3, wrap64 ((wrap64 ((wrap64 ((wrap64 (x1 + 1)) + 1)) + 1)) + 1)⟩ : S76)) (wrap64 ((wrap64 ((wrap64 ((wrap64 ((wrap64 (x1 + 1)) + 1)) + 1)) + 1)) + 1)) (wrap64 (x5 + 1))))))) else (none)) else (some (x1, x0))
def laws_markVersionS.f (k : Nat) (l0 : List (S76)) (a1 : Int) : Option (Int × (List (S76))) := laws_markVersionS.l0 k l0 a1 0
theorem laws_markVersionS.mono_l : ∀ k, (∀ y0 y1 y2, LeO (laws_markVersionS.l0 k y0 y1 y2) (laws_markVersionS.l0 (k + 1) y0 y1 y2))
 | 0 => fun _ _ _ r h => by simp [laws_markVersionS.l0] at h
 | k + 1 => by
  have ih0 := laws_markVersionS.mono_l k
  ·intro y0 y1 y2
   unfold laws_markVersionS.l0
   repeat' first
   | (with_reducible exact ih0 _ _ _)
   | (with_reducible exact LeO.refl _)
   | (with_reducible exact LeO.none _)
   | (with_reducible refine LeO.ite ?_ ?_)
   | (with_reducible refine LeO.bind ?_ (fun _ => ?_))
   | exact ih0 _ _ _
   | exact LeO.none _
   | refine LeO.ite ?_ ?_
   | refine LeO.bind ?_ (fun _ => ?_)
theorem laws_markVersionS.mono : ∀ a0 a1 k, LeO (laws_markVersionS.f k a0 a1) (laws_markVersionS.f (k + 1) a0 a1) := by
 intro a0 a1 k
 have ih0 := laws_markVersionS.mono_l k
 unfold laws_markVersionS.f
 repeat' first
   | (with_reducible exact ih0 _ _ _)
   | (with_reducible exact LeO.refl _)
   | (with_reducible exact LeO.none _)
   | (with_reducible refine LeO.ite ?_ ?_)
   | (with_reducible refine LeO.bind ?_ (fun _ => ?_))
   | exact ih0 _ _ _
   | exact LeO.none _
   | refine LeO.ite ?_ ?_
   | refine LeO.bind ?_ (fun _ => ?_)
set_option maxHeartbeats 8000000 in
set_option maxRecDepth 100000 in
theorem laws_markVersionS.calls (k : Nat) (P0_ : Nat → Prop) (u9000_ : Value) (l0 : List (S76)) (a1 : Int) (r1 : Int) (r2 : List (S76)) (w0 w : World) (hB : Below w0.heap.size w0 w) (ho0 : Kd.R k76 76 w w0.heap.size P0_ u9000_ l0) (h : laws_markVersionS.f k l0 a1 = some (r1, r2)) :
  Calls Try.prog 64 #[u9000_, .int .i64 a1] w fun e w' => e = .returned (.int .i64 r1) ∧ Kd.R k76 76 w' w0.heap.size (fun k_ => (P0_ k_ ∨ w.heap.size ≤ k_)) u9000_ r2 ∧ Below w0.heap.size w0 w' ∧ Kept w w' (fun k_ => P0_ k_) := by
 have HO0 := AM_ (show Kd.R k76 76 w w0.heap.size (fun k_ => (P0_ k_ ∨ w.heap.size ≤ k_)) u9000_ l0 from Kd.R_mono ho0 (fun k_ hk => (.inl hk)))
 have HK := AM_ (Kept.refl w (fun k_ => P0_ k_))
 have HW0 := AM_ hB.size
 have HB := AM_ hB
 clear hB
 have H : (laws_markVersionS.l0 k l0 a1 0) = some (r1, r2) := h
 clear h
 have H' := AM_ H
 clear H
 go_enter Try.func64, Try.ntmps64
 go_wp2
 go_loopg [1, 5] k (fun kq v1 v5 w' => ∃ (x0_1 : List (S76)) (x1_1 : Int) (x5_1 : Int), v1 = .int .i64 x1_1 ∧ v5 = .int .i64 x5_1 ∧ Aside0 (laws_markVersionS.l0 kq x0_1 x1_1 x5_1 = some (r1, r2)) ∧ Aside0 (kq ≤ k) ∧ Aside0 (Kd.R k76 76 w' w0.heap.size (fun k_ => (P0_ k_ ∨ w.heap.size ≤ k_)) u9000_ x0_1) ∧ Aside0 (Kept w w' (fun k_ => P0_ k_)) ∧ Aside0 (Below w0.heap.size w0 w'))
 case atStart => exact ⟨(l0), (a1), (0), (by first | rfl | (simp; done) | (simp [*]; done)), (by first | rfl | (simp; done) | (simp [*]; done)), H', ⟨Nat.le_refl _⟩, ⟨RT HO0.out⟩, ⟨by repeat (first | (with_reducible first | exact HK.out | apply Kept.alloc | apply Kept.drewN | apply Kept.drew) | exact HK.out)⟩, ⟨BT HB.out⟩⟩
 case round =>
  clear H'
  try clear p2
  obtain ⟨x0_1, x1_1, x5_1, rfl, rfl, HA, HK1, HO_0, HK, HB⟩ := hrel
  cases gk with
  | zero => exact absurd HA.out (by simp [laws_markVersionS.l0])
  | succ k1 =>
   have H := HA.out
   clear HA
   simp only [laws_markVersionS.l0] at H
   by_cases c3 : x5_1 < (x0_1.length : Int)
   rotate_left
   ·rw [if_neg c3] at H
    have c3b0 : decide (x5_1 < (x0_1.length : Int)) = false := decide_eq_false c3
    clear c3
    simp only [Option.some.injEq, Prod.mk.injEq] at H
    obtain ⟨rfl, rfl⟩ := H
    obtain ⟨Ao21, co21, eo21⟩ := Kd.R_slice HO_0.out
    subst eo21
    go_wp2
    go_ret
    exact ⟨by first | rfl | (simp [errW_none, errW_some] <;> rfl) | (simp [*, errW_none, errW_some] <;> rfl), RT HO_0.out, BT HB.out, by repeat (first | (with_reducible first | exact HK.out | apply Kept.alloc | apply Kept.drewN | apply Kept.drew) | exact HK.out)⟩
   rw [if_pos c3] at H
   have c3b0 : decide (x5_1 < (x0_1.length : Int)) = true := decide_eq_true c3
   clear c3
   by_cases c4 : 0 ≤ x5_1
   rotate_left
   ·rw [if_neg c4] at H
    exact absurd H (by simp)
   rw [if_pos c4] at H
   have c4b0 : decide (0 ≤ x5_1) = true := decide_eq_true c4
   clear c4
   obtain ⟨y312, hy312⟩ : ∃ y_ : List (S76), y_ = (x0_1.set (x5_1 : Int).toNat (⟨x1_1, (rd_T76 x0_1 x5_1).f1, (rd_T76 x0_1 x5_1).f2, (rd_T76 x0_1 x5_1).f3, (rd_T76 x0_1 x5_1).f4⟩ : S76)) := ⟨_, rfl⟩
   replace H : ((some (y312.set (x5_1 : Int).toNat (⟨(rd_T76 y312 x5_1).f0, wrap64 (x1_1 + 1), (rd_T76 y312 x5_1).f2, (rd_T76 y312 x5_1).f3, (rd_T76 y312 x5_1).f4⟩ : S76) : List (S76))).bind fun y313 => ((some (y313.set (x5_1 : Int).toNat (⟨(rd_T76 y313 x5_1).f0, (rd_T76 y313 x5_1).f1, wrap64 ((wrap64 (x1_1 + 1)) + 1), (rd_T76 y313 x5_1).f3, (rd_T76 y313 x5_1).f4⟩ : S76) : List (S76))).bind fun y314 => ((some (y314.set (x5_1 : Int).toNat (⟨(rd_T76 y314 x5_1).f0, (rd_T76 y314 x5_1).f1, (rd_T76 y314 x5_1).f2, wrap64 ((wrap64 ((wrap64 (x1_1 + 1)) + 1)) + 1), (rd_T76 y314 x5_1).f4⟩ : S76) : List (S76))).bind fun y315 => (laws_markVersionS.l0 k1 (y315.set (x5_1 : Int).toNat (⟨(rd_T76 y315 x5_1).f0, (rd_T76 y315 x5_1).f1, (rd_T76 y315 x5_1).f2, (rd_T76 y315 x5_1).f3, wrap64 ((wrap64 ((wrap64 ((wrap64 (x1_1 + 1)) + 1)) + 1)) + 1)⟩ : S76)) (wrap64 ((wrap64 ((wrap64 ((wrap64 ((wrap64 (x1_1 + 1)) + 1)) + 1)) + 1)) + 1)) (wrap64 (x5_1 + 1)))))) = some (r1, r2) := by first | (rw [hy312]; with_reducible exact H) | (have H2_ := (Option.bind_some _ _).symm.trans H; rw [hy312]; with_reducible exact H2_) | (have H2_ := (Option.bind_some _ _).symm.trans H; with_reducible exact H2_) | with_reducible exact H | (rw [hy312]; exact H) | exact H
   have Ny312 := AM_ hy312
   clear hy312
   obtain ⟨y313, hy313⟩ : ∃ y_ : List (S76), y_ = (y312.set (x5_1 : Int).toNat (⟨(rd_T76 y312 x5_1).f0, wrap64 (x1_1 + 1), (rd_T76 y312 x5_1).f2, (rd_T76 y312 x5_1).f3, (rd_T76 y312 x5_1).f4⟩ : S76)) := ⟨_, rfl⟩
   replace H : ((some (y313.set (x5_1 : Int).toNat (⟨(rd_T76 y313 x5_1).f0, (rd_T76 y313 x5_1).f1, wrap64 ((wrap64 (x1_1 + 1)) + 1), (rd_T76 y313 x5_1).f3, (rd_T76 y313 x5_1).f4⟩ : S76) : List (S76))).bind fun y314 => ((some (y314.set (x5_1 : Int).toNat (⟨(rd_T76 y314 x5_1).f0, (rd_T76 y314 x5_1).f1, (rd_T76 y314 x5_1).f2, wrap64 ((wrap64 ((wrap64 (x1_1 + 1)) + 1)) + 1), (rd_T76 y314 x5_1).f4⟩ : S76) : List (S76))).bind fun y315 => (laws_markVersionS.l0 k1 (y315.set (x5_1 : Int).toNat (⟨(rd_T76 y315 x5_1).f0, (rd_T76 y315 x5_1).f1, (rd_T76 y315 x5_1).f2, (rd_T76 y315 x5_1).f3, wrap64 ((wrap64 ((wrap64 ((wrap64 (x1_1 + 1)) + 1)) + 1)) + 1)⟩ : S76)) (wrap64 ((wrap64 ((wrap64 ((wrap64 ((wrap64 (x1_1 + 1)) + 1)) + 1)) + 1)) + 1)) (wrap64 (x5_1 + 1))))) = some (r1, r2) := by first | (rw [hy313]; with_reducible exact H) | (have H2_ := (Option.bind_some _ _).symm.trans H; rw [hy313]; with_reducible exact H2_) | (have H2_ := (Option.bind_some _ _).symm.trans H; with_reducible exact H2_) | with_reducible exact H | (rw [hy313]; exact H) | exact H
   have Ny313 := AM_ hy313
   clear hy313
   obtain ⟨y314, hy314⟩ : ∃ y_ : List (S76), y_ = (y313.set (x5_1 : Int).toNat (⟨(rd_T76 y313 x5_1).f0, (rd_T76 y313 x5_1).f1, wrap64 ((wrap64 (x1_1 + 1)) + 1), (rd_T76 y313 x5_1).f3, (rd_T76 y313 x5_1).f4⟩ : S76)) := ⟨_, rfl⟩
   replace H : ((some (y314.set (x5_1 : Int).toNat (⟨(rd_T76 y314 x5_1).f0, (rd_T76 y314 x5_1).f1, (rd_T76 y314 x5_1).f2, wrap64 ((wrap64 ((wrap64 (x1_1 + 1)) + 1)) + 1), (rd_T76 y314 x5_1).f4⟩ : S76) : List (S76))).bind fun y315 => (laws_markVersionS.l0 k1 (y315.set (x5_1 : Int).toNat (⟨(rd_T76 y315 x5_1).f0, (rd_T76 y315 x5_1).f1, (rd_T76 y315 x5_1).f2, (rd_T76 y315 x5_1).f3, wrap64 ((wrap64 ((wrap64 ((wrap64 (x1_1 + 1)) + 1)) + 1)) + 1)⟩ : S76)) (wrap64 ((wrap64 ((wrap64 ((wrap64 ((wrap64 (x1_1 + 1)) + 1)) + 1)) + 1)) + 1)) (wrap64 (x5_1 + 1)))) = some (r1, r2) := by first | (rw [hy314]; with_reducible exact H) | (have H2_ := (Option.bind_some _ _).symm.trans H; rw [hy314]; with_reducible exact H2_) | (have H2_ := (Option.bind_some _ _).symm.trans H; with_reducible exact H2_) | with_reducible exact H | (rw [hy314]; exact H) | exact H
   have Ny314 := AM_ hy314
   clear hy314
   obtain ⟨y315, hy315⟩ : ∃ y_ : List (S76), y_ = (y314.set (x5_1 : Int).toNat (⟨(rd_T76 y314 x5_1).f0, (rd_T76 y314 x5_1).f1, (rd_T76 y314 x5_1).f2, wrap64 ((wrap64 ((wrap64 (x1_1 + 1)) + 1)) + 1), (rd_T76 y314 x5_1).f4⟩ : S76)) := ⟨_, rfl⟩
   replace H : (laws_markVersionS.l0 k1 (y315.set (x5_1 : Int).toNat (⟨(rd_T76 y315 x5_1).f0, (rd_T76 y315 x5_1).f1, (rd_T76 y315 x5_1).f2, (rd_T76 y315 x5_1).f3, wrap64 ((wrap64 ((wrap64 ((wrap64 (x1_1 + 1)) + 1)) + 1)) + 1)⟩ : S76)) (wrap64 ((wrap64 ((wrap64 ((wrap64 ((wrap64 (x1_1 + 1)) + 1)) + 1)) + 1)) + 1)) (wrap64 (x5_1 + 1))) = some (r1, r2) := by first | (rw [hy315]; with_reducible exact H) | (have H2_ := (Option.bind_some _ _).symm.trans H; rw [hy315]; with_reducible exact H2_) | (have H2_ := (Option.bind_some _ _).symm.trans H; with_reducible exact H2_) | with_reducible exact H | (rw [hy315]; exact H) | exact H
   have Ny315 := AM_ hy315
   clear hy315
   obtain ⟨y316, hy316⟩ : ∃ y_ : List (S76), y_ = (y315.set (x5_1 : Int).toNat (⟨(rd_T76 y315 x5_1).f0, (rd_T76 y315 x5_1).f1, (rd_T76 y315 x5_1).f2, (rd_T76 y315 x5_1).f3, wrap64 ((wrap64 ((wrap64 ((wrap64 (x1_1 + 1)) + 1)) + 1)) + 1)⟩ : S76)) := ⟨_, rfl⟩
   replace H : (laws_markVersionS.l0 k1 y316 (wrap64 ((wrap64 ((wrap64 ((wrap64 ((wrap64 (x1_1 + 1)) + 1)) + 1)) + 1)) + 1)) (wrap64 (x5_1 + 1))) = some (r1, r2) := by first | (rw [hy316]; with_reducible exact H) | (have H2_ := (Option.bind_some _ _).symm.trans H; rw [hy316]; with_reducible exact H2_) | (have H2_ := (Option.bind_some _ _).symm.trans H; with_reducible exact H2_) | with_reducible exact H | (rw [hy316]; exact H) | exact H
   have Ny316 := AM_ hy316
   clear hy316
   have H' := AM_ H
   clear H
   obtain ⟨Ao10, co10, eo10⟩ := Kd.R_slice HO_0.out
   subst eo10
   have p5 : 0 ≤ (x5_1 : Int) := DT
   have q5 : (x5_1 : Int) < ((x0_1.length : Int) : Int) := DT
   obtain ⟨go5, co5, eo5, gb5, gl5, cl5, HG5⟩ := Kd.R_form HO_0.out (by omega)
   (first | cases eo5 | (injection eo5 with ea_ en_ ec_; (first | subst ea_ | (injection ea_ with ea_; subst ea_)); subst ec_; clear en_))
   have GB5 := AM_ gb5
   have GG5 := AM_ HG5
   clear gb5 gl5 HG5
   have HMgo5 := AM_ (show (P0_ go5 ∨ w.heap.size ≤ go5) from (HO_0.out.1 _ rfl))
   obtain ⟨ce5, hcl5, hM5, hcc5, hfr5⟩ := Kd.R_elem HO_0.out z76 (x5_1 : Int) p5 q5
   obtain rfl := k76_openM hM5
   have hx5_0 : wr.cell? ⟨go5, (x5_1 : Int).toNat * 5, none⟩ = some (.int .i64 ((rd_T76 x0_1 x5_1).f0)) := hcc5 0 _ rfl
   have hx5_1 : wr.cell? ⟨go5, (x5_1 : Int).toNat * 5 + 1, none⟩ = some (.int .i64 ((rd_T76 x0_1 x5_1).f1)) := hcc5 1 _ rfl
   have hx5_2 : wr.cell? ⟨go5, (x5_1 : Int).toNat * 5 + 2, none⟩ = some (.int .i64 ((rd_T76 x0_1 x5_1).f2)) := hcc5 2 _ rfl
   have hx5_3 : wr.cell? ⟨go5, (x5_1 : Int).toNat * 5 + 3, none⟩ = some (.int .i64 ((rd_T76 x0_1 x5_1).f3)) := hcc5 3 _ rfl
   have hx5_4 : wr.cell? ⟨go5, (x5_1 : Int).toNat * 5 + 4, none⟩ = some (.int .i64 ((rd_T76 x0_1 x5_1).f4)) := hcc5 4 _ rfl
   have hf5_0 : wr.frozen? ⟨go5, (x5_1 : Int).toNat * 5, none⟩ = false := hfr5 0
   have hf5_1 : wr.frozen? ⟨go5, (x5_1 : Int).toNat * 5 + 1, none⟩ = false := hfr5 1
   have hf5_2 : wr.frozen? ⟨go5, (x5_1 : Int).toNat * 5 + 2, none⟩ = false := hfr5 2
   have hf5_3 : wr.frozen? ⟨go5, (x5_1 : Int).toNat * 5 + 3, none⟩ = false := hfr5 3
   have hf5_4 : wr.frozen? ⟨go5, (x5_1 : Int).toNat * 5 + 4, none⟩ = false := hfr5 4
   clear hcl5 hcc5 hfr5; (try clear hM5)
   replace p5 := eq_true p5
   replace q5 := eq_true q5
   have HX11 := AM_ (show Kd.R k76 76 wr w0.heap.size (fun k_ => (P0_ k_ ∨ w.heap.size ≤ k_)) (.slice (some ⟨go5, 0, none⟩) x0_1.length co10) x0_1 from (RT HO_0.out))
   obtain ⟨ce11, hcl11, hM11, hcc11, hfr11⟩ := Kd.R_elem HX11.out z76 (x5_1 : Int) (DT) (by have h_ : (x5_1 : Int) < ((x0_1.length : Int) : Int) := DT; first | exact h_ | (have e_ := (Kd.R_reads' HO_0.out).1; omega) | simpa using h_)
   obtain rfl := k76_openM hM11
   have HP11 := Kd.R_seg HX11.out (x5_1 : Int) (DT) (by have h_ : (x5_1 : Int) < ((x0_1.length : Int) : Int) := DT; first | exact h_ | (have e_ := (Kd.R_reads' HO_0.out).1; omega) | simpa using h_) (seg := [.int .i64 x1_1]) (j := 0) hcl11 hcc11 (show 1 ≤ 5 from by decide) (x' := (⟨x1_1, (rd_T76 x0_1 x5_1).f1, (rd_T76 x0_1 x5_1).f2, (rd_T76 x0_1 x5_1).f3, (rd_T76 x0_1 x5_1).f4⟩ : S76)) (k76_mkM _ _ _ (⟨x1_1, (rd_T76 x0_1 x5_1).f1, (rd_T76 x0_1 x5_1).f2, (rd_T76 x0_1 x5_1).f3, (rd_T76 x0_1 x5_1).f4⟩ : S76) ) (fun _ hk => hk)
   have hx11_0 := hcc11 0 _ rfl
   (try simp only [show (k76).sz = 5 from rfl, Nat.mul_one, Nat.add_zero] at hx11_0)
   have hf11_0 := hfr11 0
   (try simp only [show (k76).sz = 5 from rfl, Nat.mul_one, Nat.add_zero] at hf11_0)
   clear hcl11 hcc11 hfr11; (try clear hM11)
   go_wp2_with (first | ((with_reducible refine gate_store (t := 3) (p := 16) rfl ?_); refine store_event (t := 3) (p := 16) (v := ?vo_w12) (w1 := (wr.setCell ⟨go5, (x5_1 : Int).toNat * 5, none⟩ (.int .i64 x1_1))) ?hg ?ho ?hn ?hr ?_; (case ho => rfl); (case hg => rfl); (case hn => rfl); (case hr => first | (go_simp; done) | (go_simp; rfl)); intro w12 hw; have hg : wr.grownBy w12 (some go5) := (by rw [hw]; exact HP11.2); have hp_ : Kd.R k76 76 w12 w0.heap.size (fun k_ => (P0_ k_ ∨ w.heap.size ≤ k_)) (.slice (some ⟨go5, 0, none⟩) x0_1.length co10) y312 := (by rw [hw, Ny312.out]; exact HP11.1); clear HP11; replace HB := AM_ ((by rw [hw]; exact below_set (HB.out) GB5.out : Below w0.heap.size w0 w12)); replace HK := AM_ (Kept.of_grown (S := (fun k_ => P0_ k_)) hg (by repeat (first | (with_reducible first | exact HK.out | apply Kept.alloc | apply Kept.drewN | apply Kept.drew) | exact HK.out)) (fun k_ e_ => (HO_0.out.1 k_ e_))); replace HO_0 := AM_ (hp_); clear hg hw hp_; have p6 : 0 ≤ (x5_1 : Int) := DT; have q6 : (x5_1 : Int) < ((x0_1.length : Int) : Int) := DT; obtain ⟨ce6, hcl6, hM6, hcc6, hfr6⟩ := Kd.R_elem HO_0.out z76 (x5_1 : Int) p6 q6; obtain rfl := k76_openM hM6; have hx6_0 : w12.cell? ⟨go5, (x5_1 : Int).toNat * 5, none⟩ = some (.int .i64 ((rd_T76 y312 x5_1).f0)) := hcc6 0 _ rfl; have hx6_1 : w12.cell? ⟨go5, (x5_1 : Int).toNat * 5 + 1, none⟩ = some (.int .i64 ((rd_T76 y312 x5_1).f1)) := hcc6 1 _ rfl; have hx6_2 : w12.cell? ⟨go5, (x5_1 : Int).toNat * 5 + 2, none⟩ = some (.int .i64 ((rd_T76 y312 x5_1).f2)) := hcc6 2 _ rfl; have hx6_3 : w12.cell? ⟨go5, (x5_1 : Int).toNat * 5 + 3, none⟩ = some (.int .i64 ((rd_T76 y312 x5_1).f3)) := hcc6 3 _ rfl; have hx6_4 : w12.cell? ⟨go5, (x5_1 : Int).toNat * 5 + 4, none⟩ = some (.int .i64 ((rd_T76 y312 x5_1).f4)) := hcc6 4 _ rfl; have hf6_0 : w12.frozen? ⟨go5, (x5_1 : Int).toNat * 5, none⟩ = false := hfr6 0; have hf6_1 : w12.frozen? ⟨go5, (x5_1 : Int).toNat * 5 + 1, none⟩ = false := hfr6 1; have hf6_2 : w12.frozen? ⟨go5, (x5_1 : Int).toNat * 5 + 2, none⟩ = false := hfr6 2; have hf6_3 : w12.frozen? ⟨go5, (x5_1 : Int).toNat * 5 + 3, none⟩ = false := hfr6 3; have hf6_4 : w12.frozen? ⟨go5, (x5_1 : Int).toNat * 5 + 4, none⟩ = false := hfr6 4; clear hcl6 hcc6 hfr6; (try clear hM6); replace p6 := eq_true p6; replace q6 := eq_true q6; have HX13 := AM_ (show Kd.R k76 76 w12 w0.heap.size (fun k_ => (P0_ k_ ∨ w.heap.size ≤ k_)) (.slice (some ⟨go5, 0, none⟩) x0_1.length co10) y312 from (RT HO_0.out)); obtain ⟨ce13, hcl13, hM13, hcc13, hfr13⟩ := Kd.R_elem HX13.out z76 (x5_1 : Int) (DT) (by have h_ : (x5_1 : Int) < ((x0_1.length : Int) : Int) := DT; first | exact h_ | (have e_ := (Kd.R_reads' HO_0.out).1; omega) | simpa using h_); obtain rfl := k76_openM hM13; have HP13 := Kd.R_seg HX13.out (x5_1 : Int) (DT) (by have h_ : (x5_1 : Int) < ((x0_1.length : Int) : Int) := DT; first | exact h_ | (have e_ := (Kd.R_reads' HO_0.out).1; omega) | simpa using h_) (seg := [.int .i64 (wrap64 (x1_1 + 1))]) (j := 1) hcl13 hcc13 (show 2 ≤ 5 from by decide) (x' := (⟨(rd_T76 y312 x5_1).f0, wrap64 (x1_1 + 1), (rd_T76 y312 x5_1).f2, (rd_T76 y312 x5_1).f3, (rd_T76 y312 x5_1).f4⟩ : S76)) (k76_mkM _ _ _ (⟨(rd_T76 y312 x5_1).f0, wrap64 (x1_1 + 1), (rd_T76 y312 x5_1).f2, (rd_T76 y312 x5_1).f3, (rd_T76 y312 x5_1).f4⟩ : S76) ) (fun _ hk => hk); have hx13_1 := hcc13 1 _ rfl; (try simp only [show (k76).sz = 5 from rfl, Nat.mul_one, Nat.add_zero] at hx13_1); have hf13_1 := hfr13 1; (try simp only [show (k76).sz = 5 from rfl, Nat.mul_one, Nat.add_zero] at hf13_1); clear hcl13 hcc13 hfr13; (try clear hM13)) | ((with_reducible refine gate_store (t := 3) (p := 23) rfl ?_); refine store_event (t := 3) (p := 23) (v := ?vo_w14) (w1 := (w12.setCell ⟨go5, (x5_1 : Int).toNat * 5 + 1, none⟩ (.int .i64 (wrap64 (x1_1 + 1))))) ?hg ?ho ?hn ?hr ?_; (case ho => rfl); (case hg => rfl); (case hn => rfl); (case hr => first | (go_simp; done) | (go_simp; rfl)); intro w14 hw; have hg : w12.grownBy w14 (some go5) := (by rw [hw]; exact HP13.2); have hp_ : Kd.R k76 76 w14 w0.heap.size (fun k_ => (P0_ k_ ∨ w.heap.size ≤ k_)) (.slice (some ⟨go5, 0, none⟩) x0_1.length co10) y313 := (by rw [hw, Ny313.out]; exact HP13.1); clear HP13; replace HB := AM_ ((by rw [hw]; exact below_set (HB.out) GB5.out : Below w0.heap.size w0 w14)); replace HK := AM_ (Kept.of_grown (S := (fun k_ => P0_ k_)) hg (by repeat (first | (with_reducible first | exact HK.out | apply Kept.alloc | apply Kept.drewN | apply Kept.drew) | exact HK.out)) (fun k_ e_ => (HO_0.out.1 k_ e_))); replace HO_0 := AM_ (hp_); clear hg hw hp_; have p7 : 0 ≤ (x5_1 : Int) := DT; have q7 : (x5_1 : Int) < ((x0_1.length : Int) : Int) := DT; obtain ⟨ce7, hcl7, hM7, hcc7, hfr7⟩ := Kd.R_elem HO_0.out z76 (x5_1 : Int) p7 q7; obtain rfl := k76_openM hM7; have hx7_0 : w14.cell? ⟨go5, (x5_1 : Int).toNat * 5, none⟩ = some (.int .i64 ((rd_T76 y313 x5_1).f0)) := hcc7 0 _ rfl; have hx7_1 : w14.cell? ⟨go5, (x5_1 : Int).toNat * 5 + 1, none⟩ = some (.int .i64 ((rd_T76 y313 x5_1).f1)) := hcc7 1 _ rfl; have hx7_2 : w14.cell? ⟨go5, (x5_1 : Int).toNat * 5 + 2, none⟩ = some (.int .i64 ((rd_T76 y313 x5_1).f2)) := hcc7 2 _ rfl; have hx7_3 : w14.cell? ⟨go5, (x5_1 : Int).toNat * 5 + 3, none⟩ = some (.int .i64 ((rd_T76 y313 x5_1).f3)) := hcc7 3 _ rfl; have hx7_4 : w14.cell? ⟨go5, (x5_1 : Int).toNat * 5 + 4, none⟩ = some (.int .i64 ((rd_T76 y313 x5_1).f4)) := hcc7 4 _ rfl; have hf7_0 : w14.frozen? ⟨go5, (x5_1 : Int).toNat * 5, none⟩ = false := hfr7 0; have hf7_1 : w14.frozen? ⟨go5, (x5_1 : Int).toNat * 5 + 1, none⟩ = false := hfr7 1; have hf7_2 : w14.frozen? ⟨go5, (x5_1 : Int).toNat * 5 + 2, none⟩ = false := hfr7 2; have hf7_3 : w14.frozen? ⟨go5, (x5_1 : Int).toNat * 5 + 3, none⟩ = false := hfr7 3; have hf7_4 : w14.frozen? ⟨go5, (x5_1 : Int).toNat * 5 + 4, none⟩ = false := hfr7 4; clear hcl7 hcc7 hfr7; (try clear hM7); replace p7 := eq_true p7; replace q7 := eq_true q7; have HX15 := AM_ (show Kd.R k76 76 w14 w0.heap.size (fun k_ => (P0_ k_ ∨ w.heap.size ≤ k_)) (.slice (some ⟨go5, 0, none⟩) x0_1.length co10) y313 from (RT HO_0.out)); obtain ⟨ce15, hcl15, hM15, hcc15, hfr15⟩ := Kd.R_elem HX15.out z76 (x5_1 : Int) (DT) (by have h_ : (x5_1 : Int) < ((x0_1.length : Int) : Int) := DT; first | exact h_ | (have e_ := (Kd.R_reads' HO_0.out).1; omega) | simpa using h_); obtain rfl := k76_openM hM15; have HP15 := Kd.R_seg HX15.out (x5_1 : Int) (DT) (by have h_ : (x5_1 : Int) < ((x0_1.length : Int) : Int) := DT; first | exact h_ | (have e_ := (Kd.R_reads' HO_0.out).1; omega) | simpa using h_) (seg := [.int .i64 (wrap64 ((wrap64 (x1_1 + 1)) + 1))]) (j := 2) hcl15 hcc15 (show 3 ≤ 5 from by decide) (x' := (⟨(rd_T76 y313 x5_1).f0, (rd_T76 y313 x5_1).f1, wrap64 ((wrap64 (x1_1 + 1)) + 1), (rd_T76 y313 x5_1).f3, (rd_T76 y313 x5_1).f4⟩ : S76)) (k76_mkM _ _ _ (⟨(rd_T76 y313 x5_1).f0, (rd_T76 y313 x5_1).f1, wrap64 ((wrap64 (x1_1 + 1)) + 1), (rd_T76 y313 x5_1).f3, (rd_T76 y313 x5_1).f4⟩ : S76) ) (fun _ hk => hk); have hx15_2 := hcc15 2 _ rfl; (try simp only [show (k76).sz = 5 from rfl, Nat.mul_one, Nat.add_zero] at hx15_2); have hf15_2 := hfr15 2; (try simp only [show (k76).sz = 5 from rfl, Nat.mul_one, Nat.add_zero] at hf15_2); clear hcl15 hcc15 hfr15; (try clear hM15)) | ((with_reducible refine gate_store (t := 3) (p := 30) rfl ?_); refine store_event (t := 3) (p := 30) (v := ?vo_w16) (w1 := (w14.setCell ⟨go5, (x5_1 : Int).toNat * 5 + 2, none⟩ (.int .i64 (wrap64 ((wrap64 (x1_1 + 1)) + 1))))) ?hg ?ho ?hn ?hr ?_; (case ho => rfl); (case hg => rfl); (case hn => rfl); (case hr => first | (go_simp; done) | (go_simp; rfl)); intro w16 hw; have hg : w14.grownBy w16 (some go5) := (by rw [hw]; exact HP15.2); have hp_ : Kd.R k76 76 w16 w0.heap.size (fun k_ => (P0_ k_ ∨ w.heap.size ≤ k_)) (.slice (some ⟨go5, 0, none⟩) x0_1.length co10) y314 := (by rw [hw, Ny314.out]; exact HP15.1); clear HP15; replace HB := AM_ ((by rw [hw]; exact below_set (HB.out) GB5.out : Below w0.heap.size w0 w16)); replace HK := AM_ (Kept.of_grown (S := (fun k_ => P0_ k_)) hg (by repeat (first | (with_reducible first | exact HK.out | apply Kept.alloc | apply Kept.drewN | apply Kept.drew) | exact HK.out)) (fun k_ e_ => (HO_0.out.1 k_ e_))); replace HO_0 := AM_ (hp_); clear hg hw hp_; have p8 : 0 ≤ (x5_1 : Int) := DT; have q8 : (x5_1 : Int) < ((x0_1.length : Int) : Int) := DT; obtain ⟨ce8, hcl8, hM8, hcc8, hfr8⟩ := Kd.R_elem HO_0.out z76 (x5_1 : Int) p8 q8; obtain rfl := k76_openM hM8; have hx8_0 : w16.cell? ⟨go5, (x5_1 : Int).toNat * 5, none⟩ = some (.int .i64 ((rd_T76 y314 x5_1).f0)) := hcc8 0 _ rfl; have hx8_1 : w16.cell? ⟨go5, (x5_1 : Int).toNat * 5 + 1, none⟩ = some (.int .i64 ((rd_T76 y314 x5_1).f1)) := hcc8 1 _ rfl; have hx8_2 : w16.cell? ⟨go5, (x5_1 : Int).toNat * 5 + 2, none⟩ = some (.int .i64 ((rd_T76 y314 x5_1).f2)) := hcc8 2 _ rfl; have hx8_3 : w16.cell? ⟨go5, (x5_1 : Int).toNat * 5 + 3, none⟩ = some (.int .i64 ((rd_T76 y314 x5_1).f3)) := hcc8 3 _ rfl; have hx8_4 : w16.cell? ⟨go5, (x5_1 : Int).toNat * 5 + 4, none⟩ = some (.int .i64 ((rd_T76 y314 x5_1).f4)) := hcc8 4 _ rfl; have hf8_0 : w16.frozen? ⟨go5, (x5_1 : Int).toNat * 5, none⟩ = false := hfr8 0; have hf8_1 : w16.frozen? ⟨go5, (x5_1 : Int).toNat * 5 + 1, none⟩ = false := hfr8 1; have hf8_2 : w16.frozen? ⟨go5, (x5_1 : Int).toNat * 5 + 2, none⟩ = false := hfr8 2; have hf8_3 : w16.frozen? ⟨go5, (x5_1 : Int).toNat * 5 + 3, none⟩ = false := hfr8 3; have hf8_4 : w16.frozen? ⟨go5, (x5_1 : Int).toNat * 5 + 4, none⟩ = false := hfr8 4; clear hcl8 hcc8 hfr8; (try clear hM8); replace p8 := eq_true p8; replace q8 := eq_true q8; have HX17 := AM_ (show Kd.R k76 76 w16 w0.heap.size (fun k_ => (P0_ k_ ∨ w.heap.size ≤ k_)) (.slice (some ⟨go5, 0, none⟩) x0_1.length co10) y314 from (RT HO_0.out)); obtain ⟨ce17, hcl17, hM17, hcc17, hfr17⟩ := Kd.R_elem HX17.out z76 (x5_1 : Int) (DT) (by have h_ : (x5_1 : Int) < ((x0_1.length : Int) : Int) := DT; first | exact h_ | (have e_ := (Kd.R_reads' HO_0.out).1; omega) | simpa using h_); obtain rfl := k76_openM hM17; have HP17 := Kd.R_seg HX17.out (x5_1 : Int) (DT) (by have h_ : (x5_1 : Int) < ((x0_1.length : Int) : Int) := DT; first | exact h_ | (have e_ := (Kd.R_reads' HO_0.out).1; omega) | simpa using h_) (seg := [.int .i64 (wrap64 ((wrap64 ((wrap64 (x1_1 + 1)) + 1)) + 1))]) (j := 3) hcl17 hcc17 (show 4 ≤ 5 from by decide) (x' := (⟨(rd_T76 y314 x5_1).f0, (rd_T76 y314 x5_1).f1, (rd_T76 y314 x5_1).f2, wrap64 ((wrap64 ((wrap64 (x1_1 + 1)) + 1)) + 1), (rd_T76 y314 x5_1).f4⟩ : S76)) (k76_mkM _ _ _ (⟨(rd_T76 y314 x5_1).f0, (rd_T76 y314 x5_1).f1, (rd_T76 y314 x5_1).f2, wrap64 ((wrap64 ((wrap64 (x1_1 + 1)) + 1)) + 1), (rd_T76 y314 x5_1).f4⟩ : S76) ) (fun _ hk => hk); have hx17_3 := hcc17 3 _ rfl; (try simp only [show (k76).sz = 5 from rfl, Nat.mul_one, Nat.add_zero] at hx17_3); have hf17_3 := hfr17 3; (try simp only [show (k76).sz = 5 from rfl, Nat.mul_one, Nat.add_zero] at hf17_3); clear hcl17 hcc17 hfr17; (try clear hM17)) | ((with_reducible refine gate_store (t := 3) (p := 37) rfl ?_); refine store_event (t := 3) (p := 37) (v := ?vo_w18) (w1 := (w16.setCell ⟨go5, (x5_1 : Int).toNat * 5 + 3, none⟩ (.int .i64 (wrap64 ((wrap64 ((wrap64 (x1_1 + 1)) + 1)) + 1))))) ?hg ?ho ?hn ?hr ?_; (case ho => rfl); (case hg => rfl); (case hn => rfl); (case hr => first | (go_simp; done) | (go_simp; rfl)); intro w18 hw; have hg : w16.grownBy w18 (some go5) := (by rw [hw]; exact HP17.2); have hp_ : Kd.R k76 76 w18 w0.heap.size (fun k_ => (P0_ k_ ∨ w.heap.size ≤ k_)) (.slice (some ⟨go5, 0, none⟩) x0_1.length co10) y315 := (by rw [hw, Ny315.out]; exact HP17.1); clear HP17; replace HB := AM_ ((by rw [hw]; exact below_set (HB.out) GB5.out : Below w0.heap.size w0 w18)); replace HK := AM_ (Kept.of_grown (S := (fun k_ => P0_ k_)) hg (by repeat (first | (with_reducible first | exact HK.out | apply Kept.alloc | apply Kept.drewN | apply Kept.drew) | exact HK.out)) (fun k_ e_ => (HO_0.out.1 k_ e_))); replace HO_0 := AM_ (hp_); clear hg hw hp_; have p9 : 0 ≤ (x5_1 : Int) := DT; have q9 : (x5_1 : Int) < ((x0_1.length : Int) : Int) := DT; obtain ⟨ce9, hcl9, hM9, hcc9, hfr9⟩ := Kd.R_elem HO_0.out z76 (x5_1 : Int) p9 q9; obtain rfl := k76_openM hM9; have hx9_0 : w18.cell? ⟨go5, (x5_1 : Int).toNat * 5, none⟩ = some (.int .i64 ((rd_T76 y315 x5_1).f0)) := hcc9 0 _ rfl; have hx9_1 : w18.cell? ⟨go5, (x5_1 : Int).toNat * 5 + 1, none⟩ = some (.int .i64 ((rd_T76 y315 x5_1).f1)) := hcc9 1 _ rfl; have hx9_2 : w18.cell? ⟨go5, (x5_1 : Int).toNat * 5 + 2, none⟩ = some (.int .i64 ((rd_T76 y315 x5_1).f2)) := hcc9 2 _ rfl; have hx9_3 : w18.cell? ⟨go5, (x5_1 : Int).toNat * 5 + 3, none⟩ = some (.int .i64 ((rd_T76 y315 x5_1).f3)) := hcc9 3 _ rfl; have hx9_4 : w18.cell? ⟨go5, (x5_1 : Int).toNat * 5 + 4, none⟩ = some (.int .i64 ((rd_T76 y315 x5_1).f4)) := hcc9 4 _ rfl; have hf9_0 : w18.frozen? ⟨go5, (x5_1 : Int).toNat * 5, none⟩ = false := hfr9 0; have hf9_1 : w18.frozen? ⟨go5, (x5_1 : Int).toNat * 5 + 1, none⟩ = false := hfr9 1; have hf9_2 : w18.frozen? ⟨go5, (x5_1 : Int).toNat * 5 + 2, none⟩ = false := hfr9 2; have hf9_3 : w18.frozen? ⟨go5, (x5_1 : Int).toNat * 5 + 3, none⟩ = false := hfr9 3; have hf9_4 : w18.frozen? ⟨go5, (x5_1 : Int).toNat * 5 + 4, none⟩ = false := hfr9 4; clear hcl9 hcc9 hfr9; (try clear hM9); replace p9 := eq_true p9; replace q9 := eq_true q9; have HX19 := AM_ (show Kd.R k76 76 w18 w0.heap.size (fun k_ => (P0_ k_ ∨ w.heap.size ≤ k_)) (.slice (some ⟨go5, 0, none⟩) x0_1.length co10) y315 from (RT HO_0.out)); obtain ⟨ce19, hcl19, hM19, hcc19, hfr19⟩ := Kd.R_elem HX19.out z76 (x5_1 : Int) (DT) (by have h_ : (x5_1 : Int) < ((x0_1.length : Int) : Int) := DT; first | exact h_ | (have e_ := (Kd.R_reads' HO_0.out).1; omega) | simpa using h_); obtain rfl := k76_openM hM19; have HP19 := Kd.R_seg HX19.out (x5_1 : Int) (DT) (by have h_ : (x5_1 : Int) < ((x0_1.length : Int) : Int) := DT; first | exact h_ | (have e_ := (Kd.R_reads' HO_0.out).1; omega) | simpa using h_) (seg := [.int .i64 (wrap64 ((wrap64 ((wrap64 ((wrap64 (x1_1 + 1)) + 1)) + 1)) + 1))]) (j := 4) hcl19 hcc19 (show 5 ≤ 5 from by decide) (x' := (⟨(rd_T76 y315 x5_1).f0, (rd_T76 y315 x5_1).f1, (rd_T76 y315 x5_1).f2, (rd_T76 y315 x5_1).f3, wrap64 ((wrap64 ((wrap64 ((wrap64 (x1_1 + 1)) + 1)) + 1)) + 1)⟩ : S76)) (k76_mkM _ _ _ (⟨(rd_T76 y315 x5_1).f0, (rd_T76 y315 x5_1).f1, (rd_T76 y315 x5_1).f2, (rd_T76 y315 x5_1).f3, wrap64 ((wrap64 ((wrap64 ((wrap64 (x1_1 + 1)) + 1)) + 1)) + 1)⟩ : S76) ) (fun _ hk => hk); have hx19_4 := hcc19 4 _ rfl; (try simp only [show (k76).sz = 5 from rfl, Nat.mul_one, Nat.add_zero] at hx19_4); have hf19_4 := hfr19 4; (try simp only [show (k76).sz = 5 from rfl, Nat.mul_one, Nat.add_zero] at hf19_4); clear hcl19 hcc19 hfr19; (try clear hM19)) | ((with_reducible refine gate_store (t := 3) (p := 44) rfl ?_); refine store_event (t := 3) (p := 44) (v := ?vo_w20) (w1 := (w18.setCell ⟨go5, (x5_1 : Int).toNat * 5 + 4, none⟩ (.int .i64 (wrap64 ((wrap64 ((wrap64 ((wrap64 (x1_1 + 1)) + 1)) + 1)) + 1))))) ?hg ?ho ?hn ?hr ?_; (case ho => rfl); (case hg => rfl); (case hn => rfl); (case hr => first | (go_simp; done) | (go_simp; rfl)); intro w20 hw; have hg : w18.grownBy w20 (some go5) := (by rw [hw]; exact HP19.2); have hp_ : Kd.R k76 76 w20 w0.heap.size (fun k_ => (P0_ k_ ∨ w.heap.size ≤ k_)) (.slice (some ⟨go5, 0, none⟩) x0_1.length co10) y316 := (by rw [hw, Ny316.out]; exact HP19.1); clear HP19; replace HB := AM_ ((by rw [hw]; exact below_set (HB.out) GB5.out : Below w0.heap.size w0 w20)); replace HK := AM_ (Kept.of_grown (S := (fun k_ => P0_ k_)) hg (by repeat (first | (with_reducible first | exact HK.out | apply Kept.alloc | apply Kept.drewN | apply Kept.drew) | exact HK.out)) (fun k_ e_ => (HO_0.out.1 k_ e_))); replace HO_0 := AM_ (hp_); clear hg hw hp_))
   go_roundg k1
   case measure => have := HK1.out; omega
   case rel => exact ⟨(y316), (wrap64 ((wrap64 ((wrap64 ((wrap64 ((wrap64 (x1_1 + 1)) + 1)) + 1)) + 1)) + 1)), (wrap64 (x5_1 + 1)), (by first | rfl | (simp; done) | (simp [*]; done)), (by first | rfl | (simp; done) | (simp [*]; done)), H', ⟨by have := HK1.out; omega⟩, ⟨RT HO_0.out⟩, ⟨by repeat (first | (with_reducible first | exact HK.out | apply Kept.alloc | apply Kept.drewN | apply Kept.drew) | exact HK.out)⟩, ⟨BT HB.out⟩⟩

/-! ### laws_markVersionSS: function 144 -/
/-- A row of rows: the blocks that it leads to, told by a name. -/
theorem laws_markVersionSS_nest {α : Type} {d : Kd α} {e : Nat} {w : World} {base : Nat} {ok : Nat → Prop} {v : Value} {xs : List α} (h : Kd.S d e w base ok v xs) : ∃ P : Nat → Prop, Kd.S d e w base P v xs ∧ (∀ k, P k → ok k) ∧ (∀ k, P k → ∃ q, q ∈ e :: d.E ∧ ∃ cells, w.heap[k]? = some (.cells cells q (0, 0))) :=
 ⟨_, Kd.S_bound h, fun _ hk => hk.1, fun _ hk => hk.2.2.2⟩
/-- A plain row apart from them. -/
theorem laws_markVersionSS_apart {α : Type} {d : Kd α} {e : Nat} {w : World} {base : Nat} {ok P : Nat → Prop} {v : Value} {xs : List α} (hE : d.E = []) (h : d.R e w base ok v xs) (hs : ∀ k, v.ownBlock = some k → ¬ P k) : d.R e w base (fun k => ok k ∧ ¬ P k) v xs :=
 Kd.R_mono (Kd.R_tight2 hE h) (fun k hk => ⟨hk.2, hs k hk.1.symm⟩)
theorem laws_markVersionSS_types {w : World} {k e' : Nat} {L : List Nat} (h1 : ∃ cells, w.heap[k]? = some (.cells cells e' (0, 0))) (h2 : ∃ q, q ∈ L ∧ ∃ cells, w.heap[k]? = some (.cells cells q (0, 0))) (hL : ∀ q, q ∈ L → q ≠ e') : False := by
 obtain ⟨c1, h1⟩ := h1
 obtain ⟨q, hq, c2, h2⟩ := h2
 rw [h1] at h2
 injection h2 with h2
 injection h2 with _ h3
 exact hL q hq h3.symm
def laws_markVersionSS.l0 : Nat → List (List (S76)) → Int → Int → Option Int
 | 0, _, _, _ => none
 | k + 1, x0, x1, x5 => if x5 < (x0.length : Int) then (if 0 ≤ x5 then ((laws_markVersionS.f k (x0.getD (x5 : Int).toNat []) x1).bind fun bt => (laws_markVersionSS.l0 k (x0.set (x5 : Int).toNat bt.2) bt.1 (wrap64 (x5 + 1)))) else (none)) else (some x1)
def laws_markVersionSS.f (k : Nat) (l0 : List (List (S76))) (a1 : Int) : Option Int := laws_markVersionSS.l0 k l0 a1 0
theorem laws_markVersionSS.mono_l : ∀ k, (∀ y0 y1 y2, LeO (laws_markVersionSS.l0 k y0 y1 y2) (laws_markVersionSS.l0 (k + 1) y0 y1 y2))
 | 0 => fun _ _ _ r h => by simp [laws_markVersionSS.l0] at h
 | k + 1 => by
  have ih0 := laws_markVersionSS.mono_l k
  ·intro y0 y1 y2
   unfold laws_markVersionSS.l0
   repeat' first
   | (with_reducible exact ih0 _ _ _)
   | (with_reducible exact laws_markVersionS.mono _ _ _)
   | (with_reducible exact LeO.refl _)
   | (with_reducible exact LeO.none _)
   | (with_reducible refine LeO.ite ?_ ?_)
   | (with_reducible refine LeO.bind ?_ (fun _ => ?_))
   | exact ih0 _ _ _
   | exact laws_markVersionS.mono _ _ _
   | exact LeO.none _
   | refine LeO.ite ?_ ?_
   | refine LeO.bind ?_ (fun _ => ?_)
theorem laws_markVersionSS.mono : ∀ a0 a1 k, LeO (laws_markVersionSS.f k a0 a1) (laws_markVersionSS.f (k + 1) a0 a1) := by
 intro a0 a1 k
 unfold laws_markVersionSS.f
 exact laws_markVersionSS.mono_l k _ _ _
set_option maxHeartbeats 8000000 in
set_option maxRecDepth 100000 in
theorem laws_markVersionSS.calls (k : Nat) (P0_ : Nat → Prop) (u9000_ : Value) (l0 : List (List (S76))) (a1 : Int) (r1 : Int) (w0 w : World) (hB : Below w0.heap.size w0 w) (ho0 : Kd.S (Kd.slice 76 k76) 90 w w0.heap.size P0_ u9000_ l0) (h : laws_markVersionSS.f k l0 a1 = some r1) :
  Calls Try.prog 144 #[u9000_, .int .i64 a1] w fun e w' => e = .returned (.int .i64 r1) ∧ Below w0.heap.size w0 w' ∧ Kept w w' (fun k_ => P0_ k_) := by
 have HO0 := AM_ (show Kd.S (Kd.slice 76 k76) 90 w w0.heap.size (fun k_ => (P0_ k_ ∨ w.heap.size ≤ k_)) u9000_ l0 from Kd.S_mono ho0 (fun k_ hk => (.inl hk)))
 have HK := AM_ (Kept.refl w (fun k_ => P0_ k_))
 have HB := AM_ hB
 clear hB ho0
 have H : (laws_markVersionSS.l0 k l0 a1 0) = some r1 := h
 clear h
 have H' := AM_ H
 clear H
 go_enter Try.func144, Try.ntmps144
 go_wp2
 go_loopg [1, 5] k (fun kq v1 v5 w' => ∃ (x0_1 : List (List (S76))) (x1_1 : Int) (x5_1 : Int), v1 = .int .i64 x1_1 ∧ v5 = .int .i64 x5_1 ∧ Aside0 (laws_markVersionSS.l0 kq x0_1 x1_1 x5_1 = some r1) ∧ Aside0 (kq ≤ k) ∧ Aside0 (Kd.S (Kd.slice 76 k76) 90 w' w0.heap.size (fun k_ => (P0_ k_ ∨ w.heap.size ≤ k_)) u9000_ x0_1) ∧ Aside0 (Kept w w' (fun k_ => P0_ k_)) ∧ Aside0 (Below w0.heap.size w0 w'))
 case atStart => exact ⟨(l0), (a1), (0), (by first | rfl | (simp; done) | (simp [*]; done)), (by first | rfl | (simp; done) | (simp [*]; done)), H', ⟨Nat.le_refl _⟩, ⟨ST HO0.out⟩, ⟨by repeat (first | (with_reducible first | exact HK.out | apply Kept.alloc | apply Kept.drewN | apply Kept.drew) | exact HK.out)⟩, ⟨BT HB.out⟩⟩
 case round =>
  clear H' HO0 HK HB
  obtain ⟨x0_1, x1_1, x5_1, rfl, rfl, HA, HK1, HO_0, HK, HB⟩ := hrel
  cases gk with
  | zero => exact absurd HA.out (by simp [laws_markVersionSS.l0])
  | succ k1 =>
   have H := HA.out
   clear HA
   simp only [laws_markVersionSS.l0] at H
   by_cases c3 : x5_1 < (x0_1.length : Int)
   rotate_left
   ·rw [if_neg c3] at H
    have c3b0 : decide (x5_1 < (x0_1.length : Int)) = false := decide_eq_false c3
    clear c3
    simp only [Option.some.injEq] at H
    subst H
    obtain ⟨Ao24, co24, eo24⟩ := Kd.S_slice HO_0.out
    subst eo24
    go_wp2
    go_ret
    exact ⟨by first | rfl | (simp [errW_none, errW_some] <;> rfl) | (simp [*, errW_none, errW_some] <;> rfl), BT HB.out, by repeat (first | (with_reducible first | exact HK.out | apply Kept.alloc | apply Kept.drewN | apply Kept.drew) | exact HK.out)⟩
   rw [if_pos c3] at H
   have c3b0 : decide (x5_1 < (x0_1.length : Int)) = true := decide_eq_true c3
   clear c3
   by_cases c4 : 0 ≤ x5_1
   rotate_left
   ·rw [if_neg c4] at H
    exact absurd H (by simp)
   rw [if_pos c4] at H
   have c4b0 : decide (0 ≤ x5_1) = true := decide_eq_true c4
   clear c4
   replace H := Option.bind_eq_some_iff.mp H
   obtain ⟨⟨t1, t2⟩, A70, H⟩ := H
   replace H : (laws_markVersionSS.l0 k1 (x0_1.set (x5_1 : Int).toNat t2) t1 (wrap64 (x5_1 + 1))) = some r1 := H
   obtain ⟨el5, hel5⟩ : ∃ y_ : List (S76), y_ = x0_1.getD (x5_1 : Int).toNat [] := ⟨_, rfl⟩
   rw [← hel5] at A70
   have A7 := AM_ A70
   clear A70
   have H' := AM_ H
   clear H
   obtain ⟨Ao11, co11, eo11⟩ := Kd.S_slice HO_0.out
   subst eo11
   have p5 : 0 ≤ (x5_1 : Int) := DT
   have q5 : (x5_1 : Int) < ((x0_1.length : Int) : Int) := DT
   obtain ⟨go5, co5, eo5, gb5, gl5, cl5, HG5⟩ := Kd.S_form HO_0.out (by omega)
   (first | cases eo5 | (injection eo5 with ea_ en_ ec_; (first | subst ea_ | (injection ea_ with ea_; subst ea_)); subst ec_; clear en_))
   clear gb5 gl5 HG5
   obtain ⟨oki5, cs5, hcl5, hM5, hcc5, hoki5, hH5⟩ := Kd.S_lend HO_0.out ([] : List (S76)) (x5_1 : Int) p5 q5
   rw [← hel5] at hM5
   clear hel5
   obtain ⟨v5, rfl, hR5⟩ := hM5
   obtain ⟨Av5, cv5, ev5⟩ := Kd.R_slice hR5
   subst ev5
   have hx5_0 : wr.cell? ⟨go5, (x5_1 : Int).toNat, none⟩ = some (.slice Av5 el5.length cv5) := by
    have h_ := hcc5 0 _ rfl
    rwa [show (Kd.slice 76 k76).sz = 1 from rfl, Nat.mul_one, Nat.add_zero] at h_
   have HR5 := AM_ hR5
   have HH5 := AM_ hH5
   have HI5 := AM_ hoki5
   clear hcl5 hcc5 hR5 hH5 hoki5
   replace p5 := eq_true p5
   replace q5 := eq_true q5
   go_wp2_with (first | (go_at_call 64; (with_reducible refine (laws_markVersionS.calls k1 oki5 (.slice Av5 el5.length cv5) el5 x1_1 t1 t2 w0 _ ?side1 ?side2 A7.out).mono ?_); (case side1 => repeat (first | (with_reducible first | exact HB.out | apply below_alloc | apply pw_below_drewN | apply below_drew1) | exact HB.out)); (case side2 => (with_reducible repeat (first | apply Kd.R_alloc | apply Kd.R_drewN | apply Kd.R_drew)); exact HR5.out); rintro e w13 ⟨rfl, hy0, hb, hkp⟩; have n0_ := AM_ (Kept.then_ (S := fun k_ => P0_ k_) (w := w) (by repeat (first | (with_reducible first | exact HK.out | apply Kept.alloc | apply Kept.drewN | apply Kept.drew) | exact HK.out)) hkp (fun k_ hk_ => (HI5.out k_ hk_).1)); have hH_ : Kd.H (Kd.slice 76 k76) 90 w13 w0.heap.size (fun k_ => (P0_ k_ ∨ w.heap.size ≤ k_)) (.slice (some ⟨go5, 0, none⟩) x0_1.length co11) x0_1 x5_1 (fun k_ => oki5 k_ ∨ (P0_ k_ ∨ w.heap.size ≤ k_) ∧ wr.heap.size ≤ k_) [.slice Av5 el5.length cv5] := Kd.H_kept (Kd.H_widen HH5.out) hkp (fun k_ _ hn_ hs_ => hn_ (Or.inl hs_)); have hM_ : (Kd.slice 76 k76).M w13 w0.heap.size (fun k_ => oki5 k_ ∨ wr.heap.size ≤ k_) t2 [.slice Av5 el5.length cv5] := ⟨_, rfl, hy0⟩; have n1_ := AM_ (Kd.H_back hH_ hM_ (fun k_ hk_ => Or.elim hk_ Or.inl (fun h_ => Or.inr ⟨Or.inr (Nat.le_trans HK.out.1 h_), h_⟩))); clear hH_ hM_; clear HO_0; clear HK; clear HB; have HO_0 := n1_; have HK := n0_; have HB := AM_ hb; clear n0_ n1_ hb hkp hy0 HR5 HH5 HI5))
   go_roundg k1
   case measure => have := HK1.out; omega
   case rel => exact ⟨(x0_1.set (x5_1 : Int).toNat t2), (t1), (wrap64 (x5_1 + 1)), (by first | rfl | (simp; done) | (simp [*]; done)), (by first | rfl | (simp; done) | (simp [*]; done)), H', ⟨by have := HK1.out; omega⟩, ⟨ST HO_0.out⟩, ⟨by repeat (first | (with_reducible first | exact HK.out | apply Kept.alloc | apply Kept.drewN | apply Kept.drew) | exact HK.out)⟩, ⟨BT HB.out⟩⟩

end Go.Proofs.Ytakpkmlbklahhaa.PFnExactInstalledVersions
