-- Printed by wip/myprint.py.
import Derived.Test.YtdfbmaiboadodaaGreatDoorPFnExactParseHistoryx10
namespace Go.Proofs.YtdfbmaiboadodaaGreatDoor.PFnExactParseHistory
open Go.RowKit Go.Proofs.YtdfbmaiboadodaaGreatDoorW.PrintWords Go.Proofs.YtdfbmaiboadodaaGreatDoorW.PrintLast Go.Proofs.YtdfbmaiboadodaaGreatDoorW.PrintMore
set_option maxHeartbeats 8000000
set_option maxRecDepth 100000
set_option linter.unusedVariables false
set_option linter.unusedSimpArgs false

/-! ### impl_isValue: function 95 -/
def impl_isValue.f (a0 : Int) : Option (Bool) := (impl_in.f a0 (-1) 99).bind fun t328 => (some t328)
theorem impl_isValue.calls (a0 : Int) (r : Bool) (w : World) (h : impl_isValue.f a0 = some r) :
  Calls Tryz.prog 95 #[.int .i64 a0] w fun e w' => e = .returned (.bool r) ∧ Drawn0 w w' := by
 have H : ((impl_in.f a0 (-1) 99).bind fun t328 => (some t328)) = some r := h
 clear h
 replace H := Option.bind_eq_some_iff.mp H
 obtain ⟨t328, A20, H⟩ := H
 replace H : (some t328) = some r := H
 have A2 := AM_ A20
 clear A20
 obtain rfl := Option.some.inj H
 go_enter Tryz.func95, Tryz.ntmps95
 go_wp2_with (first | ((with_reducible refine gate_callee (f := 30) rfl ?_); refine goesL_ (some 4) rfl rfl Tryz.func30 (by kernel_rfl) rfl #[.int .i64 a0, .int .i64 (-1), .int .i64 99] rfl (by (try simp only [List.map_toArray, List.map_cons, List.map_nil]); first | done | rfl | (simp only [List.length_drop, List.length_take]; rfl)) ?_; (with_reducible refine (impl_in.calls a0 (-1) 99 t328 _ A2.out).mono ?_); rintro e w' ⟨rfl, ⟨nd, rfl⟩⟩; refine ⟨_, rfl, ?_⟩))
 go_ret
 exact ⟨by first | rfl | (simp; done) | (simp [*]; done), by repeat (first | exact Drawn0.refl _ | apply Drawn0.step)⟩

/-! ### impl_areWrites: function 77 -/
mutual
def impl_areWrites.l0 : Nat → List (S50) → List (S50) → Int → Int → Option (Bool)
 | 0, _, _, _, _ => none
 | k + 1, x0, x5, x6, x7 => if x7 < x6 then (if 0 ≤ x7 then (if x7 < (x5.length : Int) then ((impl_isKey.f ((rd_T50 x5 x7).f0)).bind fun t331 => (if t331 = true then ((impl_isValue.f ((rd_T50 x5 x7).f1)).bind fun t332 => (if t332 = true then (if x7 > 0 then (if 0 ≤ (wrap64 (x7 - 1)) then (if (wrap64 (x7 - 1)) < (x0.length : Int) then (impl_areWrites.j1 k x0 x7 x5 x6 (decide (((rd_T50 x0 (wrap64 (x7 - 1))).f0) ≥ ((rd_T50 x5 x7).f0)))) else (none)) else (none)) else (impl_areWrites.j1 k x0 x7 x5 x6 false)) else (impl_areWrites.j1 k x0 x7 x5 x6 true))) else (impl_areWrites.j1 k x0 x7 x5 x6 true))) else (none)) else (none)) else (some true)
def impl_areWrites.j1 : Nat → List (S50) → Int → List (S50) → Int → Bool → Option (Bool)
 | 0, _, _, _, _, _ => none
 | k + 1, x0, x3, x5, x6, x36 => if x36 = true then (some false) else (impl_areWrites.l0 k x0 x5 x6 (wrap64 (x3 + 1)))
end
def impl_areWrites.f (k : Nat) (l0 : List (S50)) : Option (Bool) := impl_areWrites.l0 k l0 l0 (l0.length : Int) 0
theorem impl_areWrites.mono_l : ∀ k, (∀ y0 y1 y2 y3, LeO (impl_areWrites.l0 k y0 y1 y2 y3) (impl_areWrites.l0 (k + 1) y0 y1 y2 y3)) ∧ (∀ y0 y1 y2 y3 y4, LeO (impl_areWrites.j1 k y0 y1 y2 y3 y4) (impl_areWrites.j1 (k + 1) y0 y1 y2 y3 y4))
 | 0 => ⟨fun _ _ _ _ r h => by simp [impl_areWrites.l0] at h, fun _ _ _ _ _ r h => by simp [impl_areWrites.j1] at h⟩
 | k + 1 => by
  obtain ⟨ih0, ih1⟩ := impl_areWrites.mono_l k
  refine ⟨?_, ?_⟩
  ·intro y0 y1 y2 y3
   unfold impl_areWrites.l0
   repeat' first
   | (with_reducible exact ih0 _ _ _ _)
   | (with_reducible exact ih1 _ _ _ _ _)
   | (with_reducible first | exact LeO.refl _ | exact LeO.none _ | refine LeO.ite ?_ ?_ | refine LeO.bind ?_ (fun _ => ?_))
   | exact ih0 _ _ _ _
   | exact ih1 _ _ _ _ _
   | exact LeO.none _ | refine LeO.ite ?_ ?_ | refine LeO.bind ?_ (fun _ => ?_)
  ·intro y0 y1 y2 y3 y4
   unfold impl_areWrites.j1
   repeat' first
   | (with_reducible exact ih0 _ _ _ _)
   | (with_reducible exact ih1 _ _ _ _ _)
   | (with_reducible first | exact LeO.refl _ | exact LeO.none _ | refine LeO.ite ?_ ?_ | refine LeO.bind ?_ (fun _ => ?_))
   | exact ih0 _ _ _ _
   | exact ih1 _ _ _ _ _
   | exact LeO.none _ | refine LeO.ite ?_ ?_ | refine LeO.bind ?_ (fun _ => ?_)
theorem impl_areWrites.mono : ∀ a0 k, LeO (impl_areWrites.f k a0) (impl_areWrites.f (k + 1) a0) := by
 intro a0 k
 obtain ⟨ih0, ih1⟩ := impl_areWrites.mono_l k
 unfold impl_areWrites.f
 repeat' first
   | (with_reducible exact ih0 _ _ _ _)
   | (with_reducible exact ih1 _ _ _ _ _)
   | (with_reducible first | exact LeO.refl _ | exact LeO.none _ | refine LeO.ite ?_ ?_ | refine LeO.bind ?_ (fun _ => ?_))
   | exact ih0 _ _ _ _
   | exact ih1 _ _ _ _ _
   | exact LeO.none _ | refine LeO.ite ?_ ?_ | refine LeO.bind ?_ (fun _ => ?_)
theorem impl_areWrites.calls (k : Nat) (A0 : Option Addr) (c0 : Nat) (l0 : List (S50)) (r : Bool) (w : World) (hr0 : Kd.C k50 w A0 l0.length l0) (hc0 : l0.length ≤ c0) (h : impl_areWrites.f k l0 = some r) :
  Calls Tryz.prog 77 #[.slice A0 l0.length c0] w fun e w' => e = .returned (.bool r) ∧ Below w.heap.size w w' := by
 have hu50 := Tryz.underlying50
 have HR0 := AM_ hr0
 have HC0 := AM_ hc0
 clear hr0 hc0
 have HB := AM_ (Below.refl w.heap.size w)
 have H : (impl_areWrites.l0 k l0 l0 (l0.length : Int) 0) = some r := h
 clear h
 have H' := AM_ H
 clear H
 go_enter Tryz.func77, Tryz.ntmps77
 go_wp2
 repeat (go_quiet (fail); try go_wp2)
 go_loopg [7] k (fun kq v7 w' => ∃ (x7_1 : Int), v7 = .int .i64 x7_1 ∧ Aside0 (impl_areWrites.l0 kq l0 l0 (l0.length : Int) x7_1 = some r) ∧ Aside0 (kq ≤ k) ∧ Aside0 (Below w.heap.size w w'))
 case atStart => exact ⟨(0), (by first | rfl | (simp; done) | (simp [*]; done)), H', ⟨Nat.le_refl _⟩, ⟨BT HB.out⟩⟩
 case round =>
  clear H'
  obtain ⟨x7_1, rfl, HA, HK1, HB⟩ := hrel
  cases gk with
  | zero => exact absurd HA.out (by simp [impl_areWrites.l0])
  | succ k1 =>
   have H := HA.out
   clear HA
   simp only [impl_areWrites.l0] at H
   by_cases c2 : x7_1 < (l0.length : Int)
   rotate_left
   ·rw [if_neg c2] at H
    have c2b0 : decide (x7_1 < (l0.length : Int)) = false := decide_eq_false c2
    clear c2
    obtain rfl := Option.some.inj H
    go_wp2
    repeat (go_quiet (fail); try go_wp2)
    go_ret
    exact QT (BT HB.out)
   rw [if_pos c2] at H
   have c2b0 : decide (x7_1 < (l0.length : Int)) = true := decide_eq_true c2
   clear c2
   replace H := HI H
   obtain ⟨c3, H⟩ := H
   have c3b0 : decide (0 ≤ x7_1) = true := decide_eq_true c3
   clear c3
   replace H := HI H
   obtain ⟨c4, H⟩ := H
   have c4b0 : decide (x7_1 < (l0.length : Int)) = true := decide_eq_true c4
   clear c4
   have HC5 := AM_ H
   clear H
   have p329 : 0 ≤ (x7_1 : Int) := DT
   have q329 : x7_1 < (l0.length : Int) := DT
   obtain ⟨ad329, e329, hx329_0, hx329_1⟩ := at_T50 HR0.out x7_1 p329 q329
   cases e329
   replace hx329_0 := BC HB.out hx329_0
   replace hx329_1 := BC HB.out hx329_1
   replace p329 := eq_true p329
   replace q329 := eq_true q329
   go_upto_region 4 with (first | ((with_reducible refine gate_dst (N := 4) rfl ?_); refine box_event ?hg (N := 4) ?hd (cs := #[.int .i64 0, .int .i64 0]) (t := 50) ?hr ?_; (case hd => rfl); (case hg => rfl); (case hr => first | (go_simp; done) | (go_simp; rfl)); intro gb330 hg w6 hbox hb; have BK330 := AM_ (hbox); have GW330 := AM_ ((GS HB.out hg)); have GE330 := AM_ ((GS HB.out hg)); replace HB := AM_ (below_step (BT HB.out) hb); clear hb hbox hg; obtain ⟨hcz7_0, hcz7_1, hfz7_0, hfz7_1⟩ := bk2 BK330.out))
   repeat (go_quiet (first | ((with_reducible refine gate_dst (N := 4) rfl ?_); refine box_event ?hg (N := 4) ?hd (cs := #[.int .i64 0, .int .i64 0]) (t := 50) ?hr ?_; (case hd => rfl); (case hg => rfl); (case hr => first | (go_simp; done) | (go_simp; rfl)); intro gb330 hg w6 hbox hb; have BK330 := AM_ (hbox); have GW330 := AM_ ((GS HB.out hg)); have GE330 := AM_ ((GS HB.out hg)); replace HB := AM_ (below_step (BT HB.out) hb); clear hb hbox hg; obtain ⟨hcz7_0, hcz7_1, hfz7_0, hfz7_1⟩ := bk2 BK330.out)); go_upto_region 4 with (first | ((with_reducible refine gate_dst (N := 4) rfl ?_); refine box_event ?hg (N := 4) ?hd (cs := #[.int .i64 0, .int .i64 0]) (t := 50) ?hr ?_; (case hd => rfl); (case hg => rfl); (case hr => first | (go_simp; done) | (go_simp; rfl)); intro gb330 hg w6 hbox hb; have BK330 := AM_ (hbox); have GW330 := AM_ ((GS HB.out hg)); have GE330 := AM_ ((GS HB.out hg)); replace HB := AM_ (below_step (BT HB.out) hb); clear hb hbox hg; obtain ⟨hcz7_0, hcz7_1, hfz7_0, hfz7_1⟩ := bk2 BK330.out)))
   (try simp only [pA, pS, pZ, pK])
   go_cut [36] (fun v36 wc => ∃ (kq : Nat) (x36_4 : Bool), v36 = .bool x36_4 ∧ Aside0 (impl_areWrites.j1 kq l0 x7_1 l0 (l0.length : Int) x36_4 = some r) ∧ Aside0 (kq ≤ k1) ∧ Aside0 (wc.heap[gb330]? = some (.cells #[.int .i64 ((rd_T50 l0 x7_1).f0), .int .i64 ((rd_T50 l0 x7_1).f1)] 50 (0, 0))) ∧ Aside0 (Below w.heap.size w wc))
   case first =>
    have H := HC5.out
    clear HC5
    replace H := Option.bind_eq_some_iff.mp H
    obtain ⟨t331, A80, H⟩ := H
    replace H : (if t331 = true then ((impl_isValue.f ((rd_T50 l0 x7_1).f1)).bind fun t332 => (if t332 = true then (if x7_1 > 0 then (if 0 ≤ (wrap64 (x7_1 - 1)) then (if (wrap64 (x7_1 - 1)) < (l0.length : Int) then (impl_areWrites.j1 k1 l0 x7_1 l0 (l0.length : Int) (decide (((rd_T50 l0 (wrap64 (x7_1 - 1))).f0) ≥ ((rd_T50 l0 x7_1).f0)))) else (none)) else (none)) else (impl_areWrites.j1 k1 l0 x7_1 l0 (l0.length : Int) false)) else (impl_areWrites.j1 k1 l0 x7_1 l0 (l0.length : Int) true))) else (impl_areWrites.j1 k1 l0 x7_1 l0 (l0.length : Int) true)) = some r := H
    have A8 := AM_ A80
    clear A80
    by_cases c9 : t331 = true
    rotate_left
    ·replace c9 := Bool.eq_false_iff.mpr c9
     subst c9
     have H1 : (impl_areWrites.j1 k1 l0 x7_1 l0 (l0.length : Int) true) = some r := by rw [if_neg (show ¬ (false = true) by decide)] at H; exact H
     clear H
     have H := H1
     clear H1
     have H' := AM_ H
     clear H
     obtain ⟨hcz19_0, hcz19_1, hfz19_0, hfz19_1⟩ := bk2 BK330.out
     go_wp2_with (first | (go_at_call 93; (with_reducible refine (impl_isKey.calls ((rd_T50 l0 x7_1).f0) false _ A8.out).mono ?_); rintro e w' ⟨rfl, ⟨nd, rfl⟩⟩; (try first | exact ⟨rfl, _, World.drewN_drewN _ _ _⟩ | exact ⟨rfl, _, Eq.trans (World.drewN_drewN _ _ _) (congrArg (World.drewN _) (Nat.add_assoc _ _ _))⟩)))
     repeat (go_quiet (first | (go_at_call 93; (with_reducible refine (impl_isKey.calls ((rd_T50 l0 x7_1).f0) false _ A8.out).mono ?_); rintro e w' ⟨rfl, ⟨nd, rfl⟩⟩; (try first | exact ⟨rfl, _, World.drewN_drewN _ _ _⟩ | exact ⟨rfl, _, Eq.trans (World.drewN_drewN _ _ _) (congrArg (World.drewN _) (Nat.add_assoc _ _ _))⟩))); try go_wp2_with (first | (go_at_call 93; (with_reducible refine (impl_isKey.calls ((rd_T50 l0 x7_1).f0) false _ A8.out).mono ?_); rintro e w' ⟨rfl, ⟨nd, rfl⟩⟩; (try first | exact ⟨rfl, _, World.drewN_drewN _ _ _⟩ | exact ⟨rfl, _, Eq.trans (World.drewN_drewN _ _ _) (congrArg (World.drewN _) (Nat.add_assoc _ _ _))⟩))))
     go_meet
     case rel => exact ⟨_, (true), (by first | rfl | (simp; done) | (simp [*]; done)), H', ⟨by have := HK1.out; first | omega | exact Nat.le_refl _⟩, ⟨BQ BK330.out⟩, ⟨BT HB.out⟩⟩
    subst c9
    have H1 : ((impl_isValue.f ((rd_T50 l0 x7_1).f1)).bind fun t332 => (if t332 = true then (if x7_1 > 0 then (if 0 ≤ (wrap64 (x7_1 - 1)) then (if (wrap64 (x7_1 - 1)) < (l0.length : Int) then (impl_areWrites.j1 k1 l0 x7_1 l0 (l0.length : Int) (decide (((rd_T50 l0 (wrap64 (x7_1 - 1))).f0) ≥ ((rd_T50 l0 x7_1).f0)))) else (none)) else (none)) else (impl_areWrites.j1 k1 l0 x7_1 l0 (l0.length : Int) false)) else (impl_areWrites.j1 k1 l0 x7_1 l0 (l0.length : Int) true))) = some r := by rw [if_pos rfl] at H; exact H
    clear H
    have H := H1
    clear H1
    replace H := Option.bind_eq_some_iff.mp H
    obtain ⟨t332, A100, H⟩ := H
    replace H : (if t332 = true then (if x7_1 > 0 then (if 0 ≤ (wrap64 (x7_1 - 1)) then (if (wrap64 (x7_1 - 1)) < (l0.length : Int) then (impl_areWrites.j1 k1 l0 x7_1 l0 (l0.length : Int) (decide (((rd_T50 l0 (wrap64 (x7_1 - 1))).f0) ≥ ((rd_T50 l0 x7_1).f0)))) else (none)) else (none)) else (impl_areWrites.j1 k1 l0 x7_1 l0 (l0.length : Int) false)) else (impl_areWrites.j1 k1 l0 x7_1 l0 (l0.length : Int) true)) = some r := H
    have A10 := AM_ A100
    clear A100
    by_cases c11 : t332 = true
    rotate_left
    ·replace c11 := Bool.eq_false_iff.mpr c11
     subst c11
     have H1 : (impl_areWrites.j1 k1 l0 x7_1 l0 (l0.length : Int) true) = some r := by rw [if_neg (show ¬ (false = true) by decide)] at H; exact H
     clear H
     have H := H1
     clear H1
     have H' := AM_ H
     clear H
     obtain ⟨hcz18_0, hcz18_1, hfz18_0, hfz18_1⟩ := bk2 BK330.out
     go_wp2_with (first | (go_at_call 93; (with_reducible refine (impl_isKey.calls ((rd_T50 l0 x7_1).f0) true _ A8.out).mono ?_); rintro e w' ⟨rfl, ⟨nd, rfl⟩⟩; (try first | exact ⟨rfl, _, World.drewN_drewN _ _ _⟩ | exact ⟨rfl, _, Eq.trans (World.drewN_drewN _ _ _) (congrArg (World.drewN _) (Nat.add_assoc _ _ _))⟩)) | (go_at_call 95; (with_reducible refine (impl_isValue.calls ((rd_T50 l0 x7_1).f1) false _ A10.out).mono ?_); rintro e w' ⟨rfl, ⟨nd, rfl⟩⟩; (try first | exact ⟨rfl, _, World.drewN_drewN _ _ _⟩ | exact ⟨rfl, _, Eq.trans (World.drewN_drewN _ _ _) (congrArg (World.drewN _) (Nat.add_assoc _ _ _))⟩)))
     repeat (go_quiet (first | (go_at_call 93; (with_reducible refine (impl_isKey.calls ((rd_T50 l0 x7_1).f0) true _ A8.out).mono ?_); rintro e w' ⟨rfl, ⟨nd, rfl⟩⟩; (try first | exact ⟨rfl, _, World.drewN_drewN _ _ _⟩ | exact ⟨rfl, _, Eq.trans (World.drewN_drewN _ _ _) (congrArg (World.drewN _) (Nat.add_assoc _ _ _))⟩)) | (go_at_call 95; (with_reducible refine (impl_isValue.calls ((rd_T50 l0 x7_1).f1) false _ A10.out).mono ?_); rintro e w' ⟨rfl, ⟨nd, rfl⟩⟩; (try first | exact ⟨rfl, _, World.drewN_drewN _ _ _⟩ | exact ⟨rfl, _, Eq.trans (World.drewN_drewN _ _ _) (congrArg (World.drewN _) (Nat.add_assoc _ _ _))⟩))); try go_wp2_with (first | (go_at_call 93; (with_reducible refine (impl_isKey.calls ((rd_T50 l0 x7_1).f0) true _ A8.out).mono ?_); rintro e w' ⟨rfl, ⟨nd, rfl⟩⟩; (try first | exact ⟨rfl, _, World.drewN_drewN _ _ _⟩ | exact ⟨rfl, _, Eq.trans (World.drewN_drewN _ _ _) (congrArg (World.drewN _) (Nat.add_assoc _ _ _))⟩)) | (go_at_call 95; (with_reducible refine (impl_isValue.calls ((rd_T50 l0 x7_1).f1) false _ A10.out).mono ?_); rintro e w' ⟨rfl, ⟨nd, rfl⟩⟩; (try first | exact ⟨rfl, _, World.drewN_drewN _ _ _⟩ | exact ⟨rfl, _, Eq.trans (World.drewN_drewN _ _ _) (congrArg (World.drewN _) (Nat.add_assoc _ _ _))⟩))))
     go_meet
     case rel => exact ⟨_, (true), (by first | rfl | (simp; done) | (simp [*]; done)), H', ⟨by have := HK1.out; first | omega | exact Nat.le_refl _⟩, ⟨BQ BK330.out⟩, ⟨BT HB.out⟩⟩
    subst c11
    have H1 : (if x7_1 > 0 then (if 0 ≤ (wrap64 (x7_1 - 1)) then (if (wrap64 (x7_1 - 1)) < (l0.length : Int) then (impl_areWrites.j1 k1 l0 x7_1 l0 (l0.length : Int) (decide (((rd_T50 l0 (wrap64 (x7_1 - 1))).f0) ≥ ((rd_T50 l0 x7_1).f0)))) else (none)) else (none)) else (impl_areWrites.j1 k1 l0 x7_1 l0 (l0.length : Int) false)) = some r := by rw [if_pos rfl] at H; exact H
    clear H
    have H := H1
    clear H1
    by_cases c12 : x7_1 > 0
    rotate_left
    ·rw [if_neg c12] at H
     have c12b0 : decide (0 < x7_1) = false := decide_eq_false c12
     clear c12
     (first | rw [c12b0] | (simp only [i64_w, i32_w]; rw [c12b0]) | skip)
     have H' := AM_ H
     clear H
     obtain ⟨hcz17_0, hcz17_1, hfz17_0, hfz17_1⟩ := bk2 BK330.out
     go_wp2_with (first | (go_at_call 93; (with_reducible refine (impl_isKey.calls ((rd_T50 l0 x7_1).f0) true _ A8.out).mono ?_); rintro e w' ⟨rfl, ⟨nd, rfl⟩⟩; (try first | exact ⟨rfl, _, World.drewN_drewN _ _ _⟩ | exact ⟨rfl, _, Eq.trans (World.drewN_drewN _ _ _) (congrArg (World.drewN _) (Nat.add_assoc _ _ _))⟩)) | (go_at_call 95; (with_reducible refine (impl_isValue.calls ((rd_T50 l0 x7_1).f1) true _ A10.out).mono ?_); rintro e w' ⟨rfl, ⟨nd, rfl⟩⟩; (try first | exact ⟨rfl, _, World.drewN_drewN _ _ _⟩ | exact ⟨rfl, _, Eq.trans (World.drewN_drewN _ _ _) (congrArg (World.drewN _) (Nat.add_assoc _ _ _))⟩)))
     repeat (go_quiet (first | (go_at_call 93; (with_reducible refine (impl_isKey.calls ((rd_T50 l0 x7_1).f0) true _ A8.out).mono ?_); rintro e w' ⟨rfl, ⟨nd, rfl⟩⟩; (try first | exact ⟨rfl, _, World.drewN_drewN _ _ _⟩ | exact ⟨rfl, _, Eq.trans (World.drewN_drewN _ _ _) (congrArg (World.drewN _) (Nat.add_assoc _ _ _))⟩)) | (go_at_call 95; (with_reducible refine (impl_isValue.calls ((rd_T50 l0 x7_1).f1) true _ A10.out).mono ?_); rintro e w' ⟨rfl, ⟨nd, rfl⟩⟩; (try first | exact ⟨rfl, _, World.drewN_drewN _ _ _⟩ | exact ⟨rfl, _, Eq.trans (World.drewN_drewN _ _ _) (congrArg (World.drewN _) (Nat.add_assoc _ _ _))⟩))); try go_wp2_with (first | (go_at_call 93; (with_reducible refine (impl_isKey.calls ((rd_T50 l0 x7_1).f0) true _ A8.out).mono ?_); rintro e w' ⟨rfl, ⟨nd, rfl⟩⟩; (try first | exact ⟨rfl, _, World.drewN_drewN _ _ _⟩ | exact ⟨rfl, _, Eq.trans (World.drewN_drewN _ _ _) (congrArg (World.drewN _) (Nat.add_assoc _ _ _))⟩)) | (go_at_call 95; (with_reducible refine (impl_isValue.calls ((rd_T50 l0 x7_1).f1) true _ A10.out).mono ?_); rintro e w' ⟨rfl, ⟨nd, rfl⟩⟩; (try first | exact ⟨rfl, _, World.drewN_drewN _ _ _⟩ | exact ⟨rfl, _, Eq.trans (World.drewN_drewN _ _ _) (congrArg (World.drewN _) (Nat.add_assoc _ _ _))⟩))))
     go_meet
     case rel => exact ⟨_, (false), (by first | rfl | (simp; done) | (simp [*]; done)), H', ⟨by have := HK1.out; first | omega | exact Nat.le_refl _⟩, ⟨BQ BK330.out⟩, ⟨BT HB.out⟩⟩
    rw [if_pos c12] at H
    have c12b0 : decide (0 < x7_1) = true := decide_eq_true c12
    clear c12
    (first | rw [c12b0] | (simp only [i64_w, i32_w]; rw [c12b0]) | skip)
    obtain ⟨ji13, hji13⟩ : ∃ j_ : Int, (wrap64 (x7_1 - 1)) = j_ := ⟨_, rfl⟩
    replace H : (if 0 ≤ (ji13) then (if (ji13) < (l0.length : Int) then (impl_areWrites.j1 k1 l0 x7_1 l0 (l0.length : Int) (decide (((rd_T50 l0 (ji13)).f0) ≥ ((rd_T50 l0 x7_1).f0)))) else (none)) else (none)) = some r := by first | (rw [hji13] at H; exact H) | (simp only [hji13] at H ⊢; exact H)
    (try rw [hji13] at A8)
    (try rw [hji13] at A10)
    have hji13w : (IntKind.i64.wrap (x7_1 - 1)) = ji13 := (i64_w _).trans hji13
    replace H := HI H
    obtain ⟨c14, H⟩ := H
    have c14b0 : decide (0 ≤ (ji13)) = true := decide_eq_true c14
    clear c14
    replace H := HI H
    obtain ⟨c15, H⟩ := H
    have c15b0 : decide ((ji13) < (l0.length : Int)) = true := decide_eq_true c15
    clear c15
    have H' := AM_ H
    clear H
    obtain ⟨hcz16_0, hcz16_1, hfz16_0, hfz16_1⟩ := bk2 BK330.out
    go_wp2_with (first | (go_at_call 93; (with_reducible refine (impl_isKey.calls ((rd_T50 l0 x7_1).f0) true _ A8.out).mono ?_); rintro e w' ⟨rfl, ⟨nd, rfl⟩⟩; (try first | exact ⟨rfl, _, World.drewN_drewN _ _ _⟩ | exact ⟨rfl, _, Eq.trans (World.drewN_drewN _ _ _) (congrArg (World.drewN _) (Nat.add_assoc _ _ _))⟩)) | (go_at_call 95; (with_reducible refine (impl_isValue.calls ((rd_T50 l0 x7_1).f1) true _ A10.out).mono ?_); rintro e w' ⟨rfl, ⟨nd, rfl⟩⟩; (try first | exact ⟨rfl, _, World.drewN_drewN _ _ _⟩ | exact ⟨rfl, _, Eq.trans (World.drewN_drewN _ _ _) (congrArg (World.drewN _) (Nat.add_assoc _ _ _))⟩); have p333 : 0 ≤ ((ji13) : Int) := DT; have q333 : (ji13) < (l0.length : Int) := DT; obtain ⟨ad333, e333, hx333_0, hx333_1⟩ := at_T50 HR0.out (ji13) p333 q333; obtain rfl : ad329 = ad333 := (by injection e333); have hn333_0 : ad329.block ≠ gb330 := Nat.ne_of_lt (Nat.lt_of_lt_of_le (by have := World.block_lt_of_cell? _ _ hx333_0; first | rwa [add_block] at this | exact this) GW330.out); have hn333_1 : ad329.block ≠ gb330 := Nat.ne_of_lt (Nat.lt_of_lt_of_le (by have := World.block_lt_of_cell? _ _ hx333_0; first | rwa [add_block] at this | exact this) GW330.out); replace hx333_0 := BD HB.out hx333_0; replace hx333_1 := BD HB.out hx333_1; replace hx333_0 := (cell_far (p := ⟨gb330, 0, none⟩) (by first | (rw [add_block]; exact hn333_0) | (show (Addr.add _ _).block ≠ _; rw [add_block]; exact hn333_0) | exact hn333_0) (.int .i64 ((rd_T50 l0 x7_1).f0))).trans hx333_0; replace hx333_1 := (cell_far (p := ⟨gb330, 0, none⟩) (by first | (rw [add_block]; exact hn333_0) | (show (Addr.add _ _).block ≠ _; rw [add_block]; exact hn333_0) | exact hn333_0) (.int .i64 ((rd_T50 l0 x7_1).f0))).trans hx333_1; replace hx333_0 := (cell_far (p := ⟨gb330, 1, none⟩) (by first | (rw [add_block]; exact hn333_1) | (show (Addr.add _ _).block ≠ _; rw [add_block]; exact hn333_1) | exact hn333_1) (.int .i64 ((rd_T50 l0 x7_1).f1))).trans hx333_0; replace hx333_1 := (cell_far (p := ⟨gb330, 1, none⟩) (by first | (rw [add_block]; exact hn333_1) | (show (Addr.add _ _).block ≠ _; rw [add_block]; exact hn333_1) | exact hn333_1) (.int .i64 ((rd_T50 l0 x7_1).f1))).trans hx333_1; (try have hy333_0 := fun (n_ : Nat) => (show ((((w6.drewN n_).setCell ⟨gb330, 0, none⟩ (.int .i64 ((rd_T50 l0 x7_1).f0))).setCell ⟨gb330, 1, none⟩ (.int .i64 ((rd_T50 l0 x7_1).f1)))).cell? _ = some _ from hx333_0)); (try have hy333_1 := fun (n_ : Nat) => (show ((((w6.drewN n_).setCell ⟨gb330, 0, none⟩ (.int .i64 ((rd_T50 l0 x7_1).f0))).setCell ⟨gb330, 1, none⟩ (.int .i64 ((rd_T50 l0 x7_1).f1)))).cell? _ = some _ from hx333_1)); clear hn333_0; clear hn333_1; replace p333 := eq_true p333; replace q333 := eq_true q333))
    repeat (go_quiet (first | (go_at_call 93; (with_reducible refine (impl_isKey.calls ((rd_T50 l0 x7_1).f0) true _ A8.out).mono ?_); rintro e w' ⟨rfl, ⟨nd, rfl⟩⟩; (try first | exact ⟨rfl, _, World.drewN_drewN _ _ _⟩ | exact ⟨rfl, _, Eq.trans (World.drewN_drewN _ _ _) (congrArg (World.drewN _) (Nat.add_assoc _ _ _))⟩)) | (go_at_call 95; (with_reducible refine (impl_isValue.calls ((rd_T50 l0 x7_1).f1) true _ A10.out).mono ?_); rintro e w' ⟨rfl, ⟨nd, rfl⟩⟩; (try first | exact ⟨rfl, _, World.drewN_drewN _ _ _⟩ | exact ⟨rfl, _, Eq.trans (World.drewN_drewN _ _ _) (congrArg (World.drewN _) (Nat.add_assoc _ _ _))⟩); have p333 : 0 ≤ ((ji13) : Int) := DT; have q333 : (ji13) < (l0.length : Int) := DT; obtain ⟨ad333, e333, hx333_0, hx333_1⟩ := at_T50 HR0.out (ji13) p333 q333; obtain rfl : ad329 = ad333 := (by injection e333); have hn333_0 : ad329.block ≠ gb330 := Nat.ne_of_lt (Nat.lt_of_lt_of_le (by have := World.block_lt_of_cell? _ _ hx333_0; first | rwa [add_block] at this | exact this) GW330.out); have hn333_1 : ad329.block ≠ gb330 := Nat.ne_of_lt (Nat.lt_of_lt_of_le (by have := World.block_lt_of_cell? _ _ hx333_0; first | rwa [add_block] at this | exact this) GW330.out); replace hx333_0 := BD HB.out hx333_0; replace hx333_1 := BD HB.out hx333_1; replace hx333_0 := (cell_far (p := ⟨gb330, 0, none⟩) (by first | (rw [add_block]; exact hn333_0) | (show (Addr.add _ _).block ≠ _; rw [add_block]; exact hn333_0) | exact hn333_0) (.int .i64 ((rd_T50 l0 x7_1).f0))).trans hx333_0; replace hx333_1 := (cell_far (p := ⟨gb330, 0, none⟩) (by first | (rw [add_block]; exact hn333_0) | (show (Addr.add _ _).block ≠ _; rw [add_block]; exact hn333_0) | exact hn333_0) (.int .i64 ((rd_T50 l0 x7_1).f0))).trans hx333_1; replace hx333_0 := (cell_far (p := ⟨gb330, 1, none⟩) (by first | (rw [add_block]; exact hn333_1) | (show (Addr.add _ _).block ≠ _; rw [add_block]; exact hn333_1) | exact hn333_1) (.int .i64 ((rd_T50 l0 x7_1).f1))).trans hx333_0; replace hx333_1 := (cell_far (p := ⟨gb330, 1, none⟩) (by first | (rw [add_block]; exact hn333_1) | (show (Addr.add _ _).block ≠ _; rw [add_block]; exact hn333_1) | exact hn333_1) (.int .i64 ((rd_T50 l0 x7_1).f1))).trans hx333_1; (try have hy333_0 := fun (n_ : Nat) => (show ((((w6.drewN n_).setCell ⟨gb330, 0, none⟩ (.int .i64 ((rd_T50 l0 x7_1).f0))).setCell ⟨gb330, 1, none⟩ (.int .i64 ((rd_T50 l0 x7_1).f1)))).cell? _ = some _ from hx333_0)); (try have hy333_1 := fun (n_ : Nat) => (show ((((w6.drewN n_).setCell ⟨gb330, 0, none⟩ (.int .i64 ((rd_T50 l0 x7_1).f0))).setCell ⟨gb330, 1, none⟩ (.int .i64 ((rd_T50 l0 x7_1).f1)))).cell? _ = some _ from hx333_1)); clear hn333_0; clear hn333_1; replace p333 := eq_true p333; replace q333 := eq_true q333)); try go_wp2_with (first | (go_at_call 93; (with_reducible refine (impl_isKey.calls ((rd_T50 l0 x7_1).f0) true _ A8.out).mono ?_); rintro e w' ⟨rfl, ⟨nd, rfl⟩⟩; (try first | exact ⟨rfl, _, World.drewN_drewN _ _ _⟩ | exact ⟨rfl, _, Eq.trans (World.drewN_drewN _ _ _) (congrArg (World.drewN _) (Nat.add_assoc _ _ _))⟩)) | (go_at_call 95; (with_reducible refine (impl_isValue.calls ((rd_T50 l0 x7_1).f1) true _ A10.out).mono ?_); rintro e w' ⟨rfl, ⟨nd, rfl⟩⟩; (try first | exact ⟨rfl, _, World.drewN_drewN _ _ _⟩ | exact ⟨rfl, _, Eq.trans (World.drewN_drewN _ _ _) (congrArg (World.drewN _) (Nat.add_assoc _ _ _))⟩); have p333 : 0 ≤ ((ji13) : Int) := DT; have q333 : (ji13) < (l0.length : Int) := DT; obtain ⟨ad333, e333, hx333_0, hx333_1⟩ := at_T50 HR0.out (ji13) p333 q333; obtain rfl : ad329 = ad333 := (by injection e333); have hn333_0 : ad329.block ≠ gb330 := Nat.ne_of_lt (Nat.lt_of_lt_of_le (by have := World.block_lt_of_cell? _ _ hx333_0; first | rwa [add_block] at this | exact this) GW330.out); have hn333_1 : ad329.block ≠ gb330 := Nat.ne_of_lt (Nat.lt_of_lt_of_le (by have := World.block_lt_of_cell? _ _ hx333_0; first | rwa [add_block] at this | exact this) GW330.out); replace hx333_0 := BD HB.out hx333_0; replace hx333_1 := BD HB.out hx333_1; replace hx333_0 := (cell_far (p := ⟨gb330, 0, none⟩) (by first | (rw [add_block]; exact hn333_0) | (show (Addr.add _ _).block ≠ _; rw [add_block]; exact hn333_0) | exact hn333_0) (.int .i64 ((rd_T50 l0 x7_1).f0))).trans hx333_0; replace hx333_1 := (cell_far (p := ⟨gb330, 0, none⟩) (by first | (rw [add_block]; exact hn333_0) | (show (Addr.add _ _).block ≠ _; rw [add_block]; exact hn333_0) | exact hn333_0) (.int .i64 ((rd_T50 l0 x7_1).f0))).trans hx333_1; replace hx333_0 := (cell_far (p := ⟨gb330, 1, none⟩) (by first | (rw [add_block]; exact hn333_1) | (show (Addr.add _ _).block ≠ _; rw [add_block]; exact hn333_1) | exact hn333_1) (.int .i64 ((rd_T50 l0 x7_1).f1))).trans hx333_0; replace hx333_1 := (cell_far (p := ⟨gb330, 1, none⟩) (by first | (rw [add_block]; exact hn333_1) | (show (Addr.add _ _).block ≠ _; rw [add_block]; exact hn333_1) | exact hn333_1) (.int .i64 ((rd_T50 l0 x7_1).f1))).trans hx333_1; (try have hy333_0 := fun (n_ : Nat) => (show ((((w6.drewN n_).setCell ⟨gb330, 0, none⟩ (.int .i64 ((rd_T50 l0 x7_1).f0))).setCell ⟨gb330, 1, none⟩ (.int .i64 ((rd_T50 l0 x7_1).f1)))).cell? _ = some _ from hx333_0)); (try have hy333_1 := fun (n_ : Nat) => (show ((((w6.drewN n_).setCell ⟨gb330, 0, none⟩ (.int .i64 ((rd_T50 l0 x7_1).f0))).setCell ⟨gb330, 1, none⟩ (.int .i64 ((rd_T50 l0 x7_1).f1)))).cell? _ = some _ from hx333_1)); clear hn333_0; clear hn333_1; replace p333 := eq_true p333; replace q333 := eq_true q333)))
    go_meet
    case rel => exact ⟨_, (decide (((rd_T50 l0 (ji13)).f0) ≥ ((rd_T50 l0 x7_1).f0))), (by first | rfl | (simp; done) | (simp only [← hji13] <;> (first | rfl | simp)) | (simp [*]; done)), H', ⟨by have := HK1.out; first | omega | exact Nat.le_refl _⟩, ⟨BQ BK330.out⟩, ⟨BT HB.out⟩⟩
   case rest =>
    clear HC5
    try clear c1
    try clear c2
    try clear c2b0
    try clear p2
    try clear c3
    try clear c3b0
    try clear p3
    try clear q3
    try clear hx3
    try clear c4
    try clear c4b0
    try clear p6
    try clear c7
    try clear c9
    try clear c11
    try clear c12
    try clear c12b0
    try clear c14
    try clear c14b0
    try clear c15
    try clear c15b0
    try clear hcz16_0
    try clear hcz16_1
    try clear hcz17_0
    try clear hcz17_1
    try clear hcz18_0
    try clear hcz18_1
    try clear hcz19_0
    try clear hcz19_1
    try clear hcz7_0
    try clear hcz7_1
    try clear hfz16_0
    try clear hfz16_1
    try clear hfz17_0
    try clear hfz17_1
    try clear hfz18_0
    try clear hfz18_1
    try clear hfz19_0
    try clear hfz19_1
    try clear hfz7_0
    try clear hfz7_1
    try clear hx329_0
    try clear hx329_1
    try clear hx333_0
    try clear hx333_1
    try clear p329
    try clear p333
    try clear q329
    try clear q333
    obtain ⟨kq, x36_4, rfl, HA, HJ4, BK330, HB⟩ := hcut
    cases kq with
    | zero => exact absurd HA.out (by simp [impl_areWrites.j1])
    | succ kj4 =>
     have H := HA.out
     clear HA
     simp only [impl_areWrites.j1] at H
     by_cases c20 : x36_4 = true
     ·subst c20
      have H1 : (some false) = some r := by rw [if_pos rfl] at H; exact H
      clear H
      have H := H1
      clear H1
      obtain rfl := Option.some.inj H
      go_wp2
      repeat (go_quiet (fail); try go_wp2)
      go_ret
      exact QT (BT HB.out)
     replace c20 := Bool.eq_false_iff.mpr c20
     subst c20
     have H1 : (impl_areWrites.l0 kj4 l0 l0 (l0.length : Int) (wrap64 (x7_1 + 1))) = some r := by rw [if_neg (show ¬ (false = true) by decide)] at H; exact H
     clear H
     have H := H1
     clear H1
     have H' := AM_ H
     clear H
     go_wp2
     repeat (go_quiet (fail); try go_wp2)
     go_roundg kj4
     case measure => have := HK1.out; have := HJ4.out; omega
     case rel => exact ⟨(wrap64 (x7_1 + 1)), (by first | rfl | (simp; done) | (simp [*]; done)), H', ⟨by have := HK1.out; have := HJ4.out; omega⟩, ⟨BT HB.out⟩⟩

/-! ### impl_isEntry: function 50 -/
def impl_isEntry.f (k : Nat) (a0_0 : Int) (a0_1 : Int) (l0_2 : List (S48)) (l0_3 : List (S50)) : Option (Bool) := (impl_isID.f a0_0).bind fun t335 => (if t335 = true then ((impl_IsStamp.f a0_1).bind fun t336 => (if t336 = true then ((impl_areReads.f k l0_2).bind fun t337 => (if t337 = true then ((impl_areWrites.f k l0_3).bind fun t338 => (some t338)) else (some false))) else (some false))) else (some false))
theorem impl_isEntry.mono : ∀ a0 a1 a2 a3 k, LeO (impl_isEntry.f k a0 a1 a2 a3) (impl_isEntry.f (k + 1) a0 a1 a2 a3) := by
 intro a0 a1 a2 a3 k
 unfold impl_isEntry.f
 repeat' first
   | (with_reducible exact impl_areReads.mono _ _)
   | (with_reducible exact impl_areWrites.mono _ _)
   | (with_reducible first | exact LeO.refl _ | exact LeO.none _ | refine LeO.ite ?_ ?_ | refine LeO.bind ?_ (fun _ => ?_))
   | exact impl_areReads.mono _ _
   | exact impl_areWrites.mono _ _
   | exact LeO.none _ | refine LeO.ite ?_ ?_ | refine LeO.bind ?_ (fun _ => ?_)
theorem impl_isEntry.calls (k : Nat) (a0_0 : Int) (a0_1 : Int) (A0_2 : Option Addr) (c0_2 : Nat) (l0_2 : List (S48)) (A0_3 : Option Addr) (c0_3 : Nat) (l0_3 : List (S50)) (r : Bool) (w : World) (hr0_2 : Kd.C k48 w A0_2 l0_2.length l0_2) (hc0_2 : l0_2.length ≤ c0_2) (hr0_3 : Kd.C k50 w A0_3 l0_3.length l0_3) (hc0_3 : l0_3.length ≤ c0_3) (h : impl_isEntry.f k a0_0 a0_1 l0_2 l0_3 = some r) :
  Calls Tryz.prog 50 #[.agg #[.int .i64 a0_0, .int .i64 a0_1, .slice A0_2 l0_2.length c0_2, .slice A0_3 l0_3.length c0_3]] w fun e w' => e = .returned (.bool r) ∧ Below w.heap.size w w' := by
 have hu33 := Tryz.underlying33
 have HR0_2 := AM_ hr0_2
 have HC0_2 := AM_ hc0_2
 clear hr0_2 hc0_2
 have HR0_3 := AM_ hr0_3
 have HC0_3 := AM_ hc0_3
 clear hr0_3 hc0_3
 have HB := AM_ (Below.refl w.heap.size w)
 have H : ((impl_isID.f a0_0).bind fun t335 => (if t335 = true then ((impl_IsStamp.f a0_1).bind fun t336 => (if t336 = true then ((impl_areReads.f k l0_2).bind fun t337 => (if t337 = true then ((impl_areWrites.f k l0_3).bind fun t338 => (some t338)) else (some false))) else (some false))) else (some false))) = some r := h
 clear h
 replace H := Option.bind_eq_some_iff.mp H
 obtain ⟨t335, A20, H⟩ := H
 replace H : (if t335 = true then ((impl_IsStamp.f a0_1).bind fun t336 => (if t336 = true then ((impl_areReads.f k l0_2).bind fun t337 => (if t337 = true then ((impl_areWrites.f k l0_3).bind fun t338 => (some t338)) else (some false))) else (some false))) else (some false)) = some r := H
 have A2 := AM_ A20
 clear A20
 by_cases c3 : t335 = true
 rotate_left
 ·replace c3 := Bool.eq_false_iff.mpr c3
  subst c3
  have H1 : (some false) = some r := by rw [if_neg (show ¬ (false = true) by decide)] at H; exact H
  clear H
  have H := H1
  clear H1
  obtain rfl := Option.some.inj H
  go_enter Tryz.func50, Tryz.ntmps50
  go_wp2_with (first | ((with_reducible refine gate_dst (N := 1) rfl ?_); refine box_event ?hg (N := 1) ?hd (cs := #[.int .i64 a0_0, .int .i64 a0_1, .slice A0_2 l0_2.length c0_2, .slice A0_3 l0_3.length c0_3]) (t := 33) ?hr ?_; (case hd => rfl); (case hg => rfl); (case hr => first | (go_simp; done) | (go_simp; rfl)); intro gb334 hg w19 hbox hb; have BK334 := AM_ (hbox); have GW334 := AM_ ((GS HB.out hg)); have GE334 := AM_ ((GS HB.out hg)); replace HB := AM_ (below_step (BT HB.out) hb); clear hb hbox hg; obtain ⟨hcz20_0, hcz20_1, hcz20_2, hcz20_3, hfz20_0, hfz20_1, hfz20_2, hfz20_3⟩ := bk4 BK334.out) | ((with_reducible refine gate_callee (f := 74) rfl ?_); refine goesL_ (some 5) rfl rfl Tryz.func74 (by kernel_rfl) rfl #[.int .i64 a0_0] rfl (by (try simp only [List.map_toArray, List.map_cons, List.map_nil]); first | done | rfl | (simp only [List.length_drop, List.length_take]; rfl)) ?_; (with_reducible refine (impl_isID.calls a0_0 false _ A2.out).mono ?_); rintro e w' ⟨rfl, ⟨nd, rfl⟩⟩; refine ⟨_, rfl, ?_⟩))
  go_ret
  exact QT (BT HB.out)
 subst c3
 have H1 : ((impl_IsStamp.f a0_1).bind fun t336 => (if t336 = true then ((impl_areReads.f k l0_2).bind fun t337 => (if t337 = true then ((impl_areWrites.f k l0_3).bind fun t338 => (some t338)) else (some false))) else (some false))) = some r := by rw [if_pos rfl] at H; exact H
 clear H
 have H := H1
 clear H1
 replace H := Option.bind_eq_some_iff.mp H
 obtain ⟨t336, A40, H⟩ := H
 replace H : (if t336 = true then ((impl_areReads.f k l0_2).bind fun t337 => (if t337 = true then ((impl_areWrites.f k l0_3).bind fun t338 => (some t338)) else (some false))) else (some false)) = some r := H
 have A4 := AM_ A40
 clear A40
 by_cases c5 : t336 = true
 rotate_left
 ·replace c5 := Bool.eq_false_iff.mpr c5
  subst c5
  have H1 : (some false) = some r := by rw [if_neg (show ¬ (false = true) by decide)] at H; exact H
  clear H
  have H := H1
  clear H1
  obtain rfl := Option.some.inj H
  go_enter Tryz.func50, Tryz.ntmps50
  go_wp2_with (first | ((with_reducible refine gate_dst (N := 1) rfl ?_); refine box_event ?hg (N := 1) ?hd (cs := #[.int .i64 a0_0, .int .i64 a0_1, .slice A0_2 l0_2.length c0_2, .slice A0_3 l0_3.length c0_3]) (t := 33) ?hr ?_; (case hd => rfl); (case hg => rfl); (case hr => first | (go_simp; done) | (go_simp; rfl)); intro gb334 hg w17 hbox hb; have BK334 := AM_ (hbox); have GW334 := AM_ ((GS HB.out hg)); have GE334 := AM_ ((GS HB.out hg)); replace HB := AM_ (below_step (BT HB.out) hb); clear hb hbox hg; obtain ⟨hcz18_0, hcz18_1, hcz18_2, hcz18_3, hfz18_0, hfz18_1, hfz18_2, hfz18_3⟩ := bk4 BK334.out) | ((with_reducible refine gate_callee (f := 74) rfl ?_); refine goesL_ (some 5) rfl rfl Tryz.func74 (by kernel_rfl) rfl #[.int .i64 a0_0] rfl (by (try simp only [List.map_toArray, List.map_cons, List.map_nil]); first | done | rfl | (simp only [List.length_drop, List.length_take]; rfl)) ?_; (with_reducible refine (impl_isID.calls a0_0 true _ A2.out).mono ?_); rintro e w' ⟨rfl, ⟨nd, rfl⟩⟩; refine ⟨_, rfl, ?_⟩) | (go_at_call 75; (with_reducible refine (impl_IsStamp.calls a0_1 false _ A4.out).mono ?_); rintro e w' ⟨rfl, ⟨nd, rfl⟩⟩))
  go_ret
  exact QT (BT HB.out)
 subst c5
 have H1 : ((impl_areReads.f k l0_2).bind fun t337 => (if t337 = true then ((impl_areWrites.f k l0_3).bind fun t338 => (some t338)) else (some false))) = some r := by rw [if_pos rfl] at H; exact H
 clear H
 have H := H1
 clear H1
 replace H := Option.bind_eq_some_iff.mp H
 obtain ⟨t337, A60, H⟩ := H
 replace H : (if t337 = true then ((impl_areWrites.f k l0_3).bind fun t338 => (some t338)) else (some false)) = some r := H
 have A6 := AM_ A60
 clear A60
 by_cases c7 : t337 = true
 rotate_left
 ·replace c7 := Bool.eq_false_iff.mpr c7
  subst c7
  have H1 : (some false) = some r := by rw [if_neg (show ¬ (false = true) by decide)] at H; exact H
  clear H
  have H := H1
  clear H1
  obtain rfl := Option.some.inj H
  go_enter Tryz.func50, Tryz.ntmps50
  go_wp2_with (first | ((with_reducible refine gate_dst (N := 1) rfl ?_); refine box_event ?hg (N := 1) ?hd (cs := #[.int .i64 a0_0, .int .i64 a0_1, .slice A0_2 l0_2.length c0_2, .slice A0_3 l0_3.length c0_3]) (t := 33) ?hr ?_; (case hd => rfl); (case hg => rfl); (case hr => first | (go_simp; done) | (go_simp; rfl)); intro gb334 hg w14 hbox hb; have BK334 := AM_ (hbox); have GW334 := AM_ ((GS HB.out hg)); have GE334 := AM_ ((GS HB.out hg)); replace HB := AM_ (below_step (BT HB.out) hb); clear hb hbox hg; obtain ⟨hcz15_0, hcz15_1, hcz15_2, hcz15_3, hfz15_0, hfz15_1, hfz15_2, hfz15_3⟩ := bk4 BK334.out) | ((with_reducible refine gate_callee (f := 74) rfl ?_); refine goesL_ (some 5) rfl rfl Tryz.func74 (by kernel_rfl) rfl #[.int .i64 a0_0] rfl (by (try simp only [List.map_toArray, List.map_cons, List.map_nil]); first | done | rfl | (simp only [List.length_drop, List.length_take]; rfl)) ?_; (with_reducible refine (impl_isID.calls a0_0 true _ A2.out).mono ?_); rintro e w' ⟨rfl, ⟨nd, rfl⟩⟩; refine ⟨_, rfl, ?_⟩) | (go_at_call 75; (with_reducible refine (impl_IsStamp.calls a0_1 true _ A4.out).mono ?_); rintro e w' ⟨rfl, ⟨nd, rfl⟩⟩) | (go_at_call 76; (with_reducible refine (impl_areReads.calls k _ _ l0_2 false _ ?side1 ?side2 A6.out).mono ?_); (case side1 => repeat (first | exact (Kd.C_below HR0_2.out (BT HB.out)) | (with_reducible refine Kd.C_alloc ?_ _) | (with_reducible refine Kd.C_drewN ?_ _) | (with_reducible refine Kd.C_drew ?_))); (case side2 => exact HC0_2.out); rintro e w16 ⟨rfl, hb⟩; replace BK334 := AM_ (BB BK334.out hb); replace HB := AM_ (below_step (BT HB.out) hb); (try clear hb); (try clear hb2); (try clear hk); (try clear hi)))
  go_ret
  exact QT (BT HB.out)
 subst c7
 have H1 : ((impl_areWrites.f k l0_3).bind fun t338 => (some t338)) = some r := by rw [if_pos rfl] at H; exact H
 clear H
 have H := H1
 clear H1
 replace H := Option.bind_eq_some_iff.mp H
 obtain ⟨t338, A80, H⟩ := H
 replace H : (some t338) = some r := H
 have A8 := AM_ A80
 clear A80
 obtain rfl := Option.some.inj H
 go_enter Tryz.func50, Tryz.ntmps50
 go_wp2_with (first | ((with_reducible refine gate_dst (N := 1) rfl ?_); refine box_event ?hg (N := 1) ?hd (cs := #[.int .i64 a0_0, .int .i64 a0_1, .slice A0_2 l0_2.length c0_2, .slice A0_3 l0_3.length c0_3]) (t := 33) ?hr ?_; (case hd => rfl); (case hg => rfl); (case hr => first | (go_simp; done) | (go_simp; rfl)); intro gb334 hg w9 hbox hb; have BK334 := AM_ (hbox); have GW334 := AM_ ((GS HB.out hg)); have GE334 := AM_ ((GS HB.out hg)); replace HB := AM_ (below_step (BT HB.out) hb); clear hb hbox hg; obtain ⟨hcz10_0, hcz10_1, hcz10_2, hcz10_3, hfz10_0, hfz10_1, hfz10_2, hfz10_3⟩ := bk4 BK334.out) | ((with_reducible refine gate_callee (f := 74) rfl ?_); refine goesL_ (some 5) rfl rfl Tryz.func74 (by kernel_rfl) rfl #[.int .i64 a0_0] rfl (by (try simp only [List.map_toArray, List.map_cons, List.map_nil]); first | done | rfl | (simp only [List.length_drop, List.length_take]; rfl)) ?_; (with_reducible refine (impl_isID.calls a0_0 true _ A2.out).mono ?_); rintro e w' ⟨rfl, ⟨nd, rfl⟩⟩; refine ⟨_, rfl, ?_⟩) | (go_at_call 75; (with_reducible refine (impl_IsStamp.calls a0_1 true _ A4.out).mono ?_); rintro e w' ⟨rfl, ⟨nd, rfl⟩⟩) | (go_at_call 76; (with_reducible refine (impl_areReads.calls k _ _ l0_2 true _ ?side1 ?side2 A6.out).mono ?_); (case side1 => repeat (first | exact (Kd.C_below HR0_2.out (BT HB.out)) | (with_reducible refine Kd.C_alloc ?_ _) | (with_reducible refine Kd.C_drewN ?_ _) | (with_reducible refine Kd.C_drew ?_))); (case side2 => exact HC0_2.out); rintro e w11 ⟨rfl, hb⟩; replace BK334 := AM_ (BB BK334.out hb); replace HB := AM_ (below_step (BT HB.out) hb); (try clear hb); (try clear hb2); (try clear hk); (try clear hi); obtain ⟨hcz12_0, hcz12_1, hcz12_2, hcz12_3, hfz12_0, hfz12_1, hfz12_2, hfz12_3⟩ := bk4 BK334.out) | (go_at_call 77; (with_reducible refine (impl_areWrites.calls k _ _ l0_3 t338 _ ?side1 ?side2 A8.out).mono ?_); (case side1 => exact CB HR0_3.out HB.out); (case side2 => exact HC0_3.out); rintro e w13 ⟨rfl, hb⟩; replace BK334 := AM_ (BB BK334.out hb); replace HB := AM_ (below_step (BT HB.out) hb); (try clear hb); (try clear hb2); (try clear hk); (try clear hi)))
 go_ret
 exact QT (BT HB.out)

/-! ### impl_FindEntry_1: function 79 -/
def impl_FindEntry_1.f (a0_0 : Int) (a0_1 : Int) (l0_2 : List (S48)) (l0_3 : List (S50)) (a1_0 : Int) : Option (Bool) := some (a0_0 == a1_0)
theorem impl_FindEntry_1.calls (a0_0 : Int) (a0_1 : Int) (A0_2 : Option Addr) (c0_2 : Nat) (l0_2 : List (S48)) (A0_3 : Option Addr) (c0_3 : Nat) (l0_3 : List (S50)) (gb1 : Nat) (a1_0 : Int) (r : Bool) (w : World) (hr0_2 : Kd.C k48 w A0_2 l0_2.length l0_2) (hc0_2 : l0_2.length ≤ c0_2) (hr0_3 : Kd.C k50 w A0_3 l0_3.length l0_3) (hc0_3 : l0_3.length ≤ c0_3) (hb1 : w.heap[gb1]? = some (.cells #[.int .i64 a1_0] 3 (0, 0))) (h : impl_FindEntry_1.f a0_0 a0_1 l0_2 l0_3 a1_0 = some r) :
  Calls Tryz.prog 79 #[.agg #[.int .i64 a0_0, .int .i64 a0_1, .slice A0_2 l0_2.length c0_2, .slice A0_3 l0_3.length c0_3], .pointer (some ⟨gb1, 0, none⟩)] w fun e w' => e = .returned (.bool r) ∧ Below w.heap.size w w' := by
 have hu33 := Tryz.underlying33
 have BK1 := AM_ hb1
 clear hb1
 have HR0_2 := AM_ hr0_2
 have HC0_2 := AM_ hc0_2
 clear hr0_2 hc0_2
 have HR0_3 := AM_ hr0_3
 have HC0_3 := AM_ hc0_3
 clear hr0_3 hc0_3
 have HB := AM_ (Below.refl w.heap.size w)
 have H : (some (a0_0 == a1_0)) = some r := h
 clear h
 obtain rfl := Option.some.inj H
 go_enter Tryz.func79, Tryz.ntmps79
 go_wp2_with (first | ((with_reducible refine gate_dst (N := 2) rfl ?_); refine box_event ?hg (N := 2) ?hd (cs := #[.int .i64 a0_0, .int .i64 a0_1, .slice A0_2 l0_2.length c0_2, .slice A0_3 l0_3.length c0_3]) (t := 33) ?hr ?_; (case hd => rfl); (case hg => rfl); (case hr => first | (go_simp; done) | (go_simp; rfl)); intro gb339 hg w3 hbox hb; have BK339 := AM_ (hbox); have GW339 := AM_ ((GS HB.out hg)); have GE339 := AM_ ((GS HB.out hg)); replace HB := AM_ (below_step (BT HB.out) hb); have NB1_339 := AM_ ((NL BK1.out hg)); have NB339_1 := AM_ ((NG BK1.out hg)); replace BK1 := AM_ (BB BK1.out hb); clear hb hbox hg; have hnb4 := NB339_1.out; have hnc4 := NB1_339.out; obtain ⟨hcz5_0, hcz5_1, hcz5_2, hcz5_3, hfz5_0, hfz5_1, hfz5_2, hfz5_3⟩ := bk4 BK339.out; obtain ⟨hcz6_0, hfz6_0⟩ := bk1 BK1.out))
 go_ret
 exact QT (BT HB.out)

/-! ### impl_Entry: function 78 -/
def impl_Entry.l0 : Nat → List (S33) → Int → Int → Int → Option (Int)
 | 0, _, _, _, _ => none
 | k + 1, x0, x7, x8, x31000 => if x8 < x7 then (if 0 ≤ x8 then (if x8 < (x0.length : Int) then ((impl_FindEntry_1.f ((rd_T33 x0 x8).f0) ((rd_T33 x0 x8).f1) ((rd_T33 x0 x8).f2) ((rd_T33 x0 x8).f3) x31000).bind fun t341 => (if t341 = true then (some x8) else (impl_Entry.l0 k x0 x7 (wrap64 (x8 + 1)) x31000))) else (none)) else (none)) else (some (-1))
def impl_Entry.f (k : Nat) (l0 : List (S33)) (a1_0_0 : Int) : Option (Int) := impl_Entry.l0 k l0 (l0.length : Int) 0 a1_0_0
theorem impl_Entry.mono_l : ∀ k, (∀ y0 y1 y2 y3, LeO (impl_Entry.l0 k y0 y1 y2 y3) (impl_Entry.l0 (k + 1) y0 y1 y2 y3))
 | 0 => fun _ _ _ _ r h => by simp [impl_Entry.l0] at h
 | k + 1 => by
  have ih0 := impl_Entry.mono_l k
  ·intro y0 y1 y2 y3
   unfold impl_Entry.l0
   repeat' first
   | (with_reducible exact ih0 _ _ _ _)
   | (with_reducible first | exact LeO.refl _ | exact LeO.none _ | refine LeO.ite ?_ ?_ | refine LeO.bind ?_ (fun _ => ?_))
   | exact ih0 _ _ _ _
   | exact LeO.none _ | refine LeO.ite ?_ ?_ | refine LeO.bind ?_ (fun _ => ?_)
theorem impl_Entry.mono : ∀ a0 a1 k, LeO (impl_Entry.f k a0 a1) (impl_Entry.f (k + 1) a0 a1) := by
 intro a0 a1 k
 have ih0 := impl_Entry.mono_l k
 unfold impl_Entry.f
 repeat' first
   | (with_reducible exact ih0 _ _ _ _)
   | (with_reducible first | exact LeO.refl _ | exact LeO.none _ | refine LeO.ite ?_ ?_ | refine LeO.bind ?_ (fun _ => ?_))
   | exact ih0 _ _ _ _
   | exact LeO.none _ | refine LeO.ite ?_ ?_ | refine LeO.bind ?_ (fun _ => ?_)
theorem impl_Entry.calls (k : Nat) (A0 : Option Addr) (c0 : Nat) (l0 : List (S33)) (gb30 : Nat) (a1_0_0 : Int) (r : Int) (w : World) (hr0 : Kd.C k33 w A0 l0.length l0) (hc0 : l0.length ≤ c0) (hb30 : w.heap[gb30]? = some (.cells #[.int .i64 a1_0_0] 3 (0, 0))) (h : impl_Entry.f k l0 a1_0_0 = some r) :
  Calls Tryz.prog 78 #[.slice A0 l0.length c0, .func (.func 79) #[] #[.pointer (some ⟨gb30, 0, none⟩)]] w fun e w' => e = .returned (.int .i64 r) ∧ Below w.heap.size w w' := by
 have hu33 := Tryz.underlying33
 have BK30 := AM_ hb30
 clear hb30
 have HR0 := AM_ hr0
 have HC0 := AM_ hc0
 clear hr0 hc0
 have HB := AM_ (Below.refl w.heap.size w)
 have H : (impl_Entry.l0 k l0 (l0.length : Int) 0 a1_0_0) = some r := h
 clear h
 have H' := AM_ H
 clear H
 go_enter Tryz.func78, Tryz.ntmps78
 go_wp2
 go_loopg [8] k (fun kq v8 w' => ∃ (x8_1 : Int), v8 = .int .i64 x8_1 ∧ Aside0 (impl_Entry.l0 kq l0 (l0.length : Int) x8_1 a1_0_0 = some r) ∧ Aside0 (kq ≤ k) ∧ Aside0 (w'.heap[gb30]? = some (.cells #[.int .i64 a1_0_0] 3 (0, 0))) ∧ Aside0 (Below w.heap.size w w'))
 case atStart => exact ⟨(0), (by first | rfl | (simp; done) | (simp [*]; done)), H', ⟨Nat.le_refl _⟩, ⟨BH BK30.out⟩, ⟨BT HB.out⟩⟩
 case round =>
  clear H'
  try clear p2
  obtain ⟨x8_1, rfl, HA, HK1, BK30, HB⟩ := hrel
  cases gk with
  | zero => exact absurd HA.out (by simp [impl_Entry.l0])
  | succ k1 =>
   have H := HA.out
   clear HA
   simp only [impl_Entry.l0] at H
   by_cases c3 : x8_1 < (l0.length : Int)
   rotate_left
   ·rw [if_neg c3] at H
    have c3b0 : decide (x8_1 < (l0.length : Int)) = false := decide_eq_false c3
    clear c3
    obtain rfl := Option.some.inj H
    go_wp2
    go_ret
    exact QT (BT HB.out)
   rw [if_pos c3] at H
   have c3b0 : decide (x8_1 < (l0.length : Int)) = true := decide_eq_true c3
   clear c3
   replace H := HI H
   obtain ⟨c4, H⟩ := H
   have c4b0 : decide (0 ≤ x8_1) = true := decide_eq_true c4
   clear c4
   replace H := HI H
   obtain ⟨c5, H⟩ := H
   have c5b0 : decide (x8_1 < (l0.length : Int)) = true := decide_eq_true c5
   clear c5
   replace H := Option.bind_eq_some_iff.mp H
   obtain ⟨t341, A60, H⟩ := H
   replace H : (if t341 = true then (some x8_1) else (impl_Entry.l0 k1 l0 (l0.length : Int) (wrap64 (x8_1 + 1)) a1_0_0)) = some r := H
   have A6 := AM_ A60
   clear A60
   by_cases c7 : t341 = true
   ·subst c7
    have H1 : (some x8_1) = some r := by rw [if_pos rfl] at H; exact H
    clear H
    have H := H1
    clear H1
    obtain rfl := Option.some.inj H
    have p340 : 0 ≤ (x8_1 : Int) := DT
    have q340 : x8_1 < (l0.length : Int) := DT
    obtain ⟨ad340, A340_2, c340_2, A340_3, c340_3, e340, hx340_0, hx340_1, hx340_2, hx340_3, hl340_2, hi340_2, hl340_3, hi340_3⟩ := at_T33 HR0.out x8_1 p340 q340
    cases e340
    replace hx340_0 := BC HB.out hx340_0
    replace hx340_1 := BC HB.out hx340_1
    replace hx340_2 := BC HB.out hx340_2
    replace hx340_3 := BC HB.out hx340_3
    have HR340_2 := AM_ hi340_2
    have HC340_2 := AM_ hl340_2
    clear hi340_2 hl340_2
    have HR340_3 := AM_ hi340_3
    have HC340_3 := AM_ hl340_3
    clear hi340_3 hl340_3
    replace p340 := eq_true p340
    replace q340 := eq_true q340
    go_wp2_with (first | ((with_reducible refine gate_dst (N := 16) rfl ?_); refine goesF_ (some 16) rfl rfl Tryz.func79 (by kernel_rfl) rfl (lb := #[.pointer (some ⟨gb30, 0, none⟩)]) #[.agg #[.int .i64 ((rd_T33 l0 x8_1).f0), .int .i64 ((rd_T33 l0 x8_1).f1), .slice A340_2 ((rd_T33 l0 x8_1).f2).length c340_2, .slice A340_3 ((rd_T33 l0 x8_1).f3).length c340_3], .pointer (some ⟨gb30, 0, none⟩)] rfl rfl (by (try simp only [List.map_toArray, List.map_cons, List.map_nil]); first | done | rfl) ?_; (with_reducible refine (impl_FindEntry_1.calls ((rd_T33 l0 x8_1).f0) ((rd_T33 l0 x8_1).f1) _ _ ((rd_T33 l0 x8_1).f2) _ _ ((rd_T33 l0 x8_1).f3) gb30 a1_0_0 true _ ?side1 ?side2 ?side3 ?side4 ?side5 A6.out).mono ?_); (case side1 => exact CB HR340_2.out HB.out); (case side2 => exact HC340_2.out); (case side3 => exact CB HR340_3.out HB.out); (case side4 => exact HC340_3.out); (case side5 => exact by (with_reducible repeat (first | refine blk_drewN ?_ _ | refine blk_drew ?_ | refine blk_alloc ?_ _)); exact BK30.out); rintro e w8 ⟨rfl, hb⟩; refine ⟨_, rfl, ?_⟩; replace BK30 := AM_ (BB BK30.out hb); replace HB := AM_ (below_step (BT HB.out) hb); (try clear hb); (try clear hb2); (try clear hk); (try clear hi)))
    go_ret
    exact QT (BT HB.out)
   replace c7 := Bool.eq_false_iff.mpr c7
   subst c7
   have H1 : (impl_Entry.l0 k1 l0 (l0.length : Int) (wrap64 (x8_1 + 1)) a1_0_0) = some r := by rw [if_neg (show ¬ (false = true) by decide)] at H; exact H
   clear H
   have H := H1
   clear H1
   have H' := AM_ H
   clear H
   have p340 : 0 ≤ (x8_1 : Int) := DT
   have q340 : x8_1 < (l0.length : Int) := DT
   obtain ⟨ad340, A340_2, c340_2, A340_3, c340_3, e340, hx340_0, hx340_1, hx340_2, hx340_3, hl340_2, hi340_2, hl340_3, hi340_3⟩ := at_T33 HR0.out x8_1 p340 q340
   cases e340
   replace hx340_0 := BC HB.out hx340_0
   replace hx340_1 := BC HB.out hx340_1
   replace hx340_2 := BC HB.out hx340_2
   replace hx340_3 := BC HB.out hx340_3
   have HR340_2 := AM_ hi340_2
   have HC340_2 := AM_ hl340_2
   clear hi340_2 hl340_2
   have HR340_3 := AM_ hi340_3
   have HC340_3 := AM_ hl340_3
   clear hi340_3 hl340_3
   replace p340 := eq_true p340
   replace q340 := eq_true q340
   go_wp2_with (first | ((with_reducible refine gate_dst (N := 16) rfl ?_); refine goesF_ (some 16) rfl rfl Tryz.func79 (by kernel_rfl) rfl (lb := #[.pointer (some ⟨gb30, 0, none⟩)]) #[.agg #[.int .i64 ((rd_T33 l0 x8_1).f0), .int .i64 ((rd_T33 l0 x8_1).f1), .slice A340_2 ((rd_T33 l0 x8_1).f2).length c340_2, .slice A340_3 ((rd_T33 l0 x8_1).f3).length c340_3], .pointer (some ⟨gb30, 0, none⟩)] rfl rfl (by (try simp only [List.map_toArray, List.map_cons, List.map_nil]); first | done | rfl) ?_; (with_reducible refine (impl_FindEntry_1.calls ((rd_T33 l0 x8_1).f0) ((rd_T33 l0 x8_1).f1) _ _ ((rd_T33 l0 x8_1).f2) _ _ ((rd_T33 l0 x8_1).f3) gb30 a1_0_0 false _ ?side1 ?side2 ?side3 ?side4 ?side5 A6.out).mono ?_); (case side1 => exact CB HR340_2.out HB.out); (case side2 => exact HC340_2.out); (case side3 => exact CB HR340_3.out HB.out); (case side4 => exact HC340_3.out); (case side5 => exact by (with_reducible repeat (first | refine blk_drewN ?_ _ | refine blk_drew ?_ | refine blk_alloc ?_ _)); exact BK30.out); rintro e w9 ⟨rfl, hb⟩; refine ⟨_, rfl, ?_⟩; replace BK30 := AM_ (BB BK30.out hb); replace HB := AM_ (below_step (BT HB.out) hb); (try clear hb); (try clear hb2); (try clear hk); (try clear hi)))
   go_roundg k1
   case measure => have := HK1.out; omega
   case rel => exact ⟨(wrap64 (x8_1 + 1)), (by first | rfl | (simp; done) | (simp [*]; done)), H', ⟨by have := HK1.out; omega⟩, ⟨BH BK30.out⟩, ⟨BT HB.out⟩⟩

/-! ### impl_FindEntry: function 51 -/
def impl_FindEntry.f (k : Nat) (l0 : List (S33)) (a1 : Int) : Option (Int) := (impl_Entry.f k l0 a1).bind fun t343 => (some t343)
theorem impl_FindEntry.mono : ∀ a0 a1 k, LeO (impl_FindEntry.f k a0 a1) (impl_FindEntry.f (k + 1) a0 a1) := by
 intro a0 a1 k
 unfold impl_FindEntry.f
 repeat' first
   | (with_reducible exact impl_Entry.mono _ _ _)
   | (with_reducible first | exact LeO.refl _ | exact LeO.none _ | refine LeO.ite ?_ ?_ | refine LeO.bind ?_ (fun _ => ?_))
   | exact impl_Entry.mono _ _ _
   | exact LeO.none _ | refine LeO.ite ?_ ?_ | refine LeO.bind ?_ (fun _ => ?_)
theorem impl_FindEntry.calls (k : Nat) (A0 : Option Addr) (c0 : Nat) (l0 : List (S33)) (a1 : Int) (r : Int) (w : World) (hr0 : Kd.C k33 w A0 l0.length l0) (hc0 : l0.length ≤ c0) (h : impl_FindEntry.f k l0 a1 = some r) :
  Calls Tryz.prog 51 #[.slice A0 l0.length c0, .int .i64 a1] w fun e w' => e = .returned (.int .i64 r) ∧ Below w.heap.size w w' := by
 have HR0 := AM_ hr0
 have HC0 := AM_ hc0
 clear hr0 hc0
 have HB := AM_ (Below.refl w.heap.size w)
 have H : ((impl_Entry.f k l0 a1).bind fun t343 => (some t343)) = some r := h
 clear h
 replace H := Option.bind_eq_some_iff.mp H
 obtain ⟨t343, A30, H⟩ := H
 replace H : (some t343) = some r := H
 have A3 := AM_ A30
 clear A30
 obtain rfl := Option.some.inj H
 go_enter Tryz.func51, Tryz.ntmps51
 go_wp2_with (first | ((with_reducible refine gate_dst (N := 3) rfl ?_); refine box_event ?hg (N := 3) ?hd (cs := #[.int .i64 a1]) (t := 3) ?hr ?_; (case hd => rfl); (case hg => rfl); (case hr => first | (go_simp; done) | (go_simp; rfl)); intro gb342 hg w4 hbox hb; have BK342 := AM_ (hbox); have GW342 := AM_ ((GS HB.out hg)); have GE342 := AM_ ((GS HB.out hg)); replace HB := AM_ (below_step (BT HB.out) hb); clear hb hbox hg) | ((with_reducible refine gate_callee (f := 78) rfl ?_); refine goesL_ (some 7) rfl rfl Tryz.func78 (by kernel_rfl) rfl #[.slice A0 l0.length c0, .func (.func 79) #[] #[.pointer (some ⟨gb342, 0, none⟩)]] rfl (by (try simp only [List.map_toArray, List.map_cons, List.map_nil]); first | done | rfl | (simp only [List.length_drop, List.length_take]; rfl)) ?_; (with_reducible refine (impl_Entry.calls k _ _ l0 gb342 a1 t343 _ ?side1 ?side2 ?side3 A3.out).mono ?_); (case side1 => exact CB HR0.out HB.out); (case side2 => exact HC0.out); (case side3 => exact by (with_reducible repeat (first | refine blk_drewN ?_ _ | refine blk_drew ?_ | refine blk_alloc ?_ _)); exact BK342.out); rintro e w5 ⟨rfl, hb⟩; refine ⟨_, rfl, ?_⟩; replace BK342 := AM_ (BB BK342.out hb); replace HB := AM_ (below_step (BT HB.out) hb); (try clear hb); (try clear hb2); (try clear hk); (try clear hi)))
 go_ret
 exact QT (BT HB.out)

/-! ### impl_Entry_writes_1: function 97 -/
def impl_Entry_writes_1.f (a0_0 : Int) (a0_1 : Int) (a1_0 : Int) : Option (Bool) := some (a0_0 == a1_0)
theorem impl_Entry_writes_1.calls (a0_0 : Int) (a0_1 : Int) (gb1 : Nat) (a1_0 : Int) (r : Bool) (w : World) (hb1 : w.heap[gb1]? = some (.cells #[.int .i64 a1_0] 3 (0, 0))) (h : impl_Entry_writes_1.f a0_0 a0_1 a1_0 = some r) :
  Calls Tryz.prog 97 #[.agg #[.int .i64 a0_0, .int .i64 a0_1], .pointer (some ⟨gb1, 0, none⟩)] w fun e w' => e = .returned (.bool r) ∧ Below w.heap.size w w' := by
 have hu50 := Tryz.underlying50
 have BK1 := AM_ hb1
 clear hb1
 have HB := AM_ (Below.refl w.heap.size w)
 have H : (some (a0_0 == a1_0)) = some r := h
 clear h
 obtain rfl := Option.some.inj H
 go_enter Tryz.func97, Tryz.ntmps97
 go_wp2_with (first | ((with_reducible refine gate_dst (N := 2) rfl ?_); refine box_event ?hg (N := 2) ?hd (cs := #[.int .i64 a0_0, .int .i64 a0_1]) (t := 50) ?hr ?_; (case hd => rfl); (case hg => rfl); (case hr => first | (go_simp; done) | (go_simp; rfl)); intro gb344 hg w3 hbox hb; have BK344 := AM_ (hbox); have GW344 := AM_ ((GS HB.out hg)); have GE344 := AM_ ((GS HB.out hg)); replace HB := AM_ (below_step (BT HB.out) hb); have NB1_344 := AM_ ((NL BK1.out hg)); have NB344_1 := AM_ ((NG BK1.out hg)); replace BK1 := AM_ (BB BK1.out hb); clear hb hbox hg; have hnb4 := NB344_1.out; have hnc4 := NB1_344.out; obtain ⟨hcz5_0, hcz5_1, hfz5_0, hfz5_1⟩ := bk2 BK344.out; obtain ⟨hcz6_0, hfz6_0⟩ := bk1 BK1.out))
 go_ret
 exact QT (BT HB.out)

/-! ### impl_Write_109: function 109 -/
def impl_Write_109.l0 : Nat → List (S50) → Int → Int → Int → Option (Int)
 | 0, _, _, _, _ => none
 | k + 1, x0, x7, x8, x31000 => if x8 < x7 then (if 0 ≤ x8 then (if x8 < (x0.length : Int) then ((impl_Entry_writes_1.f ((rd_T50 x0 x8).f0) ((rd_T50 x0 x8).f1) x31000).bind fun t346 => (if t346 = true then (some x8) else (impl_Write_109.l0 k x0 x7 (wrap64 (x8 + 1)) x31000))) else (none)) else (none)) else (some (-1))
def impl_Write_109.f (k : Nat) (l0 : List (S50)) (a1_0_0 : Int) : Option (Int) := impl_Write_109.l0 k l0 (l0.length : Int) 0 a1_0_0
theorem impl_Write_109.mono_l : ∀ k, (∀ y0 y1 y2 y3, LeO (impl_Write_109.l0 k y0 y1 y2 y3) (impl_Write_109.l0 (k + 1) y0 y1 y2 y3))
 | 0 => fun _ _ _ _ r h => by simp [impl_Write_109.l0] at h
 | k + 1 => by
  have ih0 := impl_Write_109.mono_l k
  ·intro y0 y1 y2 y3
   unfold impl_Write_109.l0
   repeat' first
   | (with_reducible exact ih0 _ _ _ _)
   | (with_reducible first | exact LeO.refl _ | exact LeO.none _ | refine LeO.ite ?_ ?_ | refine LeO.bind ?_ (fun _ => ?_))
   | exact ih0 _ _ _ _
   | exact LeO.none _ | refine LeO.ite ?_ ?_ | refine LeO.bind ?_ (fun _ => ?_)
theorem impl_Write_109.mono : ∀ a0 a1 k, LeO (impl_Write_109.f k a0 a1) (impl_Write_109.f (k + 1) a0 a1) := by
 intro a0 a1 k
 have ih0 := impl_Write_109.mono_l k
 unfold impl_Write_109.f
 repeat' first
   | (with_reducible exact ih0 _ _ _ _)
   | (with_reducible first | exact LeO.refl _ | exact LeO.none _ | refine LeO.ite ?_ ?_ | refine LeO.bind ?_ (fun _ => ?_))
   | exact ih0 _ _ _ _
   | exact LeO.none _ | refine LeO.ite ?_ ?_ | refine LeO.bind ?_ (fun _ => ?_)
theorem impl_Write_109.calls (k : Nat) (A0 : Option Addr) (c0 : Nat) (l0 : List (S50)) (gb30 : Nat) (a1_0_0 : Int) (r : Int) (w : World) (hr0 : Kd.C k50 w A0 l0.length l0) (hc0 : l0.length ≤ c0) (hb30 : w.heap[gb30]? = some (.cells #[.int .i64 a1_0_0] 3 (0, 0))) (h : impl_Write_109.f k l0 a1_0_0 = some r) :
  Calls Tryz.prog 109 #[.slice A0 l0.length c0, .func (.func 97) #[] #[.pointer (some ⟨gb30, 0, none⟩)]] w fun e w' => e = .returned (.int .i64 r) ∧ Below w.heap.size w w' := by
 have hu50 := Tryz.underlying50
 have BK30 := AM_ hb30
 clear hb30
 have HR0 := AM_ hr0
 have HC0 := AM_ hc0
 clear hr0 hc0
 have HB := AM_ (Below.refl w.heap.size w)
 have H : (impl_Write_109.l0 k l0 (l0.length : Int) 0 a1_0_0) = some r := h
 clear h
 have H' := AM_ H
 clear H
 go_enter Tryz.func109, Tryz.ntmps109
 go_wp2
 go_loopg [8] k (fun kq v8 w' => ∃ (x8_1 : Int), v8 = .int .i64 x8_1 ∧ Aside0 (impl_Write_109.l0 kq l0 (l0.length : Int) x8_1 a1_0_0 = some r) ∧ Aside0 (kq ≤ k) ∧ Aside0 (w'.heap[gb30]? = some (.cells #[.int .i64 a1_0_0] 3 (0, 0))) ∧ Aside0 (Below w.heap.size w w'))
 case atStart => exact ⟨(0), (by first | rfl | (simp; done) | (simp [*]; done)), H', ⟨Nat.le_refl _⟩, ⟨BH BK30.out⟩, ⟨BT HB.out⟩⟩
 case round =>
  clear H'
  try clear c1
  try clear p2
  obtain ⟨x8_1, rfl, HA, HK1, BK30, HB⟩ := hrel
  cases gk with
  | zero => exact absurd HA.out (by simp [impl_Write_109.l0])
  | succ k1 =>
   have H := HA.out
   clear HA
   simp only [impl_Write_109.l0] at H
   by_cases c3 : x8_1 < (l0.length : Int)
   rotate_left
   ·rw [if_neg c3] at H
    have c3b0 : decide (x8_1 < (l0.length : Int)) = false := decide_eq_false c3
    clear c3
    obtain rfl := Option.some.inj H
    go_wp2
    go_ret
    exact QT (BT HB.out)
   rw [if_pos c3] at H
   have c3b0 : decide (x8_1 < (l0.length : Int)) = true := decide_eq_true c3
   clear c3
   replace H := HI H
   obtain ⟨c4, H⟩ := H
   have c4b0 : decide (0 ≤ x8_1) = true := decide_eq_true c4
   clear c4
   replace H := HI H
   obtain ⟨c5, H⟩ := H
   have c5b0 : decide (x8_1 < (l0.length : Int)) = true := decide_eq_true c5
   clear c5
   replace H := Option.bind_eq_some_iff.mp H
   obtain ⟨t346, A60, H⟩ := H
   replace H : (if t346 = true then (some x8_1) else (impl_Write_109.l0 k1 l0 (l0.length : Int) (wrap64 (x8_1 + 1)) a1_0_0)) = some r := H
   have A6 := AM_ A60
   clear A60
   by_cases c7 : t346 = true
   ·subst c7
    have H1 : (some x8_1) = some r := by rw [if_pos rfl] at H; exact H
    clear H
    have H := H1
    clear H1
    obtain rfl := Option.some.inj H
    have p345 : 0 ≤ (x8_1 : Int) := DT
    have q345 : x8_1 < (l0.length : Int) := DT
    obtain ⟨ad345, e345, hx345_0, hx345_1⟩ := at_T50 HR0.out x8_1 p345 q345
    cases e345
    replace hx345_0 := BC HB.out hx345_0
    replace hx345_1 := BC HB.out hx345_1
    replace p345 := eq_true p345
    replace q345 := eq_true q345
    go_wp2_with (first | ((with_reducible refine gate_dst (N := 16) rfl ?_); refine goesF_ (some 16) rfl rfl Tryz.func97 (by kernel_rfl) rfl (lb := #[.pointer (some ⟨gb30, 0, none⟩)]) #[.agg #[.int .i64 ((rd_T50 l0 x8_1).f0), .int .i64 ((rd_T50 l0 x8_1).f1)], .pointer (some ⟨gb30, 0, none⟩)] rfl rfl (by (try simp only [List.map_toArray, List.map_cons, List.map_nil]); first | done | rfl) ?_; (with_reducible refine (impl_Entry_writes_1.calls ((rd_T50 l0 x8_1).f0) ((rd_T50 l0 x8_1).f1) gb30 a1_0_0 true _ ?side1 A6.out).mono ?_); (case side1 => exact by (with_reducible repeat (first | refine blk_drewN ?_ _ | refine blk_drew ?_ | refine blk_alloc ?_ _)); exact BK30.out); rintro e w8 ⟨rfl, hb⟩; refine ⟨_, rfl, ?_⟩; replace BK30 := AM_ (BB BK30.out hb); replace HB := AM_ (below_step (BT HB.out) hb); (try clear hb); (try clear hb2); (try clear hk); (try clear hi)))
    go_ret
    exact QT (BT HB.out)
   replace c7 := Bool.eq_false_iff.mpr c7
   subst c7
   have H1 : (impl_Write_109.l0 k1 l0 (l0.length : Int) (wrap64 (x8_1 + 1)) a1_0_0) = some r := by rw [if_neg (show ¬ (false = true) by decide)] at H; exact H
   clear H
   have H := H1
   clear H1
   have H' := AM_ H
   clear H
   have p345 : 0 ≤ (x8_1 : Int) := DT
   have q345 : x8_1 < (l0.length : Int) := DT
   obtain ⟨ad345, e345, hx345_0, hx345_1⟩ := at_T50 HR0.out x8_1 p345 q345
   cases e345
   replace hx345_0 := BC HB.out hx345_0
   replace hx345_1 := BC HB.out hx345_1
   replace p345 := eq_true p345
   replace q345 := eq_true q345
   go_wp2_with (first | ((with_reducible refine gate_dst (N := 16) rfl ?_); refine goesF_ (some 16) rfl rfl Tryz.func97 (by kernel_rfl) rfl (lb := #[.pointer (some ⟨gb30, 0, none⟩)]) #[.agg #[.int .i64 ((rd_T50 l0 x8_1).f0), .int .i64 ((rd_T50 l0 x8_1).f1)], .pointer (some ⟨gb30, 0, none⟩)] rfl rfl (by (try simp only [List.map_toArray, List.map_cons, List.map_nil]); first | done | rfl) ?_; (with_reducible refine (impl_Entry_writes_1.calls ((rd_T50 l0 x8_1).f0) ((rd_T50 l0 x8_1).f1) gb30 a1_0_0 false _ ?side1 A6.out).mono ?_); (case side1 => exact by (with_reducible repeat (first | refine blk_drewN ?_ _ | refine blk_drew ?_ | refine blk_alloc ?_ _)); exact BK30.out); rintro e w9 ⟨rfl, hb⟩; refine ⟨_, rfl, ?_⟩; replace BK30 := AM_ (BB BK30.out hb); replace HB := AM_ (below_step (BT HB.out) hb); (try clear hb); (try clear hb2); (try clear hk); (try clear hi)))
   go_roundg k1
   case measure => have := HK1.out; omega
   case rel => exact ⟨(wrap64 (x8_1 + 1)), (by first | rfl | (simp; done) | (simp [*]; done)), H', ⟨by have := HK1.out; omega⟩, ⟨BH BK30.out⟩, ⟨BT HB.out⟩⟩

/-! ### impl_Write_96: function 96 -/
def impl_Write_96.f (k : Nat) (l0 : List (S50)) (a1_0_0 : Int) : Option (Bool) := (impl_Write_109.f k l0 a1_0_0).bind fun t347 => (some (decide (t347 ≥ 0)))
theorem impl_Write_96.mono : ∀ a0 a1 k, LeO (impl_Write_96.f k a0 a1) (impl_Write_96.f (k + 1) a0 a1) := by
 intro a0 a1 k
 unfold impl_Write_96.f
 repeat' first
   | (with_reducible exact impl_Write_109.mono _ _ _)
   | (with_reducible first | exact LeO.refl _ | exact LeO.none _ | refine LeO.ite ?_ ?_ | refine LeO.bind ?_ (fun _ => ?_))
   | exact impl_Write_109.mono _ _ _
   | exact LeO.none _ | refine LeO.ite ?_ ?_ | refine LeO.bind ?_ (fun _ => ?_)
theorem impl_Write_96.calls (k : Nat) (A0 : Option Addr) (c0 : Nat) (l0 : List (S50)) (gb30 : Nat) (a1_0_0 : Int) (r : Bool) (w : World) (hr0 : Kd.C k50 w A0 l0.length l0) (hc0 : l0.length ≤ c0) (hb30 : w.heap[gb30]? = some (.cells #[.int .i64 a1_0_0] 3 (0, 0))) (h : impl_Write_96.f k l0 a1_0_0 = some r) :
  Calls Tryz.prog 96 #[.slice A0 l0.length c0, .func (.func 97) #[] #[.pointer (some ⟨gb30, 0, none⟩)]] w fun e w' => e = .returned (.bool r) ∧ Below w.heap.size w w' := by
 have BK30 := AM_ hb30
 clear hb30
 have HR0 := AM_ hr0
 have HC0 := AM_ hc0
 clear hr0 hc0
 have HB := AM_ (Below.refl w.heap.size w)
 have H : ((impl_Write_109.f k l0 a1_0_0).bind fun t347 => (some (decide (t347 ≥ 0)))) = some r := h
 clear h
 replace H := Option.bind_eq_some_iff.mp H
 obtain ⟨t347, A30, H⟩ := H
 replace H : (some (decide (t347 ≥ 0))) = some r := H
 have A3 := AM_ A30
 clear A30
 obtain rfl := Option.some.inj H
 go_enter Tryz.func96, Tryz.ntmps96
 go_wp2_with (first | ((with_reducible refine gate_callee (f := 109) rfl ?_); refine goesL_ (some 7) rfl rfl Tryz.func109 (by kernel_rfl) rfl #[.slice A0 l0.length c0, .func (.func 97) #[] #[.pointer (some ⟨gb30, 0, none⟩)]] rfl (by (try simp only [List.map_toArray, List.map_cons, List.map_nil]); first | done | rfl | (simp only [List.length_drop, List.length_take]; rfl)) ?_; (with_reducible refine (impl_Write_109.calls k _ _ l0 gb30 a1_0_0 t347 _ ?side1 ?side2 ?side3 A3.out).mono ?_); (case side1 => repeat (first | exact HR0.out | (with_reducible refine Kd.C_alloc ?_ _) | (with_reducible refine Kd.C_drewN ?_ _) | (with_reducible refine Kd.C_drew ?_))); (case side2 => exact HC0.out); (case side3 => exact by (with_reducible repeat (first | refine blk_drewN ?_ _ | refine blk_drew ?_ | refine blk_alloc ?_ _)); exact BK30.out); rintro e w4 ⟨rfl, hb⟩; refine ⟨_, rfl, ?_⟩; replace BK30 := AM_ (BB BK30.out hb); replace HB := AM_ (below_step (BT HB.out) hb); (try clear hb); (try clear hb2); (try clear hk); (try clear hi)))
 go_ret
 exact QT (BT HB.out)

/-! ### impl_Entry_writes: function 80 -/
def impl_Entry_writes.f (k : Nat) (a0_0 : Int) (a0_1 : Int) (l0_2 : List (S48)) (l0_3 : List (S50)) (a1 : Int) : Option (Bool) := (impl_Write_96.f k l0_3 a1).bind fun t350 => (some t350)
theorem impl_Entry_writes.mono : ∀ a0 a1 a2 a3 a4 k, LeO (impl_Entry_writes.f k a0 a1 a2 a3 a4) (impl_Entry_writes.f (k + 1) a0 a1 a2 a3 a4) := by
 intro a0 a1 a2 a3 a4 k
 unfold impl_Entry_writes.f
 repeat' first
   | (with_reducible exact impl_Write_96.mono _ _ _)
   | (with_reducible first | exact LeO.refl _ | exact LeO.none _ | refine LeO.ite ?_ ?_ | refine LeO.bind ?_ (fun _ => ?_))
   | exact impl_Write_96.mono _ _ _
   | exact LeO.none _ | refine LeO.ite ?_ ?_ | refine LeO.bind ?_ (fun _ => ?_)
theorem impl_Entry_writes.calls (k : Nat) (a0_0 : Int) (a0_1 : Int) (A0_2 : Option Addr) (c0_2 : Nat) (l0_2 : List (S48)) (A0_3 : Option Addr) (c0_3 : Nat) (l0_3 : List (S50)) (a1 : Int) (r : Bool) (w : World) (hr0_2 : Kd.C k48 w A0_2 l0_2.length l0_2) (hc0_2 : l0_2.length ≤ c0_2) (hr0_3 : Kd.C k50 w A0_3 l0_3.length l0_3) (hc0_3 : l0_3.length ≤ c0_3) (h : impl_Entry_writes.f k a0_0 a0_1 l0_2 l0_3 a1 = some r) :
  Calls Tryz.prog 80 #[.agg #[.int .i64 a0_0, .int .i64 a0_1, .slice A0_2 l0_2.length c0_2, .slice A0_3 l0_3.length c0_3], .int .i64 a1] w fun e w' => e = .returned (.bool r) ∧ Below w.heap.size w w' := by
 have hu33 := Tryz.underlying33
 have HR0_2 := AM_ hr0_2
 have HC0_2 := AM_ hc0_2
 clear hr0_2 hc0_2
 have HR0_3 := AM_ hr0_3
 have HC0_3 := AM_ hc0_3
 clear hr0_3 hc0_3
 have HB := AM_ (Below.refl w.heap.size w)
 have H : ((impl_Write_96.f k l0_3 a1).bind fun t350 => (some t350)) = some r := h
 clear h
 replace H := Option.bind_eq_some_iff.mp H
 obtain ⟨t350, A30, H⟩ := H
 replace H : (some t350) = some r := H
 have A3 := AM_ A30
 clear A30
 obtain rfl := Option.some.inj H
 go_enter Tryz.func80, Tryz.ntmps80
 go_wp2_with (first | ((with_reducible refine gate_dst (N := 2) rfl ?_); refine box_event ?hg (N := 2) ?hd (cs := #[.int .i64 a0_0, .int .i64 a0_1, .slice A0_2 l0_2.length c0_2, .slice A0_3 l0_3.length c0_3]) (t := 33) ?hr ?_; (case hd => rfl); (case hg => rfl); (case hr => first | (go_simp; done) | (go_simp; rfl)); intro gb348 hg w4 hbox hb; have BK348 := AM_ (hbox); have GW348 := AM_ ((GS HB.out hg)); have GE348 := AM_ ((GS HB.out hg)); replace HB := AM_ (below_step (BT HB.out) hb); clear hb hbox hg) | ((with_reducible refine gate_dst (N := 3) rfl ?_); refine box_event ?hg (N := 3) ?hd (cs := #[.int .i64 a1]) (t := 3) ?hr ?_; (case hd => rfl); (case hg => rfl); (case hr => first | (go_simp; done) | (go_simp; rfl)); intro gb349 hg w5 hbox hb; have BK349 := AM_ (hbox); have GW349 := AM_ ((GS HB.out hg)); have GE349 := AM_ ((GS HB.out hg)); replace HB := AM_ (below_step (BT HB.out) hb); have NB348_349 := AM_ ((NL BK348.out hg)); have NB349_348 := AM_ ((NG BK348.out hg)); replace BK348 := AM_ (BB BK348.out hb); clear hb hbox hg; have hnb6 := NB348_349.out; have hnc6 := NB349_348.out; obtain ⟨hcz7_0, hcz7_1, hcz7_2, hcz7_3, hfz7_0, hfz7_1, hfz7_2, hfz7_3⟩ := bk4 BK348.out) | ((with_reducible refine gate_callee (f := 96) rfl ?_); refine goesL_ (some 8) rfl rfl Tryz.func96 (by kernel_rfl) rfl #[.slice A0_3 l0_3.length c0_3, .func (.func 97) #[] #[.pointer (some ⟨gb349, 0, none⟩)]] rfl (by (try simp only [List.map_toArray, List.map_cons, List.map_nil]); first | done | rfl | (simp only [List.length_drop, List.length_take]; rfl)) ?_; (with_reducible refine (impl_Write_96.calls k _ _ l0_3 gb349 a1 t350 _ ?side1 ?side2 ?side3 A3.out).mono ?_); (case side1 => exact CB HR0_3.out HB.out); (case side2 => exact HC0_3.out); (case side3 => exact by (with_reducible repeat (first | refine blk_drewN ?_ _ | refine blk_drew ?_ | refine blk_alloc ?_ _)); exact BK349.out); rintro e w8 ⟨rfl, hb⟩; refine ⟨_, rfl, ?_⟩; replace BK348 := AM_ (BB BK348.out hb); replace BK349 := AM_ (BB BK349.out hb); replace HB := AM_ (below_step (BT HB.out) hb); (try clear hb); (try clear hb2); (try clear hk); (try clear hi)))
 go_ret
 exact QT (BT HB.out)

end Go.Proofs.YtdfbmaiboadodaaGreatDoor.PFnExactParseHistory
