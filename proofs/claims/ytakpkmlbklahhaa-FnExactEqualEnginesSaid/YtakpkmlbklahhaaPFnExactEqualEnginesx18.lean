-- Printed by a program of mine (wip/myprint.py), which runs the printer of the kit with contracts of mine beside it.
import Derived.Test.YtakpkmlbklahhaaPFnExactEqualEnginesx0
import Derived.Test.YtakpkmlbklahhaaPFnExactEqualEnginesx6
import Derived.Test.YtakpkmlbklahhaaPFnExactEqualEnginesx8
import Derived.Test.YtakpkmlbklahhaaPFnExactEqualEnginesx12
import Derived.Test.YtakpkmlbklahhaaPFnExactEqualEnginesx15
import Derived.Test.YtakpkmlbklahhaaPFnExactEqualEnginesx17
namespace Go.Proofs.Ytakpkmlbklahhaa.PFnExactEqualEngines
open Go.RowKit Go.Proofs.YtakpkmlbklahhaaW.PrintWords Go.Proofs.YtakpkmlbklahhaaW.PrintLast Go.Proofs.YtakpkmlbklahhaaW.PrintMore
attribute [local go_sem] max2_int min2_int max_two min_two max_three min_three max_four min_four   -- for this text's walks alone
set_option linter.unusedVariables false
set_option linter.unusedSimpArgs false

theorem DH2 (W : World) (m k : Nat) : (W.drewN m).heap[k]? = W.heap[k]? := rfl
theorem DD2 (W : World) (k : Nat) : W.drew.heap[k]? = W.heap[k]? := rfl
theorem RF2 {α : Type} {d : Kd α} {e base : Nat} {ok : Nat → Prop} {v : Value} {xs : List α} {w w1 : World} {g t : Nat} {cells : Array Value} (h : d.R e w base ok v xs) (hb : w.heap[g]? = some (.cells cells t (0, 0))) (ht : ∀ q, q ∈ e :: d.E → q ≠ t := by decide) (hw : ∀ k, k ≠ g → k < w.heap.size → w1.heap[k]? = w.heap[k]? := by intro k hk hl; (repeat (first | (with_reducible refine (Below.heap_setCell _ _ _ k hk).trans ?_) | (with_reducible refine (AH _ _ k (by first | exact hl | simpa [World.setCell] using hl)).trans ?_) | (with_reducible refine (DH2 _ _ k).trans ?_) | (with_reducible refine (DD2 _ k).trans ?_))); exact rfl) : d.R e w1 base ok v xs := Kd.R_mono (Kd.R_step (Kd.R_types h hb ht) (fun k hk hl => hw k hk.2 hl)) (fun _ hk => hk.1)
theorem SF2 {α : Type} {d : Kd α} {e base : Nat} {ok : Nat → Prop} {v : Value} {xs : List α} {w w1 : World} {g t : Nat} {cells : Array Value} (h : Kd.S d e w base ok v xs) (hb : w.heap[g]? = some (.cells cells t (0, 0))) (ht : ∀ q, q ∈ e :: d.E → q ≠ t := by decide) (hw : ∀ k, k ≠ g → k < w.heap.size → w1.heap[k]? = w.heap[k]? := by intro k hk hl; (repeat (first | (with_reducible refine (Below.heap_setCell _ _ _ k hk).trans ?_) | (with_reducible refine (AH _ _ k (by first | exact hl | simpa [World.setCell] using hl)).trans ?_) | (with_reducible refine (DH2 _ _ k).trans ?_) | (with_reducible refine (DD2 _ k).trans ?_))); exact rfl) : Kd.S d e w1 base ok v xs := Kd.S_mono (Kd.S_step (Kd.S_types h hb ht) (fun k hk hl => hw k hk.2 hl)) (fun _ hk => hk.1)
theorem CF2 {α : Type} {d : Kd α} {e base n c : Nat} {A : Option Addr} {ok : Nat → Prop} {xs : List α} {w w1 : World} {g t : Nat} {cells : Array Value} (h : d.R e w base ok (.slice A n c) xs) (hb : w.heap[g]? = some (.cells cells t (0, 0))) (ht : ∀ q, q ∈ e :: d.E → q ≠ t := by decide) (hw : ∀ k, k ≠ g → k < w.heap.size → w1.heap[k]? = w.heap[k]? := by intro k hk hl; (repeat (first | (with_reducible refine (Below.heap_setCell _ _ _ k hk).trans ?_) | (with_reducible refine (AH _ _ k (by first | exact hl | simpa [World.setCell] using hl)).trans ?_) | (with_reducible refine (DH2 _ _ k).trans ?_) | (with_reducible refine (DD2 _ k).trans ?_))); exact rfl) : d.C w1 A xs.length xs := (Kd.R_reads' (RF2 h hb ht hw)).2.2
theorem CG2 {α : Type} {d : Kd α} {e base n c : Nat} {A : Option Addr} {ok : Nat → Prop} {xs : List α} {w w1 : World} {g t : Nat} {cells : Array Value} (h : Kd.S d e w base ok (.slice A n c) xs) (hb : w.heap[g]? = some (.cells cells t (0, 0))) (ht : ∀ q, q ∈ e :: d.E → q ≠ t := by decide) (hw : ∀ k, k ≠ g → k < w.heap.size → w1.heap[k]? = w.heap[k]? := by intro k hk hl; (repeat (first | (with_reducible refine (Below.heap_setCell _ _ _ k hk).trans ?_) | (with_reducible refine (AH _ _ k (by first | exact hl | simpa [World.setCell] using hl)).trans ?_) | (with_reducible refine (DH2 _ _ k).trans ?_) | (with_reducible refine (DD2 _ k).trans ?_))); exact rfl) : d.C w1 A xs.length xs := (Kd.S_reads' (SF2 h hb ht hw)).2.2
/-! ### laws_FnExactEqualEngines: function 8 -/
def laws_FnExactEqualEngines.f (k : Nat) (a0_0 : Bool) (l0_1 : List (List (S207))) (l0_2 : List (S60)) (l0_3 : List (S160)) (l0_4 : List (S183)) (a0_5 : Int) (a1_0 : Bool) (l1_1 : List (List (S207))) (l1_2 : List (S60)) (l1_3 : List (S160)) (l1_4 : List (S183)) (a1_5 : Int) : Option (Bool) := (laws_szEngine.f k a0_0 l0_1 l0_2 l0_3 l0_4 a0_5 1048576).bind fun t325 => (if t325 < 0 then (some true) else ((laws_szEngine.f k a1_0 l1_1 l1_2 l1_3 l1_4 a1_5 t325).bind fun t326 => (if t326 < 0 then (some true) else ((laws_toEngine.f k a0_0 l0_1 l0_2 l0_3 l0_4 a0_5).bind fun bt327 => ((laws_toEngine.f k a1_0 l1_1 l1_2 l1_3 l1_4 a1_5).bind fun bt341 => ((spec_EqualEngines.f k bt327.1 bt327.2.1 bt327.2.2.1 bt327.2.2.2.1 bt327.2.2.2.2.1 bt327.2.2.2.2.2 bt341.1 bt341.2.1 bt341.2.2.1 bt341.2.2.2.1 bt341.2.2.2.2.1 bt341.2.2.2.2.2).bind fun t355 => ((laws_toEngine.f k a0_0 l0_1 l0_2 l0_3 l0_4 a0_5).bind fun bt356 => ((laws_toEngine.f k a1_0 l1_1 l1_2 l1_3 l1_4 a1_5).bind fun bt371 => ((impl_EqualEngines.f k bt356.1 bt356.2.1 bt356.2.2.1 bt356.2.2.2.1 bt356.2.2.2.2.1 bt356.2.2.2.2.2 bt371.1 bt371.2.1 bt371.2.2.1 bt371.2.2.2.1 bt371.2.2.2.2.1 bt371.2.2.2.2.2).bind fun t386 => (if (t386 != t355) = true then (some false) else ((laws_toEngine.f k a0_0 l0_1 l0_2 l0_3 l0_4 a0_5).bind fun bt387 => ((laws_eqEngine.f k bt356.1 bt356.2.1 bt356.2.2.1 bt356.2.2.2.1 bt356.2.2.2.2.1 bt356.2.2.2.2.2 bt387.1 bt387.2.1 bt387.2.2.1 bt387.2.2.2.1 bt387.2.2.2.2.1 bt387.2.2.2.2.2).bind fun t401 => (if t401 = true then ((laws_toEngine.f k a1_0 l1_1 l1_2 l1_3 l1_4 a1_5).bind fun bt402 => ((laws_eqEngine.f k bt371.1 bt371.2.1 bt371.2.2.1 bt371.2.2.2.1 bt371.2.2.2.2.1 bt371.2.2.2.2.2 bt402.1 bt402.2.1 bt402.2.2.1 bt402.2.2.2.1 bt402.2.2.2.2.1 bt402.2.2.2.2.2).bind fun t416 => (if t416 = true then (some true) else (some false)))) else (some false))))))))))))))
theorem laws_FnExactEqualEngines.mono : ∀ a0 a1 a2 a3 a4 a5 a6 a7 a8 a9 a10 a11 k, LeO (laws_FnExactEqualEngines.f k a0 a1 a2 a3 a4 a5 a6 a7 a8 a9 a10 a11) (laws_FnExactEqualEngines.f (k + 1) a0 a1 a2 a3 a4 a5 a6 a7 a8 a9 a10 a11) := by
 intro a0 a1 a2 a3 a4 a5 a6 a7 a8 a9 a10 a11 k
 unfold laws_FnExactEqualEngines.f
 repeat' first
   | (with_reducible exact impl_EqualEngines.mono _ _ _ _ _ _ _ _ _ _ _ _ _)
   | (with_reducible exact laws_eqEngine.mono _ _ _ _ _ _ _ _ _ _ _ _ _)
   | (with_reducible exact laws_szEngine.mono _ _ _ _ _ _ _ _)
   | (with_reducible exact laws_toEngine.mono _ _ _ _ _ _ _)
   | (with_reducible exact spec_EqualEngines.mono _ _ _ _ _ _ _ _ _ _ _ _ _)
   | (with_reducible exact LeO.refl _)
   | (with_reducible exact LeO.none _)
   | (with_reducible refine LeO.ite ?_ ?_)
   | (with_reducible refine LeO.bind ?_ (fun _ => ?_))
   | exact impl_EqualEngines.mono _ _ _ _ _ _ _ _ _ _ _ _ _
   | exact laws_eqEngine.mono _ _ _ _ _ _ _ _ _ _ _ _ _
   | exact laws_szEngine.mono _ _ _ _ _ _ _ _
   | exact laws_toEngine.mono _ _ _ _ _ _ _
   | exact spec_EqualEngines.mono _ _ _ _ _ _ _ _ _ _ _ _ _
   | exact LeO.none _
   | refine LeO.ite ?_ ?_
   | refine LeO.bind ?_ (fun _ => ?_)
set_option maxHeartbeats 40000000 in
set_option maxRecDepth 100000 in
theorem laws_FnExactEqualEngines.calls (k : Nat) (a0_0 : Bool) (A0_1 : Option Addr) (c0_1 : Nat) (l0_1 : List (List (S207))) (A0_2 : Option Addr) (c0_2 : Nat) (l0_2 : List (S60)) (A0_3 : Option Addr) (c0_3 : Nat) (l0_3 : List (S160)) (A0_4 : Option Addr) (c0_4 : Nat) (l0_4 : List (S183)) (a0_5 : Int) (a1_0 : Bool) (A1_1 : Option Addr) (c1_1 : Nat) (l1_1 : List (List (S207))) (A1_2 : Option Addr) (c1_2 : Nat) (l1_2 : List (S60)) (A1_3 : Option Addr) (c1_3 : Nat) (l1_3 : List (S160)) (A1_4 : Option Addr) (c1_4 : Nat) (l1_4 : List (S183)) (a1_5 : Int) (r : Bool) (w : World) (hr0_1 : Kd.C (Kd.slice 207 k207) w A0_1 l0_1.length l0_1) (hc0_1 : l0_1.length ≤ c0_1) (hr0_2 : Kd.C k60 w A0_2 l0_2.length l0_2) (hc0_2 : l0_2.length ≤ c0_2) (hr0_3 : Kd.C k160 w A0_3 l0_3.length l0_3) (hc0_3 : l0_3.length ≤ c0_3) (hr0_4 : Kd.C k183 w A0_4 l0_4.length l0_4) (hc0_4 : l0_4.length ≤ c0_4) (hr1_1 : Kd.C (Kd.slice 207 k207) w A1_1 l1_1.length l1_1) (hc1_1 : l1_1.length ≤ c1_1) (hr1_2 : Kd.C k60 w A1_2 l1_2.length l1_2) (hc1_2 : l1_2.length ≤ c1_2) (hr1_3 : Kd.C k160 w A1_3 l1_3.length l1_3) (hc1_3 : l1_3.length ≤ c1_3) (hr1_4 : Kd.C k183 w A1_4 l1_4.length l1_4) (hc1_4 : l1_4.length ≤ c1_4) (h : laws_FnExactEqualEngines.f k a0_0 l0_1 l0_2 l0_3 l0_4 a0_5 a1_0 l1_1 l1_2 l1_3 l1_4 a1_5 = some r) :
  Calls Try.prog 8 #[.agg #[.bool a0_0, .slice A0_1 l0_1.length c0_1, .slice A0_2 l0_2.length c0_2, .slice A0_3 l0_3.length c0_3, .slice A0_4 l0_4.length c0_4, .int .i64 a0_5], .agg #[.bool a1_0, .slice A1_1 l1_1.length c1_1, .slice A1_2 l1_2.length c1_2, .slice A1_3 l1_3.length c1_3, .slice A1_4 l1_4.length c1_4, .int .i64 a1_5]] w fun e w' => e = .returned (.bool r) ∧ Below w.heap.size w w' := by
 have hu44 := Try.underlying44
 have hu53 := Try.underlying53
 have HR0_1 := AM_ hr0_1
 have HC0_1 := AM_ hc0_1
 clear hr0_1 hc0_1
 have HR0_2 := AM_ hr0_2
 have HC0_2 := AM_ hc0_2
 clear hr0_2 hc0_2
 have HR0_3 := AM_ hr0_3
 have HC0_3 := AM_ hc0_3
 clear hr0_3 hc0_3
 have HR0_4 := AM_ hr0_4
 have HC0_4 := AM_ hc0_4
 clear hr0_4 hc0_4
 have HR1_1 := AM_ hr1_1
 have HC1_1 := AM_ hc1_1
 clear hr1_1 hc1_1
 have HR1_2 := AM_ hr1_2
 have HC1_2 := AM_ hc1_2
 clear hr1_2 hc1_2
 have HR1_3 := AM_ hr1_3
 have HC1_3 := AM_ hc1_3
 clear hr1_3 hc1_3
 have HR1_4 := AM_ hr1_4
 have HC1_4 := AM_ hc1_4
 clear hr1_4 hc1_4
 have HB := AM_ (Below.refl w.heap.size w)
 have H : ((laws_szEngine.f k a0_0 l0_1 l0_2 l0_3 l0_4 a0_5 1048576).bind fun t325 => (if t325 < 0 then (some true) else ((laws_szEngine.f k a1_0 l1_1 l1_2 l1_3 l1_4 a1_5 t325).bind fun t326 => (if t326 < 0 then (some true) else ((laws_toEngine.f k a0_0 l0_1 l0_2 l0_3 l0_4 a0_5).bind fun bt327 => ((laws_toEngine.f k a1_0 l1_1 l1_2 l1_3 l1_4 a1_5).bind fun bt341 => ((spec_EqualEngines.f k bt327.1 bt327.2.1 bt327.2.2.1 bt327.2.2.2.1 bt327.2.2.2.2.1 bt327.2.2.2.2.2 bt341.1 bt341.2.1 bt341.2.2.1 bt341.2.2.2.1 bt341.2.2.2.2.1 bt341.2.2.2.2.2).bind fun t355 => ((laws_toEngine.f k a0_0 l0_1 l0_2 l0_3 l0_4 a0_5).bind fun bt356 => ((laws_toEngine.f k a1_0 l1_1 l1_2 l1_3 l1_4 a1_5).bind fun bt371 => ((impl_EqualEngines.f k bt356.1 bt356.2.1 bt356.2.2.1 bt356.2.2.2.1 bt356.2.2.2.2.1 bt356.2.2.2.2.2 bt371.1 bt371.2.1 bt371.2.2.1 bt371.2.2.2.1 bt371.2.2.2.2.1 bt371.2.2.2.2.2).bind fun t386 => (if (t386 != t355) = true then (some false) else ((laws_toEngine.f k a0_0 l0_1 l0_2 l0_3 l0_4 a0_5).bind fun bt387 => ((laws_eqEngine.f k bt356.1 bt356.2.1 bt356.2.2.1 bt356.2.2.2.1 bt356.2.2.2.2.1 bt356.2.2.2.2.2 bt387.1 bt387.2.1 bt387.2.2.1 bt387.2.2.2.1 bt387.2.2.2.2.1 bt387.2.2.2.2.2).bind fun t401 => (if t401 = true then ((laws_toEngine.f k a1_0 l1_1 l1_2 l1_3 l1_4 a1_5).bind fun bt402 => ((laws_eqEngine.f k bt371.1 bt371.2.1 bt371.2.2.1 bt371.2.2.2.1 bt371.2.2.2.2.1 bt371.2.2.2.2.2 bt402.1 bt402.2.1 bt402.2.2.1 bt402.2.2.2.1 bt402.2.2.2.2.1 bt402.2.2.2.2.2).bind fun t416 => (if t416 = true then (some true) else (some false)))) else (some false))))))))))))))) = some r := h
 clear h
 replace H := Option.bind_eq_some_iff.mp H
 obtain ⟨t325, A30, H⟩ := H
 replace H : (if t325 < 0 then (some true) else ((laws_szEngine.f k a1_0 l1_1 l1_2 l1_3 l1_4 a1_5 t325).bind fun t326 => (if t326 < 0 then (some true) else ((laws_toEngine.f k a0_0 l0_1 l0_2 l0_3 l0_4 a0_5).bind fun bt327 => ((laws_toEngine.f k a1_0 l1_1 l1_2 l1_3 l1_4 a1_5).bind fun bt341 => ((spec_EqualEngines.f k bt327.1 bt327.2.1 bt327.2.2.1 bt327.2.2.2.1 bt327.2.2.2.2.1 bt327.2.2.2.2.2 bt341.1 bt341.2.1 bt341.2.2.1 bt341.2.2.2.1 bt341.2.2.2.2.1 bt341.2.2.2.2.2).bind fun t355 => ((laws_toEngine.f k a0_0 l0_1 l0_2 l0_3 l0_4 a0_5).bind fun bt356 => ((laws_toEngine.f k a1_0 l1_1 l1_2 l1_3 l1_4 a1_5).bind fun bt371 => ((impl_EqualEngines.f k bt356.1 bt356.2.1 bt356.2.2.1 bt356.2.2.2.1 bt356.2.2.2.2.1 bt356.2.2.2.2.2 bt371.1 bt371.2.1 bt371.2.2.1 bt371.2.2.2.1 bt371.2.2.2.2.1 bt371.2.2.2.2.2).bind fun t386 => (if (t386 != t355) = true then (some false) else ((laws_toEngine.f k a0_0 l0_1 l0_2 l0_3 l0_4 a0_5).bind fun bt387 => ((laws_eqEngine.f k bt356.1 bt356.2.1 bt356.2.2.1 bt356.2.2.2.1 bt356.2.2.2.2.1 bt356.2.2.2.2.2 bt387.1 bt387.2.1 bt387.2.2.1 bt387.2.2.2.1 bt387.2.2.2.2.1 bt387.2.2.2.2.2).bind fun t401 => (if t401 = true then ((laws_toEngine.f k a1_0 l1_1 l1_2 l1_3 l1_4 a1_5).bind fun bt402 => ((laws_eqEngine.f k bt371.1 bt371.2.1 bt371.2.2.1 bt371.2.2.2.1 bt371.2.2.2.2.1 bt371.2.2.2.2.2 bt402.1 bt402.2.1 bt402.2.2.1 bt402.2.2.2.1 bt402.2.2.2.2.1 bt402.2.2.2.2.2).bind fun t416 => (if t416 = true then (some true) else (some false)))) else (some false)))))))))))))) = some r := H
 have A3 := AM_ A30
 clear A30
 by_cases c4 : t325 < 0
 ·rw [if_pos c4] at H
  have c4b0 : decide (t325 < 0) = true := decide_eq_true c4
  clear c4
  obtain rfl := Option.some.inj H
  go_enter Try.func8, Try.ntmps8
  go_wp2_with (first | ((with_reducible refine gate_dst (N := 2) rfl ?_); refine box_event ?hg (N := 2) ?hd (cs := #[.bool a0_0, .slice A0_1 l0_1.length c0_1, .slice A0_2 l0_2.length c0_2, .slice A0_3 l0_3.length c0_3, .slice A0_4 l0_4.length c0_4, .int .i64 a0_5]) (t := 44) ?hr ?_; (case hd => rfl); (case hg => rfl); (case hr => first | (go_simp; done) | (go_simp; rfl)); intro gb323 hg w5 hbox hb; have BK323 := AM_ (hbox); have GW323 := AM_ ((GS HB.out hg)); have GE323 := AM_ ((GS HB.out hg)); replace HB := AM_ (below_step (BT HB.out) hb); clear hb hbox hg) | ((with_reducible refine gate_dst (N := 3) rfl ?_); refine box_event ?hg (N := 3) ?hd (cs := #[.bool a1_0, .slice A1_1 l1_1.length c1_1, .slice A1_2 l1_2.length c1_2, .slice A1_3 l1_3.length c1_3, .slice A1_4 l1_4.length c1_4, .int .i64 a1_5]) (t := 44) ?hr ?_; (case hd => rfl); (case hg => rfl); (case hr => first | (go_simp; done) | (go_simp; rfl)); intro gb324 hg w6 hbox hb; have BK324 := AM_ (hbox); have GW324 := AM_ ((GS HB.out hg)); have GE324 := AM_ ((GS HB.out hg)); replace HB := AM_ (below_step (BT HB.out) hb); have NB323_324 := AM_ ((NL BK323.out hg)); have NB324_323 := AM_ ((NG BK323.out hg)); replace BK323 := AM_ (BB BK323.out hb); clear hb hbox hg; have hnb7 := NB323_324.out; have hnc7 := NB324_323.out; obtain ⟨hcz8_0, hcz8_1, hcz8_2, hcz8_3, hcz8_4, hcz8_5, hfz8_0, hfz8_1, hfz8_2, hfz8_3, hfz8_4, hfz8_5⟩ := bk6 BK323.out) | ((with_reducible refine gate_callee (f := 27) rfl ?_); refine goesL_ (some 12) rfl rfl Try.func27 (by kernel_rfl) rfl #[.agg #[.bool a0_0, .slice A0_1 l0_1.length c0_1, .slice A0_2 l0_2.length c0_2, .slice A0_3 l0_3.length c0_3, .slice A0_4 l0_4.length c0_4, .int .i64 a0_5], .int .i64 1048576] rfl (by (try simp only [List.map_toArray, List.map_cons, List.map_nil]); first | done | rfl | (simp only [List.length_drop, List.length_take]; rfl)) ?_; (with_reducible refine (laws_szEngine.calls k a0_0 _ _ l0_1 _ _ l0_2 _ _ l0_3 _ _ l0_4 a0_5 1048576 t325 _ ?side1 ?side2 ?side3 ?side4 ?side5 ?side6 ?side7 ?side8 A3.out).mono ?_); (case side1 => exact CB HR0_1.out HB.out); (case side2 => exact HC0_1.out); (case side3 => exact CB HR0_2.out HB.out); (case side4 => exact HC0_2.out); (case side5 => exact CB HR0_3.out HB.out); (case side6 => exact HC0_3.out); (case side7 => exact CB HR0_4.out HB.out); (case side8 => exact HC0_4.out); rintro e w9 ⟨rfl, hb⟩; refine ⟨_, rfl, ?_⟩; replace BK323 := AM_ (BB BK323.out hb); replace BK324 := AM_ (BB BK324.out hb); replace HB := AM_ (below_step (BT HB.out) hb); (try clear hb); (try clear hb2); (try clear hk); (try clear hi)))
  go_ret
  exact QT (BT HB.out)
 rw [if_neg c4] at H
 have c4b0 : decide (t325 < 0) = false := decide_eq_false c4
 clear c4
 replace H := Option.bind_eq_some_iff.mp H
 obtain ⟨t326, A100, H⟩ := H
 replace H : (if t326 < 0 then (some true) else ((laws_toEngine.f k a0_0 l0_1 l0_2 l0_3 l0_4 a0_5).bind fun bt327 => ((laws_toEngine.f k a1_0 l1_1 l1_2 l1_3 l1_4 a1_5).bind fun bt341 => ((spec_EqualEngines.f k bt327.1 bt327.2.1 bt327.2.2.1 bt327.2.2.2.1 bt327.2.2.2.2.1 bt327.2.2.2.2.2 bt341.1 bt341.2.1 bt341.2.2.1 bt341.2.2.2.1 bt341.2.2.2.2.1 bt341.2.2.2.2.2).bind fun t355 => ((laws_toEngine.f k a0_0 l0_1 l0_2 l0_3 l0_4 a0_5).bind fun bt356 => ((laws_toEngine.f k a1_0 l1_1 l1_2 l1_3 l1_4 a1_5).bind fun bt371 => ((impl_EqualEngines.f k bt356.1 bt356.2.1 bt356.2.2.1 bt356.2.2.2.1 bt356.2.2.2.2.1 bt356.2.2.2.2.2 bt371.1 bt371.2.1 bt371.2.2.1 bt371.2.2.2.1 bt371.2.2.2.2.1 bt371.2.2.2.2.2).bind fun t386 => (if (t386 != t355) = true then (some false) else ((laws_toEngine.f k a0_0 l0_1 l0_2 l0_3 l0_4 a0_5).bind fun bt387 => ((laws_eqEngine.f k bt356.1 bt356.2.1 bt356.2.2.1 bt356.2.2.2.1 bt356.2.2.2.2.1 bt356.2.2.2.2.2 bt387.1 bt387.2.1 bt387.2.2.1 bt387.2.2.2.1 bt387.2.2.2.2.1 bt387.2.2.2.2.2).bind fun t401 => (if t401 = true then ((laws_toEngine.f k a1_0 l1_1 l1_2 l1_3 l1_4 a1_5).bind fun bt402 => ((laws_eqEngine.f k bt371.1 bt371.2.1 bt371.2.2.1 bt371.2.2.2.1 bt371.2.2.2.2.1 bt371.2.2.2.2.2 bt402.1 bt402.2.1 bt402.2.2.1 bt402.2.2.2.1 bt402.2.2.2.2.1 bt402.2.2.2.2.2).bind fun t416 => (if t416 = true then (some true) else (some false)))) else (some false)))))))))))) = some r := H
 have A10 := AM_ A100
 clear A100
 by_cases c11 : t326 < 0
 ·rw [if_pos c11] at H
  have c11b0 : decide (t326 < 0) = true := decide_eq_true c11
  clear c11
  obtain rfl := Option.some.inj H
  go_enter Try.func8, Try.ntmps8
  go_wp2_with (first | ((with_reducible refine gate_dst (N := 2) rfl ?_); refine box_event ?hg (N := 2) ?hd (cs := #[.bool a0_0, .slice A0_1 l0_1.length c0_1, .slice A0_2 l0_2.length c0_2, .slice A0_3 l0_3.length c0_3, .slice A0_4 l0_4.length c0_4, .int .i64 a0_5]) (t := 44) ?hr ?_; (case hd => rfl); (case hg => rfl); (case hr => first | (go_simp; done) | (go_simp; rfl)); intro gb323 hg w12 hbox hb; have BK323 := AM_ (hbox); have GW323 := AM_ ((GS HB.out hg)); have GE323 := AM_ ((GS HB.out hg)); replace HB := AM_ (below_step (BT HB.out) hb); clear hb hbox hg) | ((with_reducible refine gate_dst (N := 3) rfl ?_); refine box_event ?hg (N := 3) ?hd (cs := #[.bool a1_0, .slice A1_1 l1_1.length c1_1, .slice A1_2 l1_2.length c1_2, .slice A1_3 l1_3.length c1_3, .slice A1_4 l1_4.length c1_4, .int .i64 a1_5]) (t := 44) ?hr ?_; (case hd => rfl); (case hg => rfl); (case hr => first | (go_simp; done) | (go_simp; rfl)); intro gb324 hg w13 hbox hb; have BK324 := AM_ (hbox); have GW324 := AM_ ((GS HB.out hg)); have GE324 := AM_ ((GS HB.out hg)); replace HB := AM_ (below_step (BT HB.out) hb); have NB323_324 := AM_ ((NL BK323.out hg)); have NB324_323 := AM_ ((NG BK323.out hg)); replace BK323 := AM_ (BB BK323.out hb); clear hb hbox hg; have hnb14 := NB323_324.out; have hnc14 := NB324_323.out; obtain ⟨hcz15_0, hcz15_1, hcz15_2, hcz15_3, hcz15_4, hcz15_5, hfz15_0, hfz15_1, hfz15_2, hfz15_3, hfz15_4, hfz15_5⟩ := bk6 BK323.out) | ((with_reducible refine gate_callee (f := 27) rfl ?_); refine goesL_ (some 12) rfl rfl Try.func27 (by kernel_rfl) rfl #[.agg #[.bool a0_0, .slice A0_1 l0_1.length c0_1, .slice A0_2 l0_2.length c0_2, .slice A0_3 l0_3.length c0_3, .slice A0_4 l0_4.length c0_4, .int .i64 a0_5], .int .i64 1048576] rfl (by (try simp only [List.map_toArray, List.map_cons, List.map_nil]); first | done | rfl | (simp only [List.length_drop, List.length_take]; rfl)) ?_; (with_reducible refine (laws_szEngine.calls k a0_0 _ _ l0_1 _ _ l0_2 _ _ l0_3 _ _ l0_4 a0_5 1048576 t325 _ ?side1 ?side2 ?side3 ?side4 ?side5 ?side6 ?side7 ?side8 A3.out).mono ?_); (case side1 => exact CB HR0_1.out HB.out); (case side2 => exact HC0_1.out); (case side3 => exact CB HR0_2.out HB.out); (case side4 => exact HC0_2.out); (case side5 => exact CB HR0_3.out HB.out); (case side6 => exact HC0_3.out); (case side7 => exact CB HR0_4.out HB.out); (case side8 => exact HC0_4.out); rintro e w16 ⟨rfl, hb⟩; refine ⟨_, rfl, ?_⟩; replace BK323 := AM_ (BB BK323.out hb); replace BK324 := AM_ (BB BK324.out hb); replace HB := AM_ (below_step (BT HB.out) hb); (try clear hb); (try clear hb2); (try clear hk); (try clear hi); obtain ⟨hcz17_0, hcz17_1, hcz17_2, hcz17_3, hcz17_4, hcz17_5, hfz17_0, hfz17_1, hfz17_2, hfz17_3, hfz17_4, hfz17_5⟩ := bk6 BK324.out) | ((with_reducible refine gate_callee (f := 27) rfl ?_); refine goesL_ (some 17) rfl rfl Try.func27 (by kernel_rfl) rfl #[.agg #[.bool a1_0, .slice A1_1 l1_1.length c1_1, .slice A1_2 l1_2.length c1_2, .slice A1_3 l1_3.length c1_3, .slice A1_4 l1_4.length c1_4, .int .i64 a1_5], .int .i64 t325] rfl (by (try simp only [List.map_toArray, List.map_cons, List.map_nil]); first | done | rfl | (simp only [List.length_drop, List.length_take]; rfl)) ?_; (with_reducible refine (laws_szEngine.calls k a1_0 _ _ l1_1 _ _ l1_2 _ _ l1_3 _ _ l1_4 a1_5 t325 t326 _ ?side1 ?side2 ?side3 ?side4 ?side5 ?side6 ?side7 ?side8 A10.out).mono ?_); (case side1 => exact CB HR1_1.out HB.out); (case side2 => exact HC1_1.out); (case side3 => exact CB HR1_2.out HB.out); (case side4 => exact HC1_2.out); (case side5 => exact CB HR1_3.out HB.out); (case side6 => exact HC1_3.out); (case side7 => exact CB HR1_4.out HB.out); (case side8 => exact HC1_4.out); rintro e w18 ⟨rfl, hb⟩; refine ⟨_, rfl, ?_⟩; replace BK323 := AM_ (BB BK323.out hb); replace BK324 := AM_ (BB BK324.out hb); replace HB := AM_ (below_step (BT HB.out) hb); (try clear hb); (try clear hb2); (try clear hk); (try clear hi)))
  go_ret
  exact QT (BT HB.out)
 rw [if_neg c11] at H
 have c11b0 : decide (t326 < 0) = false := decide_eq_false c11
 clear c11
 replace H := Option.bind_eq_some_iff.mp H
 obtain ⟨⟨t327, t328, t331, t334, t337, t340⟩, A190, H⟩ := H
 replace H : ((laws_toEngine.f k a1_0 l1_1 l1_2 l1_3 l1_4 a1_5).bind fun bt341 => ((spec_EqualEngines.f k t327 t328 t331 t334 t337 t340 bt341.1 bt341.2.1 bt341.2.2.1 bt341.2.2.2.1 bt341.2.2.2.2.1 bt341.2.2.2.2.2).bind fun t355 => ((laws_toEngine.f k a0_0 l0_1 l0_2 l0_3 l0_4 a0_5).bind fun bt356 => ((laws_toEngine.f k a1_0 l1_1 l1_2 l1_3 l1_4 a1_5).bind fun bt371 => ((impl_EqualEngines.f k bt356.1 bt356.2.1 bt356.2.2.1 bt356.2.2.2.1 bt356.2.2.2.2.1 bt356.2.2.2.2.2 bt371.1 bt371.2.1 bt371.2.2.1 bt371.2.2.2.1 bt371.2.2.2.2.1 bt371.2.2.2.2.2).bind fun t386 => (if (t386 != t355) = true then (some false) else ((laws_toEngine.f k a0_0 l0_1 l0_2 l0_3 l0_4 a0_5).bind fun bt387 => ((laws_eqEngine.f k bt356.1 bt356.2.1 bt356.2.2.1 bt356.2.2.2.1 bt356.2.2.2.2.1 bt356.2.2.2.2.2 bt387.1 bt387.2.1 bt387.2.2.1 bt387.2.2.2.1 bt387.2.2.2.2.1 bt387.2.2.2.2.2).bind fun t401 => (if t401 = true then ((laws_toEngine.f k a1_0 l1_1 l1_2 l1_3 l1_4 a1_5).bind fun bt402 => ((laws_eqEngine.f k bt371.1 bt371.2.1 bt371.2.2.1 bt371.2.2.2.1 bt371.2.2.2.2.1 bt371.2.2.2.2.2 bt402.1 bt402.2.1 bt402.2.2.1 bt402.2.2.2.1 bt402.2.2.2.2.1 bt402.2.2.2.2.2).bind fun t416 => (if t416 = true then (some true) else (some false)))) else (some false)))))))))) = some r := H
 have A19 := AM_ A190
 clear A190
 replace H := Option.bind_eq_some_iff.mp H
 obtain ⟨⟨t341, t342, t345, t348, t351, t354⟩, A200, H⟩ := H
 replace H : ((spec_EqualEngines.f k t327 t328 t331 t334 t337 t340 t341 t342 t345 t348 t351 t354).bind fun t355 => ((laws_toEngine.f k a0_0 l0_1 l0_2 l0_3 l0_4 a0_5).bind fun bt356 => ((laws_toEngine.f k a1_0 l1_1 l1_2 l1_3 l1_4 a1_5).bind fun bt371 => ((impl_EqualEngines.f k bt356.1 bt356.2.1 bt356.2.2.1 bt356.2.2.2.1 bt356.2.2.2.2.1 bt356.2.2.2.2.2 bt371.1 bt371.2.1 bt371.2.2.1 bt371.2.2.2.1 bt371.2.2.2.2.1 bt371.2.2.2.2.2).bind fun t386 => (if (t386 != t355) = true then (some false) else ((laws_toEngine.f k a0_0 l0_1 l0_2 l0_3 l0_4 a0_5).bind fun bt387 => ((laws_eqEngine.f k bt356.1 bt356.2.1 bt356.2.2.1 bt356.2.2.2.1 bt356.2.2.2.2.1 bt356.2.2.2.2.2 bt387.1 bt387.2.1 bt387.2.2.1 bt387.2.2.2.1 bt387.2.2.2.2.1 bt387.2.2.2.2.2).bind fun t401 => (if t401 = true then ((laws_toEngine.f k a1_0 l1_1 l1_2 l1_3 l1_4 a1_5).bind fun bt402 => ((laws_eqEngine.f k bt371.1 bt371.2.1 bt371.2.2.1 bt371.2.2.2.1 bt371.2.2.2.2.1 bt371.2.2.2.2.2 bt402.1 bt402.2.1 bt402.2.2.1 bt402.2.2.2.1 bt402.2.2.2.2.1 bt402.2.2.2.2.2).bind fun t416 => (if t416 = true then (some true) else (some false)))) else (some false))))))))) = some r := H
 have A20 := AM_ A200
 clear A200
 replace H := Option.bind_eq_some_iff.mp H
 obtain ⟨t355, A210, H⟩ := H
 replace H : ((laws_toEngine.f k a0_0 l0_1 l0_2 l0_3 l0_4 a0_5).bind fun bt356 => ((laws_toEngine.f k a1_0 l1_1 l1_2 l1_3 l1_4 a1_5).bind fun bt371 => ((impl_EqualEngines.f k bt356.1 bt356.2.1 bt356.2.2.1 bt356.2.2.2.1 bt356.2.2.2.2.1 bt356.2.2.2.2.2 bt371.1 bt371.2.1 bt371.2.2.1 bt371.2.2.2.1 bt371.2.2.2.2.1 bt371.2.2.2.2.2).bind fun t386 => (if (t386 != t355) = true then (some false) else ((laws_toEngine.f k a0_0 l0_1 l0_2 l0_3 l0_4 a0_5).bind fun bt387 => ((laws_eqEngine.f k bt356.1 bt356.2.1 bt356.2.2.1 bt356.2.2.2.1 bt356.2.2.2.2.1 bt356.2.2.2.2.2 bt387.1 bt387.2.1 bt387.2.2.1 bt387.2.2.2.1 bt387.2.2.2.2.1 bt387.2.2.2.2.2).bind fun t401 => (if t401 = true then ((laws_toEngine.f k a1_0 l1_1 l1_2 l1_3 l1_4 a1_5).bind fun bt402 => ((laws_eqEngine.f k bt371.1 bt371.2.1 bt371.2.2.1 bt371.2.2.2.1 bt371.2.2.2.2.1 bt371.2.2.2.2.2 bt402.1 bt402.2.1 bt402.2.2.1 bt402.2.2.2.1 bt402.2.2.2.2.1 bt402.2.2.2.2.2).bind fun t416 => (if t416 = true then (some true) else (some false)))) else (some false)))))))) = some r := H
 have A21 := AM_ A210
 clear A210
 replace H := Option.bind_eq_some_iff.mp H
 obtain ⟨⟨t356, t357, t360, t363, t366, t369⟩, A220, H⟩ := H
 replace H : ((laws_toEngine.f k a1_0 l1_1 l1_2 l1_3 l1_4 a1_5).bind fun bt371 => ((impl_EqualEngines.f k t356 t357 t360 t363 t366 t369 bt371.1 bt371.2.1 bt371.2.2.1 bt371.2.2.2.1 bt371.2.2.2.2.1 bt371.2.2.2.2.2).bind fun t386 => (if (t386 != t355) = true then (some false) else ((laws_toEngine.f k a0_0 l0_1 l0_2 l0_3 l0_4 a0_5).bind fun bt387 => ((laws_eqEngine.f k t356 t357 t360 t363 t366 t369 bt387.1 bt387.2.1 bt387.2.2.1 bt387.2.2.2.1 bt387.2.2.2.2.1 bt387.2.2.2.2.2).bind fun t401 => (if t401 = true then ((laws_toEngine.f k a1_0 l1_1 l1_2 l1_3 l1_4 a1_5).bind fun bt402 => ((laws_eqEngine.f k bt371.1 bt371.2.1 bt371.2.2.1 bt371.2.2.2.1 bt371.2.2.2.2.1 bt371.2.2.2.2.2 bt402.1 bt402.2.1 bt402.2.2.1 bt402.2.2.2.1 bt402.2.2.2.2.1 bt402.2.2.2.2.2).bind fun t416 => (if t416 = true then (some true) else (some false)))) else (some false))))))) = some r := H
 have A22 := AM_ A220
 clear A220
 replace H := Option.bind_eq_some_iff.mp H
 obtain ⟨⟨t371, t372, t375, t378, t381, t384⟩, A230, H⟩ := H
 replace H : ((impl_EqualEngines.f k t356 t357 t360 t363 t366 t369 t371 t372 t375 t378 t381 t384).bind fun t386 => (if (t386 != t355) = true then (some false) else ((laws_toEngine.f k a0_0 l0_1 l0_2 l0_3 l0_4 a0_5).bind fun bt387 => ((laws_eqEngine.f k t356 t357 t360 t363 t366 t369 bt387.1 bt387.2.1 bt387.2.2.1 bt387.2.2.2.1 bt387.2.2.2.2.1 bt387.2.2.2.2.2).bind fun t401 => (if t401 = true then ((laws_toEngine.f k a1_0 l1_1 l1_2 l1_3 l1_4 a1_5).bind fun bt402 => ((laws_eqEngine.f k t371 t372 t375 t378 t381 t384 bt402.1 bt402.2.1 bt402.2.2.1 bt402.2.2.2.1 bt402.2.2.2.2.1 bt402.2.2.2.2.2).bind fun t416 => (if t416 = true then (some true) else (some false)))) else (some false)))))) = some r := H
 have A23 := AM_ A230
 clear A230
 replace H := Option.bind_eq_some_iff.mp H
 obtain ⟨t386, A240, H⟩ := H
 replace H : (if (t386 != t355) = true then (some false) else ((laws_toEngine.f k a0_0 l0_1 l0_2 l0_3 l0_4 a0_5).bind fun bt387 => ((laws_eqEngine.f k t356 t357 t360 t363 t366 t369 bt387.1 bt387.2.1 bt387.2.2.1 bt387.2.2.2.1 bt387.2.2.2.2.1 bt387.2.2.2.2.2).bind fun t401 => (if t401 = true then ((laws_toEngine.f k a1_0 l1_1 l1_2 l1_3 l1_4 a1_5).bind fun bt402 => ((laws_eqEngine.f k t371 t372 t375 t378 t381 t384 bt402.1 bt402.2.1 bt402.2.2.1 bt402.2.2.2.1 bt402.2.2.2.2.1 bt402.2.2.2.2.2).bind fun t416 => (if t416 = true then (some true) else (some false)))) else (some false))))) = some r := H
 have A24 := AM_ A240
 clear A240
 by_cases c25 : (t386 != t355) = true
 ·rw [if_pos c25] at H
  have c25b0 : (t386 != t355) = true := c25
  (try (have c25b1 : decide (t386 = t355) = false := by simpa using c25))
  (try (have c25b2 : (t386 == t355) = false := by simpa using c25))
  (try (have c25b3 : ¬ (t386 = t355) := by simpa using c25))
  clear c25
  obtain rfl := Option.some.inj H
  go_enter Try.func8, Try.ntmps8
  try go_wp2_with (first | ((with_reducible refine gate_dst (N := 2) rfl ?_); refine box_event ?hg (N := 2) ?hd (cs := #[.bool a0_0, .slice A0_1 l0_1.length c0_1, .slice A0_2 l0_2.length c0_2, .slice A0_3 l0_3.length c0_3, .slice A0_4 l0_4.length c0_4, .int .i64 a0_5]) (t := 44) ?hr ?_; (case hd => rfl); (case hg => rfl); (case hr => first | (go_simp; done) | (go_simp; rfl)); intro gb323 hg w26 hbox hb; have BK323 := AM_ (hbox); have GW323 := AM_ ((GS HB.out hg)); have GE323 := AM_ ((GS HB.out hg)); replace HB := AM_ (below_step (BT HB.out) hb); clear hb hbox hg) | ((with_reducible refine gate_dst (N := 3) rfl ?_); refine box_event ?hg (N := 3) ?hd (cs := #[.bool a1_0, .slice A1_1 l1_1.length c1_1, .slice A1_2 l1_2.length c1_2, .slice A1_3 l1_3.length c1_3, .slice A1_4 l1_4.length c1_4, .int .i64 a1_5]) (t := 44) ?hr ?_; (case hd => rfl); (case hg => rfl); (case hr => first | (go_simp; done) | (go_simp; rfl)); intro gb324 hg w27 hbox hb; have BK324 := AM_ (hbox); have GW324 := AM_ ((GS HB.out hg)); have GE324 := AM_ ((GS HB.out hg)); replace HB := AM_ (below_step (BT HB.out) hb); have NB323_324 := AM_ ((NL BK323.out hg)); have NB324_323 := AM_ ((NG BK323.out hg)); replace BK323 := AM_ (BB BK323.out hb); clear hb hbox hg; have hnb28 := NB323_324.out; have hnc28 := NB324_323.out; obtain ⟨hcz29_0, hcz29_1, hcz29_2, hcz29_3, hcz29_4, hcz29_5, hfz29_0, hfz29_1, hfz29_2, hfz29_3, hfz29_4, hfz29_5⟩ := bk6 BK323.out) | ((with_reducible refine gate_callee (f := 27) rfl ?_); refine goesL_ (some 12) rfl rfl Try.func27 (by kernel_rfl) rfl #[.agg #[.bool a0_0, .slice A0_1 l0_1.length c0_1, .slice A0_2 l0_2.length c0_2, .slice A0_3 l0_3.length c0_3, .slice A0_4 l0_4.length c0_4, .int .i64 a0_5], .int .i64 1048576] rfl (by (try simp only [List.map_toArray, List.map_cons, List.map_nil]); first | done | rfl | (simp only [List.length_drop, List.length_take]; rfl)) ?_; (with_reducible refine (laws_szEngine.calls k a0_0 _ _ l0_1 _ _ l0_2 _ _ l0_3 _ _ l0_4 a0_5 1048576 t325 _ ?side1 ?side2 ?side3 ?side4 ?side5 ?side6 ?side7 ?side8 A3.out).mono ?_); (case side1 => exact CB HR0_1.out HB.out); (case side2 => exact HC0_1.out); (case side3 => exact CB HR0_2.out HB.out); (case side4 => exact HC0_2.out); (case side5 => exact CB HR0_3.out HB.out); (case side6 => exact HC0_3.out); (case side7 => exact CB HR0_4.out HB.out); (case side8 => exact HC0_4.out); rintro e w30 ⟨rfl, hb⟩; refine ⟨_, rfl, ?_⟩; replace BK323 := AM_ (BB BK323.out hb); replace BK324 := AM_ (BB BK324.out hb); replace HB := AM_ (below_step (BT HB.out) hb); (try clear hb); (try clear hb2); (try clear hk); (try clear hi); obtain ⟨hcz31_0, hcz31_1, hcz31_2, hcz31_3, hcz31_4, hcz31_5, hfz31_0, hfz31_1, hfz31_2, hfz31_3, hfz31_4, hfz31_5⟩ := bk6 BK324.out) | ((with_reducible refine gate_callee (f := 27) rfl ?_); refine goesL_ (some 17) rfl rfl Try.func27 (by kernel_rfl) rfl #[.agg #[.bool a1_0, .slice A1_1 l1_1.length c1_1, .slice A1_2 l1_2.length c1_2, .slice A1_3 l1_3.length c1_3, .slice A1_4 l1_4.length c1_4, .int .i64 a1_5], .int .i64 t325] rfl (by (try simp only [List.map_toArray, List.map_cons, List.map_nil]); first | done | rfl | (simp only [List.length_drop, List.length_take]; rfl)) ?_; (with_reducible refine (laws_szEngine.calls k a1_0 _ _ l1_1 _ _ l1_2 _ _ l1_3 _ _ l1_4 a1_5 t325 t326 _ ?side1 ?side2 ?side3 ?side4 ?side5 ?side6 ?side7 ?side8 A10.out).mono ?_); (case side1 => exact CB HR1_1.out HB.out); (case side2 => exact HC1_1.out); (case side3 => exact CB HR1_2.out HB.out); (case side4 => exact HC1_2.out); (case side5 => exact CB HR1_3.out HB.out); (case side6 => exact HC1_3.out); (case side7 => exact CB HR1_4.out HB.out); (case side8 => exact HC1_4.out); rintro e w32 ⟨rfl, hb⟩; refine ⟨_, rfl, ?_⟩; replace BK323 := AM_ (BB BK323.out hb); replace BK324 := AM_ (BB BK324.out hb); replace HB := AM_ (below_step (BT HB.out) hb); (try clear hb); (try clear hb2); (try clear hk); (try clear hi)))
  replace BK323 := AM_ (blk_drew BK323.out)
  replace BK324 := AM_ (blk_drew BK324.out)
  replace HB := AM_ (below_drew1 HB.out)
  refine start_ (n := 6) (S := fun w' => w'.cell? ⟨gb323, 0, none⟩ = some (.bool a0_0) ∧ w'.cell? ⟨gb323, 1, none⟩ = some (.slice A0_1 l0_1.length c0_1) ∧ w'.cell? ⟨gb323, 2, none⟩ = some (.slice A0_2 l0_2.length c0_2) ∧ w'.cell? ⟨gb323, 3, none⟩ = some (.slice A0_3 l0_3.length c0_3) ∧ w'.cell? ⟨gb323, 4, none⟩ = some (.slice A0_4 l0_4.length c0_4) ∧ w'.cell? ⟨gb323, 5, none⟩ = some (.int .i64 a0_5) ∧ w'.cell? ⟨gb324, 0, none⟩ = some (.bool a1_0) ∧ w'.cell? ⟨gb324, 1, none⟩ = some (.slice A1_1 l1_1.length c1_1) ∧ w'.cell? ⟨gb324, 2, none⟩ = some (.slice A1_2 l1_2.length c1_2) ∧ w'.cell? ⟨gb324, 3, none⟩ = some (.slice A1_3 l1_3.length c1_3) ∧ w'.cell? ⟨gb324, 4, none⟩ = some (.slice A1_4 l1_4.length c1_4) ∧ w'.cell? ⟨gb324, 5, none⟩ = some (.int .i64 a1_5)) (ds := []) (bs 0 6) (by kernel_rfl) rfl rfl ⟨bc BK323.out 0, bc BK323.out 1, bc BK323.out 2, bc BK323.out 3, bc BK323.out 4, bc BK323.out 5, bc BK324.out 0, bc BK324.out 1, bc BK324.out 2, bc BK324.out 3, bc BK324.out 4, bc BK324.out 5⟩ (fun hHeld => ?_)
  generalize w32.drew = w33 at BK323 BK324 HB hHeld ⊢
  refine take_ (i := 0) (N := some 20) (v := ?_) (a' := ?_) (bs 1 6) rfl rfl (by kernel_rfl) (fun _ _ _ h => h) (Or.inl ⟨by rfl, ?_⟩) hHeld ?_ ?_
  rotate_left
  ·rintro w' ⟨s0, s1, s2, s3, s4, s5, s6, s7, s8, s9, s10, s11⟩
   go_simp
   with_reducible rfl
  rotate_left
  ·simp only [pA, pS, pZ, pK, i64_w, i32_w]
   rfl
  refine take_ (i := 2) (N := some 22) (v := ?_) (a' := ?_) (bs 5 6) rfl rfl (by kernel_rfl) (fun _ _ _ h => h) (Or.inl ⟨by rfl, ?_⟩) hHeld ?_ ?_
  rotate_left
  ·rintro w' ⟨s0, s1, s2, s3, s4, s5, s6, s7, s8, s9, s10, s11⟩
   go_simp
   with_reducible rfl
  rotate_left
  ·simp only [pA, pS, pZ, pK, i64_w, i32_w]
   rfl
  refine one_ (i := 1) (N := some 21) (bs 7 6) rfl rfl (by kernel_rfl) (by decide) (fun K hK => ?_)
  refine goes_ Try.func29 (by kernel_rfl) rfl #[.agg #[.bool a0_0, .slice A0_1 l0_1.length c0_1, .slice A0_2 l0_2.length c0_2, .slice A0_3 l0_3.length c0_3, .slice A0_4 l0_4.length c0_4, .int .i64 a0_5]] (by rfl) rfl rfl (by (try simp only [List.map_toArray, List.map_cons, List.map_nil]); first | done | rfl | (simp only [List.length_drop, List.length_take]; rfl)) ?_
  with_reducible refine (laws_toEngine.calls k a0_0 _ _ l0_1 _ _ l0_2 _ _ l0_3 _ _ l0_4 a0_5 t327 t328 t331 t334 t337 t340 _ ?side1 ?side2 ?side3 ?side4 ?side5 ?side6 ?side7 ?side8 A19.out).mono ?_
  (case side1 => exact CB HR0_1.out HB.out)
  (case side2 => exact HC0_1.out)
  (case side3 => exact CB HR0_2.out HB.out)
  (case side4 => exact HC0_2.out)
  (case side5 => exact CB HR0_3.out HB.out)
  (case side6 => exact HC0_3.out)
  (case side7 => exact CB HR0_4.out HB.out)
  (case side8 => exact HC0_4.out)
  rintro e w34 ⟨v329, v332, v335, v338, rfl, ho0, ho1, ho2, ho3, hb⟩
  refine ⟨_, rfl, ?_⟩
  have HO330 := AM_ (Kd.S_lower ho0 (below_size (BT HB.out)))
  have HO333 := AM_ (Kd.S_lower ho1 (below_size (BT HB.out)))
  have HO336 := AM_ (Kd.R_lower ho2 (below_size (BT HB.out)))
  have HO339 := AM_ (Kd.R_lower ho3 (below_size (BT HB.out)))
  replace BK323 := AM_ (BB BK323.out hb)
  replace BK324 := AM_ (BB BK324.out hb)
  replace HB := AM_ (below_step (BT HB.out) hb)
  (try clear hb)
  (try clear hb2)
  (try clear hk)
  (try clear hi)
  (try clear ho0)
  (try clear ho1)
  (try clear ho2)
  (try clear ho3)
  refine hK.out _ _ ⟨bc BK323.out 0, bc BK323.out 1, bc BK323.out 2, bc BK323.out 3, bc BK323.out 4, bc BK323.out 5, bc BK324.out 0, bc BK324.out 1, bc BK324.out 2, bc BK324.out 3, bc BK324.out 4, bc BK324.out 5⟩ (fun hHeld => ?_)
  clear hK K
  refine norm_ (a' := ?_) ?_ ?_
  rotate_left
  ·show Act.put _ (some 21) _ = _
   simp only [pA, pS, pZ, pK, i64_w, i32_w]
   rfl
  refine one_ (i := 3) (N := some 23) (bs 15 6) rfl rfl (by kernel_rfl) (by decide) (fun K hK => ?_)
  refine goes_ Try.func29 (by kernel_rfl) rfl #[.agg #[.bool a1_0, .slice A1_1 l1_1.length c1_1, .slice A1_2 l1_2.length c1_2, .slice A1_3 l1_3.length c1_3, .slice A1_4 l1_4.length c1_4, .int .i64 a1_5]] (by rfl) rfl rfl (by (try simp only [List.map_toArray, List.map_cons, List.map_nil]); first | done | rfl | (simp only [List.length_drop, List.length_take]; rfl)) ?_
  with_reducible refine (laws_toEngine.calls k a1_0 _ _ l1_1 _ _ l1_2 _ _ l1_3 _ _ l1_4 a1_5 t341 t342 t345 t348 t351 t354 _ ?side1 ?side2 ?side3 ?side4 ?side5 ?side6 ?side7 ?side8 A20.out).mono ?_
  (case side1 => exact CB HR1_1.out HB.out)
  (case side2 => exact HC1_1.out)
  (case side3 => exact CB HR1_2.out HB.out)
  (case side4 => exact HC1_2.out)
  (case side5 => exact CB HR1_3.out HB.out)
  (case side6 => exact HC1_3.out)
  (case side7 => exact CB HR1_4.out HB.out)
  (case side8 => exact HC1_4.out)
  rintro e w35 ⟨v343, v346, v349, v352, rfl, ho0, ho1, ho2, ho3, hb⟩
  refine ⟨_, rfl, ?_⟩
  have HO344 := AM_ (Kd.S_lower (Kd.S_new' ho0 (Kd.S_lt (ST HO330.out))) (below_size (BT HB.out)))
  replace HO330 := AM_ (Kd.S_elder' (ST HO330.out) (Kd.S_base ho0) hb)
  have HO347 := AM_ (Kd.S_lower (Kd.S_new' ho1 (Kd.S_lt (ST HO333.out))) (below_size (BT HB.out)))
  replace HO333 := AM_ (Kd.S_elder' (ST HO333.out) (Kd.S_base ho1) hb)
  have HO350 := AM_ (Kd.R_lower (Kd.R_new' ho2 (Kd.R_lt (RT HO336.out))) (below_size (BT HB.out)))
  replace HO336 := AM_ (Kd.R_elder' (RT HO336.out) (Kd.R_base ho2) hb)
  have HO353 := AM_ (Kd.R_lower (Kd.R_new' ho3 (Kd.R_lt (RT HO339.out))) (below_size (BT HB.out)))
  replace HO339 := AM_ (Kd.R_elder' (RT HO339.out) (Kd.R_base ho3) hb)
  replace BK323 := AM_ (BB BK323.out hb)
  replace BK324 := AM_ (BB BK324.out hb)
  replace HB := AM_ (below_step (BT HB.out) hb)
  (try clear hb)
  (try clear hb2)
  (try clear hk)
  (try clear hi)
  (try clear ho0)
  (try clear ho1)
  (try clear ho2)
  (try clear ho3)
  obtain ⟨Ao36, co36, eo36⟩ := Kd.S_slice HO330.out
  (first | subst eo36 | (injection eo36 with f1_ f2_ f3_; have f4_ := f1_.symm; have f5_ := f3_.symm; clear f1_ f2_ f3_; subst f4_; subst f5_))
  obtain ⟨Ao37, co37, eo37⟩ := Kd.S_slice HO333.out
  (first | subst eo37 | (injection eo37 with f1_ f2_ f3_; have f4_ := f1_.symm; have f5_ := f3_.symm; clear f1_ f2_ f3_; subst f4_; subst f5_))
  obtain ⟨Ao38, co38, eo38⟩ := Kd.R_slice HO336.out
  (first | subst eo38 | (injection eo38 with f1_ f2_ f3_; have f4_ := f1_.symm; have f5_ := f3_.symm; clear f1_ f2_ f3_; subst f4_; subst f5_))
  obtain ⟨Ao39, co39, eo39⟩ := Kd.R_slice HO339.out
  (first | subst eo39 | (injection eo39 with f1_ f2_ f3_; have f4_ := f1_.symm; have f5_ := f3_.symm; clear f1_ f2_ f3_; subst f4_; subst f5_))
  obtain ⟨Ao40, co40, eo40⟩ := Kd.S_slice HO344.out
  (first | subst eo40 | (injection eo40 with f1_ f2_ f3_; have f4_ := f1_.symm; have f5_ := f3_.symm; clear f1_ f2_ f3_; subst f4_; subst f5_))
  obtain ⟨Ao41, co41, eo41⟩ := Kd.S_slice HO347.out
  (first | subst eo41 | (injection eo41 with f1_ f2_ f3_; have f4_ := f1_.symm; have f5_ := f3_.symm; clear f1_ f2_ f3_; subst f4_; subst f5_))
  obtain ⟨Ao42, co42, eo42⟩ := Kd.R_slice HO350.out
  (first | subst eo42 | (injection eo42 with f1_ f2_ f3_; have f4_ := f1_.symm; have f5_ := f3_.symm; clear f1_ f2_ f3_; subst f4_; subst f5_))
  obtain ⟨Ao43, co43, eo43⟩ := Kd.R_slice HO353.out
  (first | subst eo43 | (injection eo43 with f1_ f2_ f3_; have f4_ := f1_.symm; have f5_ := f3_.symm; clear f1_ f2_ f3_; subst f4_; subst f5_))
  refine hK.out _ _ ⟨bc BK323.out 0, bc BK323.out 1, bc BK323.out 2, bc BK323.out 3, bc BK323.out 4, bc BK323.out 5, bc BK324.out 0, bc BK324.out 1, bc BK324.out 2, bc BK324.out 3, bc BK324.out 4, bc BK324.out 5⟩ (fun hHeld => ?_)
  clear hK K
  refine norm_ (a' := ?_) ?_ ?_
  rotate_left
  ·show Act.put _ (some 23) _ = _
   simp only [pA, pS, pZ, pK, i64_w, i32_w]
   rfl
  refine one_ (i := 4) (N := some 24) (bs 31 6) rfl rfl (by kernel_rfl) (by decide) (fun K hK => ?_)
  refine goes_ Try.func47 (by kernel_rfl) rfl #[.agg #[.bool t327, .slice Ao36 t328.length co36, .slice Ao37 t331.length co37, .slice Ao38 t334.length co38, .slice Ao39 t337.length co39, .int .i64 t340], .agg #[.bool t341, .slice Ao40 t342.length co40, .slice Ao41 t345.length co41, .slice Ao42 t348.length co42, .slice Ao43 t351.length co43, .int .i64 t354]] (by rfl) rfl rfl (by (try simp only [List.map_toArray, List.map_cons, List.map_nil]); first | done | rfl | (simp only [List.length_drop, List.length_take]; rfl)) ?_
  with_reducible refine (spec_EqualEngines.calls k t327 _ _ t328 _ _ t331 _ _ t334 _ _ t337 t340 t341 _ _ t342 _ _ t345 _ _ t348 _ _ t351 t354 t355 _ ?side1 ?side2 ?side3 ?side4 ?side5 ?side6 ?side7 ?side8 ?side9 ?side10 ?side11 ?side12 ?side13 ?side14 ?side15 ?side16 A21.out).mono ?_
  (case side1 => exact Kd.C_below (Kd.S_reads' HO330.out).2.2 (BL (Below.refl _ _) rfl rfl rfl rfl))
  (case side2 => exact (Kd.S_reads' HO330.out).2.1)
  (case side3 => exact Kd.C_below (Kd.S_reads' HO333.out).2.2 (BL (Below.refl _ _) rfl rfl rfl rfl))
  (case side4 => exact (Kd.S_reads' HO333.out).2.1)
  (case side5 => exact Kd.C_below (Kd.R_reads' HO336.out).2.2 (BL (Below.refl _ _) rfl rfl rfl rfl))
  (case side6 => exact (Kd.R_reads' HO336.out).2.1)
  (case side7 => exact Kd.C_below (Kd.R_reads' HO339.out).2.2 (BL (Below.refl _ _) rfl rfl rfl rfl))
  (case side8 => exact (Kd.R_reads' HO339.out).2.1)
  (case side9 => exact Kd.C_below (Kd.S_reads' HO344.out).2.2 (BL (Below.refl _ _) rfl rfl rfl rfl))
  (case side10 => exact (Kd.S_reads' HO344.out).2.1)
  (case side11 => exact Kd.C_below (Kd.S_reads' HO347.out).2.2 (BL (Below.refl _ _) rfl rfl rfl rfl))
  (case side12 => exact (Kd.S_reads' HO347.out).2.1)
  (case side13 => exact Kd.C_below (Kd.R_reads' HO350.out).2.2 (BL (Below.refl _ _) rfl rfl rfl rfl))
  (case side14 => exact (Kd.R_reads' HO350.out).2.1)
  (case side15 => exact Kd.C_below (Kd.R_reads' HO353.out).2.2 (BL (Below.refl _ _) rfl rfl rfl rfl))
  (case side16 => exact (Kd.R_reads' HO353.out).2.1)
  rintro e w44 ⟨rfl, hb⟩
  refine ⟨_, rfl, ?_⟩
  replace HO330 := AM_ (Kd.S_below (ST HO330.out) hb)
  replace HO333 := AM_ (Kd.S_below (ST HO333.out) hb)
  replace HO336 := AM_ (Kd.R_below (RT HO336.out) hb)
  replace HO339 := AM_ (Kd.R_below (RT HO339.out) hb)
  replace HO344 := AM_ (Kd.S_below (ST HO344.out) hb)
  replace HO347 := AM_ (Kd.S_below (ST HO347.out) hb)
  replace HO350 := AM_ (Kd.R_below (RT HO350.out) hb)
  replace HO353 := AM_ (Kd.R_below (RT HO353.out) hb)
  replace BK323 := AM_ (BB BK323.out hb)
  replace BK324 := AM_ (BB BK324.out hb)
  replace HB := AM_ (below_step (BT HB.out) hb)
  (try clear hb)
  (try clear hb2)
  (try clear hk)
  (try clear hi)
  refine hK.out _ _ ⟨bc BK323.out 0, bc BK323.out 1, bc BK323.out 2, bc BK323.out 3, bc BK323.out 4, bc BK323.out 5, bc BK324.out 0, bc BK324.out 1, bc BK324.out 2, bc BK324.out 3, bc BK324.out 4, bc BK324.out 5⟩ (fun hHeld => ?_)
  clear hK K
  refine norm_ (a' := ?_) ?_ ?_
  rotate_left
  ·show Act.put _ (some 24) _ = _
   simp only [pA, pS, pZ, pK, i64_w, i32_w]
   rfl
  refine pure_ (i := 5) (N := some 6) (v := ?_) (a' := ?_) (bs 63 6) rfl rfl (by kernel_rfl) (fun _ _ _ h => h) (Or.inl ⟨by rfl, ?_⟩) ?_ ?_
  rotate_left
  ·intro w'
   go_simp
   with_reducible rfl
  rotate_left
  ·simp only [pA, pS, pZ, pK, i64_w, i32_w]
   rfl
  refine done_ (by kernel_rfl) ?_
  obtain ⟨hcz45_0, hcz45_1, hcz45_2, hcz45_3, hcz45_4, hcz45_5, hfz45_0, hfz45_1, hfz45_2, hfz45_3, hfz45_4, hfz45_5⟩ := bk6 BK323.out
  try go_wp2_with (first | ((with_reducible refine gate_callee (f := 29) rfl ?_); refine goesL_ (some 26) rfl rfl Try.func29 (by kernel_rfl) rfl #[.agg #[.bool a0_0, .slice A0_1 l0_1.length c0_1, .slice A0_2 l0_2.length c0_2, .slice A0_3 l0_3.length c0_3, .slice A0_4 l0_4.length c0_4, .int .i64 a0_5]] rfl (by (try simp only [List.map_toArray, List.map_cons, List.map_nil]); first | done | rfl | (simp only [List.length_drop, List.length_take]; rfl)) ?_; (with_reducible refine (laws_toEngine.calls k a0_0 _ _ l0_1 _ _ l0_2 _ _ l0_3 _ _ l0_4 a0_5 t356 t357 t360 t363 t366 t369 _ ?side1 ?side2 ?side3 ?side4 ?side5 ?side6 ?side7 ?side8 A22.out).mono ?_); (case side1 => exact CB HR0_1.out HB.out); (case side2 => exact HC0_1.out); (case side3 => exact CB HR0_2.out HB.out); (case side4 => exact HC0_2.out); (case side5 => exact CB HR0_3.out HB.out); (case side6 => exact HC0_3.out); (case side7 => exact CB HR0_4.out HB.out); (case side8 => exact HC0_4.out); rintro e w46 ⟨v358, v361, v364, v367, rfl, ho0, ho1, ho2, ho3, hb⟩; refine ⟨_, rfl, ?_⟩; have HO359 := AM_ (Kd.S_lower (Kd.S_new' (Kd.S_new' ho0 (Kd.S_lt (ST HO330.out))) (Kd.S_lt (ST HO344.out))) (below_size (BT HB.out))); replace HO330 := AM_ (Kd.S_elder' (ST HO330.out) (Kd.S_base ho0) hb); replace HO344 := AM_ (Kd.S_elder' (ST HO344.out) (Kd.S_base ho0) hb); have HO362 := AM_ (Kd.S_lower (Kd.S_new' (Kd.S_new' ho1 (Kd.S_lt (ST HO333.out))) (Kd.S_lt (ST HO347.out))) (below_size (BT HB.out))); replace HO333 := AM_ (Kd.S_elder' (ST HO333.out) (Kd.S_base ho1) hb); replace HO347 := AM_ (Kd.S_elder' (ST HO347.out) (Kd.S_base ho1) hb); have HO365 := AM_ (Kd.R_lower (Kd.R_new' (Kd.R_new' ho2 (Kd.R_lt (RT HO336.out))) (Kd.R_lt (RT HO350.out))) (below_size (BT HB.out))); replace HO336 := AM_ (Kd.R_elder' (RT HO336.out) (Kd.R_base ho2) hb); replace HO350 := AM_ (Kd.R_elder' (RT HO350.out) (Kd.R_base ho2) hb); have HO368 := AM_ (Kd.R_lower (Kd.R_new' (Kd.R_new' ho3 (Kd.R_lt (RT HO339.out))) (Kd.R_lt (RT HO353.out))) (below_size (BT HB.out))); replace HO339 := AM_ (Kd.R_elder' (RT HO339.out) (Kd.R_base ho3) hb); replace HO353 := AM_ (Kd.R_elder' (RT HO353.out) (Kd.R_base ho3) hb); replace BK323 := AM_ (BB BK323.out hb); replace BK324 := AM_ (BB BK324.out hb); replace HB := AM_ (below_step (BT HB.out) hb); (try clear hb); (try clear hb2); (try clear hk); (try clear hi); (try clear ho0); (try clear ho1); (try clear ho2); (try clear ho3)) | ((with_reducible refine gate_dst (N := 7) rfl ?_); refine box_event ?hg (N := 7) ?hd (cs := #[.bool false, .slice none 0 0, .slice none 0 0, .slice none 0 0, .slice none 0 0, .int .i64 0]) (t := 53) ?hr ?_; (case hd => rfl); (case hg => rfl); (case hr => first | (go_simp; done) | (go_simp; rfl)); intro gb370 hg w47 hbox hb; replace HO330 := AM_ (Kd.S_below (ST HO330.out) hb); replace HO333 := AM_ (Kd.S_below (ST HO333.out) hb); replace HO336 := AM_ (Kd.R_below (RT HO336.out) hb); replace HO339 := AM_ (Kd.R_below (RT HO339.out) hb); replace HO344 := AM_ (Kd.S_below (ST HO344.out) hb); replace HO347 := AM_ (Kd.S_below (ST HO347.out) hb); replace HO350 := AM_ (Kd.R_below (RT HO350.out) hb); replace HO353 := AM_ (Kd.R_below (RT HO353.out) hb); replace HO359 := AM_ (Kd.S_below (ST HO359.out) hb); replace HO362 := AM_ (Kd.S_below (ST HO362.out) hb); replace HO365 := AM_ (Kd.R_below (RT HO365.out) hb); replace HO368 := AM_ (Kd.R_below (RT HO368.out) hb); have BK370 := AM_ (hbox); have GW370 := AM_ ((GS HB.out hg)); have GE370 := AM_ ((GS HB.out hg)); replace HB := AM_ (below_step (BT HB.out) hb); have NB323_370 := AM_ ((NL BK323.out hg)); have NB370_323 := AM_ ((NG BK323.out hg)); replace BK323 := AM_ (BB BK323.out hb); have NB324_370 := AM_ ((NL BK324.out hg)); have NB370_324 := AM_ ((NG BK324.out hg)); replace BK324 := AM_ (BB BK324.out hb); clear hb hbox hg; have hnb48 := NB370_323.out; have hnc48 := NB323_370.out; have hnb49 := NB370_324.out; have hnc49 := NB324_370.out; obtain ⟨hcz50_0, hcz50_1, hcz50_2, hcz50_3, hcz50_4, hcz50_5, hfz50_0, hfz50_1, hfz50_2, hfz50_3, hfz50_4, hfz50_5⟩ := bk6 BK370.out; obtain ⟨Ao51, co51, eo51⟩ := Kd.S_slice HO359.out; subst eo51; obtain ⟨Ao52, co52, eo52⟩ := Kd.S_slice HO362.out; subst eo52; obtain ⟨Ao53, co53, eo53⟩ := Kd.R_slice HO365.out; subst eo53; obtain ⟨Ao54, co54, eo54⟩ := Kd.R_slice HO368.out; subst eo54; obtain ⟨hcz55_0, hcz55_1, hcz55_2, hcz55_3, hcz55_4, hcz55_5, hfz55_0, hfz55_1, hfz55_2, hfz55_3, hfz55_4, hfz55_5⟩ := bk6 BK324.out) | ((with_reducible refine gate_callee (f := 29) rfl ?_); refine goesL_ (some 28) rfl rfl Try.func29 (by kernel_rfl) rfl #[.agg #[.bool a1_0, .slice A1_1 l1_1.length c1_1, .slice A1_2 l1_2.length c1_2, .slice A1_3 l1_3.length c1_3, .slice A1_4 l1_4.length c1_4, .int .i64 a1_5]] rfl (by (try simp only [List.map_toArray, List.map_cons, List.map_nil]); first | done | rfl | (simp only [List.length_drop, List.length_take]; rfl)) ?_; (with_reducible refine (laws_toEngine.calls k a1_0 _ _ l1_1 _ _ l1_2 _ _ l1_3 _ _ l1_4 a1_5 t371 t372 t375 t378 t381 t384 _ ?side1 ?side2 ?side3 ?side4 ?side5 ?side6 ?side7 ?side8 A23.out).mono ?_); (case side1 => exact Kd.C_below HR1_1.out (BT HB.out)); (case side2 => exact HC1_1.out); (case side3 => exact Kd.C_below HR1_2.out (BT HB.out)); (case side4 => exact HC1_2.out); (case side5 => exact Kd.C_below HR1_3.out (BT HB.out)); (case side6 => exact HC1_3.out); (case side7 => exact Kd.C_below HR1_4.out (BT HB.out)); (case side8 => exact HC1_4.out); rintro e w56 ⟨v373, v376, v379, v382, rfl, ho0, ho1, ho2, ho3, hb⟩; refine ⟨_, rfl, ?_⟩; have HO374 := AM_ (Kd.S_lower (Kd.S_new' (Kd.S_new' (Kd.S_new' ho0 (Kd.S_lt (SF2 HO330.out BK370.out))) (Kd.S_lt (SF2 HO344.out BK370.out))) (Kd.S_lt (SF2 HO359.out BK370.out))) (below_size (BT HB.out))); replace HO330 := AM_ (Kd.S_elder' (SF2 HO330.out BK370.out) (Kd.S_base ho0) hb); replace HO344 := AM_ (Kd.S_elder' (SF2 HO344.out BK370.out) (Kd.S_base ho0) hb); replace HO359 := AM_ (Kd.S_elder' (SF2 HO359.out BK370.out) (Kd.S_base ho0) hb); have HO377 := AM_ (Kd.S_lower (Kd.S_new' (Kd.S_new' (Kd.S_new' ho1 (Kd.S_lt (SF2 HO333.out BK370.out))) (Kd.S_lt (SF2 HO347.out BK370.out))) (Kd.S_lt (SF2 HO362.out BK370.out))) (below_size (BT HB.out))); replace HO333 := AM_ (Kd.S_elder' (SF2 HO333.out BK370.out) (Kd.S_base ho1) hb); replace HO347 := AM_ (Kd.S_elder' (SF2 HO347.out BK370.out) (Kd.S_base ho1) hb); replace HO362 := AM_ (Kd.S_elder' (SF2 HO362.out BK370.out) (Kd.S_base ho1) hb); have HO380 := AM_ (Kd.R_lower (Kd.R_new' (Kd.R_new' (Kd.R_new' ho2 (Kd.R_lt (RF2 HO336.out BK370.out))) (Kd.R_lt (RF2 HO350.out BK370.out))) (Kd.R_lt (RF2 HO365.out BK370.out))) (below_size (BT HB.out))); replace HO336 := AM_ (Kd.R_elder' (RF2 HO336.out BK370.out) (Kd.R_base ho2) hb); replace HO350 := AM_ (Kd.R_elder' (RF2 HO350.out BK370.out) (Kd.R_base ho2) hb); replace HO365 := AM_ (Kd.R_elder' (RF2 HO365.out BK370.out) (Kd.R_base ho2) hb); have HO383 := AM_ (Kd.R_lower (Kd.R_new' (Kd.R_new' (Kd.R_new' ho3 (Kd.R_lt (RF2 HO339.out BK370.out))) (Kd.R_lt (RF2 HO353.out BK370.out))) (Kd.R_lt (RF2 HO368.out BK370.out))) (below_size (BT HB.out))); replace HO339 := AM_ (Kd.R_elder' (RF2 HO339.out BK370.out) (Kd.R_base ho3) hb); replace HO353 := AM_ (Kd.R_elder' (RF2 HO353.out BK370.out) (Kd.R_base ho3) hb); replace HO368 := AM_ (Kd.R_elder' (RF2 HO368.out BK370.out) (Kd.R_base ho3) hb); replace BK323 := AM_ (blk_below (g := gb323) (o := .cells #[.bool a0_0, .slice A0_1 l0_1.length c0_1, .slice A0_2 l0_2.length c0_2, .slice A0_3 l0_3.length c0_3, .slice A0_4 l0_4.length c0_4, .int .i64 a0_5] 44 (0, 0)) (by (with_reducible repeat (first | refine blk_drewN ?_ _ | refine blk_drew ?_ | refine blk_alloc ?_ _)); refine blk_far ?_ NB323_370.out _; (with_reducible repeat (first | refine blk_drewN ?_ _ | refine blk_drew ?_ | refine blk_alloc ?_ _)); refine blk_far ?_ NB323_370.out _; (with_reducible repeat (first | refine blk_drewN ?_ _ | refine blk_drew ?_ | refine blk_alloc ?_ _)); refine blk_far ?_ NB323_370.out _; (with_reducible repeat (first | refine blk_drewN ?_ _ | refine blk_drew ?_ | refine blk_alloc ?_ _)); refine blk_far ?_ NB323_370.out _; (with_reducible repeat (first | refine blk_drewN ?_ _ | refine blk_drew ?_ | refine blk_alloc ?_ _)); refine blk_far ?_ NB323_370.out _; (with_reducible repeat (first | refine blk_drewN ?_ _ | refine blk_drew ?_ | refine blk_alloc ?_ _)); refine blk_far ?_ NB323_370.out _; (with_reducible repeat (first | refine blk_drewN ?_ _ | refine blk_drew ?_ | refine blk_alloc ?_ _)); exact BK323.out) hb); replace BK324 := AM_ (blk_below (g := gb324) (o := .cells #[.bool a1_0, .slice A1_1 l1_1.length c1_1, .slice A1_2 l1_2.length c1_2, .slice A1_3 l1_3.length c1_3, .slice A1_4 l1_4.length c1_4, .int .i64 a1_5] 44 (0, 0)) (by (with_reducible repeat (first | refine blk_drewN ?_ _ | refine blk_drew ?_ | refine blk_alloc ?_ _)); refine blk_far ?_ NB324_370.out _; (with_reducible repeat (first | refine blk_drewN ?_ _ | refine blk_drew ?_ | refine blk_alloc ?_ _)); refine blk_far ?_ NB324_370.out _; (with_reducible repeat (first | refine blk_drewN ?_ _ | refine blk_drew ?_ | refine blk_alloc ?_ _)); refine blk_far ?_ NB324_370.out _; (with_reducible repeat (first | refine blk_drewN ?_ _ | refine blk_drew ?_ | refine blk_alloc ?_ _)); refine blk_far ?_ NB324_370.out _; (with_reducible repeat (first | refine blk_drewN ?_ _ | refine blk_drew ?_ | refine blk_alloc ?_ _)); refine blk_far ?_ NB324_370.out _; (with_reducible repeat (first | refine blk_drewN ?_ _ | refine blk_drew ?_ | refine blk_alloc ?_ _)); refine blk_far ?_ NB324_370.out _; (with_reducible repeat (first | refine blk_drewN ?_ _ | refine blk_drew ?_ | refine blk_alloc ?_ _)); exact BK324.out) hb); replace BK370 := AM_ (blk_below (g := gb370) (o := .cells #[.bool t356, .slice Ao51 t357.length co51, .slice Ao52 t360.length co52, .slice Ao53 t363.length co53, .slice Ao54 t366.length co54, .int .i64 t369] 53 (0, 0)) (by (with_reducible repeat (first | refine blk_drewN ?_ _ | refine blk_drew ?_ | refine blk_alloc ?_ _)); refine blk_put (cs := #[.bool t356, .slice Ao51 t357.length co51, .slice Ao52 t360.length co52, .slice Ao53 t363.length co53, .slice Ao54 t366.length co54, .int .i64 0]) ?_ 5 _ rfl; (with_reducible repeat (first | refine blk_drewN ?_ _ | refine blk_drew ?_ | refine blk_alloc ?_ _)); refine blk_put (cs := #[.bool t356, .slice Ao51 t357.length co51, .slice Ao52 t360.length co52, .slice Ao53 t363.length co53, .slice none 0 0, .int .i64 0]) ?_ 4 _ rfl; (with_reducible repeat (first | refine blk_drewN ?_ _ | refine blk_drew ?_ | refine blk_alloc ?_ _)); refine blk_put (cs := #[.bool t356, .slice Ao51 t357.length co51, .slice Ao52 t360.length co52, .slice none 0 0, .slice none 0 0, .int .i64 0]) ?_ 3 _ rfl; (with_reducible repeat (first | refine blk_drewN ?_ _ | refine blk_drew ?_ | refine blk_alloc ?_ _)); refine blk_put (cs := #[.bool t356, .slice Ao51 t357.length co51, .slice none 0 0, .slice none 0 0, .slice none 0 0, .int .i64 0]) ?_ 2 _ rfl; (with_reducible repeat (first | refine blk_drewN ?_ _ | refine blk_drew ?_ | refine blk_alloc ?_ _)); refine blk_put (cs := #[.bool t356, .slice none 0 0, .slice none 0 0, .slice none 0 0, .slice none 0 0, .int .i64 0]) ?_ 1 _ rfl; (with_reducible repeat (first | refine blk_drewN ?_ _ | refine blk_drew ?_ | refine blk_alloc ?_ _)); refine blk_put (cs := #[.bool false, .slice none 0 0, .slice none 0 0, .slice none 0 0, .slice none 0 0, .int .i64 0]) ?_ 0 _ rfl; (with_reducible repeat (first | refine blk_drewN ?_ _ | refine blk_drew ?_ | refine blk_alloc ?_ _)); exact BK370.out) hb); replace HB := AM_ (below_step (BT HB.out) hb); (try clear hb); (try clear hb2); (try clear hk); (try clear hi); (try clear ho0); (try clear ho1); (try clear ho2); (try clear ho3)) | ((with_reducible refine gate_dst (N := 8) rfl ?_); refine box_event ?hg (N := 8) ?hd (cs := #[.bool false, .slice none 0 0, .slice none 0 0, .slice none 0 0, .slice none 0 0, .int .i64 0]) (t := 53) ?hr ?_; (case hd => rfl); (case hg => rfl); (case hr => first | (go_simp; done) | (go_simp; rfl)); intro gb385 hg w57 hbox hb; replace HO330 := AM_ (Kd.S_below (ST HO330.out) hb); replace HO333 := AM_ (Kd.S_below (ST HO333.out) hb); replace HO336 := AM_ (Kd.R_below (RT HO336.out) hb); replace HO339 := AM_ (Kd.R_below (RT HO339.out) hb); replace HO344 := AM_ (Kd.S_below (ST HO344.out) hb); replace HO347 := AM_ (Kd.S_below (ST HO347.out) hb); replace HO350 := AM_ (Kd.R_below (RT HO350.out) hb); replace HO353 := AM_ (Kd.R_below (RT HO353.out) hb); replace HO359 := AM_ (Kd.S_below (ST HO359.out) hb); replace HO362 := AM_ (Kd.S_below (ST HO362.out) hb); replace HO365 := AM_ (Kd.R_below (RT HO365.out) hb); replace HO368 := AM_ (Kd.R_below (RT HO368.out) hb); replace HO374 := AM_ (Kd.S_below (ST HO374.out) hb); replace HO377 := AM_ (Kd.S_below (ST HO377.out) hb); replace HO380 := AM_ (Kd.R_below (RT HO380.out) hb); replace HO383 := AM_ (Kd.R_below (RT HO383.out) hb); have BK385 := AM_ (hbox); have GW385 := AM_ ((GS HB.out hg)); have GE385 := AM_ ((GS HB.out hg)); replace HB := AM_ (below_step (BT HB.out) hb); have NB323_385 := AM_ ((NL BK323.out hg)); have NB385_323 := AM_ ((NG BK323.out hg)); replace BK323 := AM_ (BB BK323.out hb); have NB324_385 := AM_ ((NL BK324.out hg)); have NB385_324 := AM_ ((NG BK324.out hg)); replace BK324 := AM_ (BB BK324.out hb); have NB370_385 := AM_ ((NL BK370.out hg)); have NB385_370 := AM_ ((NG BK370.out hg)); replace BK370 := AM_ (BB BK370.out hb); clear hb hbox hg; have hnb58 := NB385_323.out; have hnc58 := NB323_385.out; have hnb59 := NB385_324.out; have hnc59 := NB324_385.out; have hnb60 := NB385_370.out; have hnc60 := NB370_385.out; obtain ⟨hcz61_0, hcz61_1, hcz61_2, hcz61_3, hcz61_4, hcz61_5, hfz61_0, hfz61_1, hfz61_2, hfz61_3, hfz61_4, hfz61_5⟩ := bk6 BK385.out; obtain ⟨Ao62, co62, eo62⟩ := Kd.S_slice HO374.out; subst eo62; obtain ⟨Ao63, co63, eo63⟩ := Kd.S_slice HO377.out; subst eo63; obtain ⟨Ao64, co64, eo64⟩ := Kd.R_slice HO380.out; subst eo64; obtain ⟨Ao65, co65, eo65⟩ := Kd.R_slice HO383.out; subst eo65; obtain ⟨hcz66_0, hcz66_1, hcz66_2, hcz66_3, hcz66_4, hcz66_5, hfz66_0, hfz66_1, hfz66_2, hfz66_3, hfz66_4, hfz66_5⟩ := bk6 BK370.out) | ((with_reducible refine gate_callee (f := 48) rfl ?_); refine goesL_ (some 31) rfl rfl Try.func48 (by kernel_rfl) rfl #[.agg #[.bool t356, .slice Ao51 t357.length co51, .slice Ao52 t360.length co52, .slice Ao53 t363.length co53, .slice Ao54 t366.length co54, .int .i64 t369], .agg #[.bool t371, .slice Ao62 t372.length co62, .slice Ao63 t375.length co63, .slice Ao64 t378.length co64, .slice Ao65 t381.length co65, .int .i64 t384]] rfl (by (try simp only [List.map_toArray, List.map_cons, List.map_nil]); first | done | rfl | (simp only [List.length_drop, List.length_take]; rfl)) ?_; (with_reducible refine (impl_EqualEngines.calls k t356 _ _ t357 _ _ t360 _ _ t363 _ _ t366 t369 t371 _ _ t372 _ _ t375 _ _ t378 _ _ t381 t384 t386 _ ?side1 ?side2 ?side3 ?side4 ?side5 ?side6 ?side7 ?side8 ?side9 ?side10 ?side11 ?side12 ?side13 ?side14 ?side15 ?side16 A24.out).mono ?_); (case side1 => exact CG2 HO359.out BK385.out); (case side2 => exact (Kd.S_reads' HO359.out).2.1); (case side3 => exact CG2 HO362.out BK385.out); (case side4 => exact (Kd.S_reads' HO362.out).2.1); (case side5 => exact CF2 HO365.out BK385.out); (case side6 => exact (Kd.R_reads' HO365.out).2.1); (case side7 => exact CF2 HO368.out BK385.out); (case side8 => exact (Kd.R_reads' HO368.out).2.1); (case side9 => exact CG2 HO374.out BK385.out); (case side10 => exact (Kd.S_reads' HO374.out).2.1); (case side11 => exact CG2 HO377.out BK385.out); (case side12 => exact (Kd.S_reads' HO377.out).2.1); (case side13 => exact CF2 HO380.out BK385.out); (case side14 => exact (Kd.R_reads' HO380.out).2.1); (case side15 => exact CF2 HO383.out BK385.out); (case side16 => exact (Kd.R_reads' HO383.out).2.1); rintro e w67 ⟨rfl, hb⟩; refine ⟨_, rfl, ?_⟩; replace HO330 := AM_ (Kd.S_below (SF2 HO330.out BK385.out) hb); replace HO333 := AM_ (Kd.S_below (SF2 HO333.out BK385.out) hb); replace HO336 := AM_ (Kd.R_below (RF2 HO336.out BK385.out) hb); replace HO339 := AM_ (Kd.R_below (RF2 HO339.out BK385.out) hb); replace HO344 := AM_ (Kd.S_below (SF2 HO344.out BK385.out) hb); replace HO347 := AM_ (Kd.S_below (SF2 HO347.out BK385.out) hb); replace HO350 := AM_ (Kd.R_below (RF2 HO350.out BK385.out) hb); replace HO353 := AM_ (Kd.R_below (RF2 HO353.out BK385.out) hb); replace HO359 := AM_ (Kd.S_below (SF2 HO359.out BK385.out) hb); replace HO362 := AM_ (Kd.S_below (SF2 HO362.out BK385.out) hb); replace HO365 := AM_ (Kd.R_below (RF2 HO365.out BK385.out) hb); replace HO368 := AM_ (Kd.R_below (RF2 HO368.out BK385.out) hb); replace HO374 := AM_ (Kd.S_below (SF2 HO374.out BK385.out) hb); replace HO377 := AM_ (Kd.S_below (SF2 HO377.out BK385.out) hb); replace HO380 := AM_ (Kd.R_below (RF2 HO380.out BK385.out) hb); replace HO383 := AM_ (Kd.R_below (RF2 HO383.out BK385.out) hb); replace BK323 := AM_ (blk_below (g := gb323) (o := .cells #[.bool a0_0, .slice A0_1 l0_1.length c0_1, .slice A0_2 l0_2.length c0_2, .slice A0_3 l0_3.length c0_3, .slice A0_4 l0_4.length c0_4, .int .i64 a0_5] 44 (0, 0)) (by (with_reducible repeat (first | refine blk_drewN ?_ _ | refine blk_drew ?_ | refine blk_alloc ?_ _)); refine blk_far ?_ NB323_385.out _; (with_reducible repeat (first | refine blk_drewN ?_ _ | refine blk_drew ?_ | refine blk_alloc ?_ _)); refine blk_far ?_ NB323_385.out _; (with_reducible repeat (first | refine blk_drewN ?_ _ | refine blk_drew ?_ | refine blk_alloc ?_ _)); refine blk_far ?_ NB323_385.out _; (with_reducible repeat (first | refine blk_drewN ?_ _ | refine blk_drew ?_ | refine blk_alloc ?_ _)); refine blk_far ?_ NB323_385.out _; (with_reducible repeat (first | refine blk_drewN ?_ _ | refine blk_drew ?_ | refine blk_alloc ?_ _)); refine blk_far ?_ NB323_385.out _; (with_reducible repeat (first | refine blk_drewN ?_ _ | refine blk_drew ?_ | refine blk_alloc ?_ _)); refine blk_far ?_ NB323_385.out _; (with_reducible repeat (first | refine blk_drewN ?_ _ | refine blk_drew ?_ | refine blk_alloc ?_ _)); exact BK323.out) hb); replace BK324 := AM_ (blk_below (g := gb324) (o := .cells #[.bool a1_0, .slice A1_1 l1_1.length c1_1, .slice A1_2 l1_2.length c1_2, .slice A1_3 l1_3.length c1_3, .slice A1_4 l1_4.length c1_4, .int .i64 a1_5] 44 (0, 0)) (by (with_reducible repeat (first | refine blk_drewN ?_ _ | refine blk_drew ?_ | refine blk_alloc ?_ _)); refine blk_far ?_ NB324_385.out _; (with_reducible repeat (first | refine blk_drewN ?_ _ | refine blk_drew ?_ | refine blk_alloc ?_ _)); refine blk_far ?_ NB324_385.out _; (with_reducible repeat (first | refine blk_drewN ?_ _ | refine blk_drew ?_ | refine blk_alloc ?_ _)); refine blk_far ?_ NB324_385.out _; (with_reducible repeat (first | refine blk_drewN ?_ _ | refine blk_drew ?_ | refine blk_alloc ?_ _)); refine blk_far ?_ NB324_385.out _; (with_reducible repeat (first | refine blk_drewN ?_ _ | refine blk_drew ?_ | refine blk_alloc ?_ _)); refine blk_far ?_ NB324_385.out _; (with_reducible repeat (first | refine blk_drewN ?_ _ | refine blk_drew ?_ | refine blk_alloc ?_ _)); refine blk_far ?_ NB324_385.out _; (with_reducible repeat (first | refine blk_drewN ?_ _ | refine blk_drew ?_ | refine blk_alloc ?_ _)); exact BK324.out) hb); replace BK370 := AM_ (blk_below (g := gb370) (o := .cells #[.bool t356, .slice Ao51 t357.length co51, .slice Ao52 t360.length co52, .slice Ao53 t363.length co53, .slice Ao54 t366.length co54, .int .i64 t369] 53 (0, 0)) (by (with_reducible repeat (first | refine blk_drewN ?_ _ | refine blk_drew ?_ | refine blk_alloc ?_ _)); refine blk_far ?_ NB370_385.out _; (with_reducible repeat (first | refine blk_drewN ?_ _ | refine blk_drew ?_ | refine blk_alloc ?_ _)); refine blk_far ?_ NB370_385.out _; (with_reducible repeat (first | refine blk_drewN ?_ _ | refine blk_drew ?_ | refine blk_alloc ?_ _)); refine blk_far ?_ NB370_385.out _; (with_reducible repeat (first | refine blk_drewN ?_ _ | refine blk_drew ?_ | refine blk_alloc ?_ _)); refine blk_far ?_ NB370_385.out _; (with_reducible repeat (first | refine blk_drewN ?_ _ | refine blk_drew ?_ | refine blk_alloc ?_ _)); refine blk_far ?_ NB370_385.out _; (with_reducible repeat (first | refine blk_drewN ?_ _ | refine blk_drew ?_ | refine blk_alloc ?_ _)); refine blk_far ?_ NB370_385.out _; (with_reducible repeat (first | refine blk_drewN ?_ _ | refine blk_drew ?_ | refine blk_alloc ?_ _)); exact BK370.out) hb); replace BK385 := AM_ (blk_below (g := gb385) (o := .cells #[.bool t371, .slice Ao62 t372.length co62, .slice Ao63 t375.length co63, .slice Ao64 t378.length co64, .slice Ao65 t381.length co65, .int .i64 t384] 53 (0, 0)) (by (with_reducible repeat (first | refine blk_drewN ?_ _ | refine blk_drew ?_ | refine blk_alloc ?_ _)); refine blk_put (cs := #[.bool t371, .slice Ao62 t372.length co62, .slice Ao63 t375.length co63, .slice Ao64 t378.length co64, .slice Ao65 t381.length co65, .int .i64 0]) ?_ 5 _ rfl; (with_reducible repeat (first | refine blk_drewN ?_ _ | refine blk_drew ?_ | refine blk_alloc ?_ _)); refine blk_put (cs := #[.bool t371, .slice Ao62 t372.length co62, .slice Ao63 t375.length co63, .slice Ao64 t378.length co64, .slice none 0 0, .int .i64 0]) ?_ 4 _ rfl; (with_reducible repeat (first | refine blk_drewN ?_ _ | refine blk_drew ?_ | refine blk_alloc ?_ _)); refine blk_put (cs := #[.bool t371, .slice Ao62 t372.length co62, .slice Ao63 t375.length co63, .slice none 0 0, .slice none 0 0, .int .i64 0]) ?_ 3 _ rfl; (with_reducible repeat (first | refine blk_drewN ?_ _ | refine blk_drew ?_ | refine blk_alloc ?_ _)); refine blk_put (cs := #[.bool t371, .slice Ao62 t372.length co62, .slice none 0 0, .slice none 0 0, .slice none 0 0, .int .i64 0]) ?_ 2 _ rfl; (with_reducible repeat (first | refine blk_drewN ?_ _ | refine blk_drew ?_ | refine blk_alloc ?_ _)); refine blk_put (cs := #[.bool t371, .slice none 0 0, .slice none 0 0, .slice none 0 0, .slice none 0 0, .int .i64 0]) ?_ 1 _ rfl; (with_reducible repeat (first | refine blk_drewN ?_ _ | refine blk_drew ?_ | refine blk_alloc ?_ _)); refine blk_put (cs := #[.bool false, .slice none 0 0, .slice none 0 0, .slice none 0 0, .slice none 0 0, .int .i64 0]) ?_ 0 _ rfl; (with_reducible repeat (first | refine blk_drewN ?_ _ | refine blk_drew ?_ | refine blk_alloc ?_ _)); exact BK385.out) hb); replace HB := AM_ (below_step (BT HB.out) hb); (try clear hb); (try clear hb2); (try clear hk); (try clear hi)))
  go_ret
  exact QT (BT HB.out)
 rw [if_neg c25] at H
 have c25b0 : (t386 != t355) = false := by simpa using c25
 (try (have c25b1 : decide (t386 = t355) = true := by simpa using c25))
 (try (have c25b2 : (t386 == t355) = true := by simpa using c25))
 clear c25
 replace H := Option.bind_eq_some_iff.mp H
 obtain ⟨⟨t387, t388, t391, t394, t397, t400⟩, A680, H⟩ := H
 replace H : ((laws_eqEngine.f k t356 t357 t360 t363 t366 t369 t387 t388 t391 t394 t397 t400).bind fun t401 => (if t401 = true then ((laws_toEngine.f k a1_0 l1_1 l1_2 l1_3 l1_4 a1_5).bind fun bt402 => ((laws_eqEngine.f k t371 t372 t375 t378 t381 t384 bt402.1 bt402.2.1 bt402.2.2.1 bt402.2.2.2.1 bt402.2.2.2.2.1 bt402.2.2.2.2.2).bind fun t416 => (if t416 = true then (some true) else (some false)))) else (some false))) = some r := H
 have A68 := AM_ A680
 clear A680
 replace H := Option.bind_eq_some_iff.mp H
 obtain ⟨t401, A690, H⟩ := H
 replace H : (if t401 = true then ((laws_toEngine.f k a1_0 l1_1 l1_2 l1_3 l1_4 a1_5).bind fun bt402 => ((laws_eqEngine.f k t371 t372 t375 t378 t381 t384 bt402.1 bt402.2.1 bt402.2.2.1 bt402.2.2.2.1 bt402.2.2.2.2.1 bt402.2.2.2.2.2).bind fun t416 => (if t416 = true then (some true) else (some false)))) else (some false)) = some r := H
 have A69 := AM_ A690
 clear A690
 by_cases c70 : t401 = true
 rotate_left
 ·replace c70 := Bool.eq_false_iff.mpr c70
  subst c70
  have H1 : (some false) = some r := by rw [if_neg (show ¬ (false = true) by decide)] at H; exact H
  clear H
  have H := H1
  clear H1
  obtain rfl := Option.some.inj H
  go_enter Try.func8, Try.ntmps8
  try go_wp2_with (first | ((with_reducible refine gate_dst (N := 2) rfl ?_); refine box_event ?hg (N := 2) ?hd (cs := #[.bool a0_0, .slice A0_1 l0_1.length c0_1, .slice A0_2 l0_2.length c0_2, .slice A0_3 l0_3.length c0_3, .slice A0_4 l0_4.length c0_4, .int .i64 a0_5]) (t := 44) ?hr ?_; (case hd => rfl); (case hg => rfl); (case hr => first | (go_simp; done) | (go_simp; rfl)); intro gb323 hg w186 hbox hb; have BK323 := AM_ (hbox); have GW323 := AM_ ((GS HB.out hg)); have GE323 := AM_ ((GS HB.out hg)); replace HB := AM_ (below_step (BT HB.out) hb); clear hb hbox hg) | ((with_reducible refine gate_dst (N := 3) rfl ?_); refine box_event ?hg (N := 3) ?hd (cs := #[.bool a1_0, .slice A1_1 l1_1.length c1_1, .slice A1_2 l1_2.length c1_2, .slice A1_3 l1_3.length c1_3, .slice A1_4 l1_4.length c1_4, .int .i64 a1_5]) (t := 44) ?hr ?_; (case hd => rfl); (case hg => rfl); (case hr => first | (go_simp; done) | (go_simp; rfl)); intro gb324 hg w187 hbox hb; have BK324 := AM_ (hbox); have GW324 := AM_ ((GS HB.out hg)); have GE324 := AM_ ((GS HB.out hg)); replace HB := AM_ (below_step (BT HB.out) hb); have NB323_324 := AM_ ((NL BK323.out hg)); have NB324_323 := AM_ ((NG BK323.out hg)); replace BK323 := AM_ (BB BK323.out hb); clear hb hbox hg; have hnb188 := NB323_324.out; have hnc188 := NB324_323.out; obtain ⟨hcz189_0, hcz189_1, hcz189_2, hcz189_3, hcz189_4, hcz189_5, hfz189_0, hfz189_1, hfz189_2, hfz189_3, hfz189_4, hfz189_5⟩ := bk6 BK323.out) | ((with_reducible refine gate_callee (f := 27) rfl ?_); refine goesL_ (some 12) rfl rfl Try.func27 (by kernel_rfl) rfl #[.agg #[.bool a0_0, .slice A0_1 l0_1.length c0_1, .slice A0_2 l0_2.length c0_2, .slice A0_3 l0_3.length c0_3, .slice A0_4 l0_4.length c0_4, .int .i64 a0_5], .int .i64 1048576] rfl (by (try simp only [List.map_toArray, List.map_cons, List.map_nil]); first | done | rfl | (simp only [List.length_drop, List.length_take]; rfl)) ?_; (with_reducible refine (laws_szEngine.calls k a0_0 _ _ l0_1 _ _ l0_2 _ _ l0_3 _ _ l0_4 a0_5 1048576 t325 _ ?side1 ?side2 ?side3 ?side4 ?side5 ?side6 ?side7 ?side8 A3.out).mono ?_); (case side1 => exact CB HR0_1.out HB.out); (case side2 => exact HC0_1.out); (case side3 => exact CB HR0_2.out HB.out); (case side4 => exact HC0_2.out); (case side5 => exact CB HR0_3.out HB.out); (case side6 => exact HC0_3.out); (case side7 => exact CB HR0_4.out HB.out); (case side8 => exact HC0_4.out); rintro e w190 ⟨rfl, hb⟩; refine ⟨_, rfl, ?_⟩; replace BK323 := AM_ (BB BK323.out hb); replace BK324 := AM_ (BB BK324.out hb); replace HB := AM_ (below_step (BT HB.out) hb); (try clear hb); (try clear hb2); (try clear hk); (try clear hi); obtain ⟨hcz191_0, hcz191_1, hcz191_2, hcz191_3, hcz191_4, hcz191_5, hfz191_0, hfz191_1, hfz191_2, hfz191_3, hfz191_4, hfz191_5⟩ := bk6 BK324.out) | ((with_reducible refine gate_callee (f := 27) rfl ?_); refine goesL_ (some 17) rfl rfl Try.func27 (by kernel_rfl) rfl #[.agg #[.bool a1_0, .slice A1_1 l1_1.length c1_1, .slice A1_2 l1_2.length c1_2, .slice A1_3 l1_3.length c1_3, .slice A1_4 l1_4.length c1_4, .int .i64 a1_5], .int .i64 t325] rfl (by (try simp only [List.map_toArray, List.map_cons, List.map_nil]); first | done | rfl | (simp only [List.length_drop, List.length_take]; rfl)) ?_; (with_reducible refine (laws_szEngine.calls k a1_0 _ _ l1_1 _ _ l1_2 _ _ l1_3 _ _ l1_4 a1_5 t325 t326 _ ?side1 ?side2 ?side3 ?side4 ?side5 ?side6 ?side7 ?side8 A10.out).mono ?_); (case side1 => exact CB HR1_1.out HB.out); (case side2 => exact HC1_1.out); (case side3 => exact CB HR1_2.out HB.out); (case side4 => exact HC1_2.out); (case side5 => exact CB HR1_3.out HB.out); (case side6 => exact HC1_3.out); (case side7 => exact CB HR1_4.out HB.out); (case side8 => exact HC1_4.out); rintro e w192 ⟨rfl, hb⟩; refine ⟨_, rfl, ?_⟩; replace BK323 := AM_ (BB BK323.out hb); replace BK324 := AM_ (BB BK324.out hb); replace HB := AM_ (below_step (BT HB.out) hb); (try clear hb); (try clear hb2); (try clear hk); (try clear hi)))
  replace BK323 := AM_ (blk_drew BK323.out)
  replace BK324 := AM_ (blk_drew BK324.out)
  replace HB := AM_ (below_drew1 HB.out)
  refine start_ (n := 6) (S := fun w' => w'.cell? ⟨gb323, 0, none⟩ = some (.bool a0_0) ∧ w'.cell? ⟨gb323, 1, none⟩ = some (.slice A0_1 l0_1.length c0_1) ∧ w'.cell? ⟨gb323, 2, none⟩ = some (.slice A0_2 l0_2.length c0_2) ∧ w'.cell? ⟨gb323, 3, none⟩ = some (.slice A0_3 l0_3.length c0_3) ∧ w'.cell? ⟨gb323, 4, none⟩ = some (.slice A0_4 l0_4.length c0_4) ∧ w'.cell? ⟨gb323, 5, none⟩ = some (.int .i64 a0_5) ∧ w'.cell? ⟨gb324, 0, none⟩ = some (.bool a1_0) ∧ w'.cell? ⟨gb324, 1, none⟩ = some (.slice A1_1 l1_1.length c1_1) ∧ w'.cell? ⟨gb324, 2, none⟩ = some (.slice A1_2 l1_2.length c1_2) ∧ w'.cell? ⟨gb324, 3, none⟩ = some (.slice A1_3 l1_3.length c1_3) ∧ w'.cell? ⟨gb324, 4, none⟩ = some (.slice A1_4 l1_4.length c1_4) ∧ w'.cell? ⟨gb324, 5, none⟩ = some (.int .i64 a1_5)) (ds := []) (bs 0 6) (by kernel_rfl) rfl rfl ⟨bc BK323.out 0, bc BK323.out 1, bc BK323.out 2, bc BK323.out 3, bc BK323.out 4, bc BK323.out 5, bc BK324.out 0, bc BK324.out 1, bc BK324.out 2, bc BK324.out 3, bc BK324.out 4, bc BK324.out 5⟩ (fun hHeld => ?_)
  generalize w192.drew = w193 at BK323 BK324 HB hHeld ⊢
  refine take_ (i := 0) (N := some 20) (v := ?_) (a' := ?_) (bs 1 6) rfl rfl (by kernel_rfl) (fun _ _ _ h => h) (Or.inl ⟨by rfl, ?_⟩) hHeld ?_ ?_
  rotate_left
  ·rintro w' ⟨s0, s1, s2, s3, s4, s5, s6, s7, s8, s9, s10, s11⟩
   go_simp
   with_reducible rfl
  rotate_left
  ·simp only [pA, pS, pZ, pK, i64_w, i32_w]
   rfl
  refine take_ (i := 2) (N := some 22) (v := ?_) (a' := ?_) (bs 5 6) rfl rfl (by kernel_rfl) (fun _ _ _ h => h) (Or.inl ⟨by rfl, ?_⟩) hHeld ?_ ?_
  rotate_left
  ·rintro w' ⟨s0, s1, s2, s3, s4, s5, s6, s7, s8, s9, s10, s11⟩
   go_simp
   with_reducible rfl
  rotate_left
  ·simp only [pA, pS, pZ, pK, i64_w, i32_w]
   rfl
  refine one_ (i := 1) (N := some 21) (bs 7 6) rfl rfl (by kernel_rfl) (by decide) (fun K hK => ?_)
  refine goes_ Try.func29 (by kernel_rfl) rfl #[.agg #[.bool a0_0, .slice A0_1 l0_1.length c0_1, .slice A0_2 l0_2.length c0_2, .slice A0_3 l0_3.length c0_3, .slice A0_4 l0_4.length c0_4, .int .i64 a0_5]] (by rfl) rfl rfl (by (try simp only [List.map_toArray, List.map_cons, List.map_nil]); first | done | rfl | (simp only [List.length_drop, List.length_take]; rfl)) ?_
  with_reducible refine (laws_toEngine.calls k a0_0 _ _ l0_1 _ _ l0_2 _ _ l0_3 _ _ l0_4 a0_5 t327 t328 t331 t334 t337 t340 _ ?side1 ?side2 ?side3 ?side4 ?side5 ?side6 ?side7 ?side8 A19.out).mono ?_
  (case side1 => exact CB HR0_1.out HB.out)
  (case side2 => exact HC0_1.out)
  (case side3 => exact CB HR0_2.out HB.out)
  (case side4 => exact HC0_2.out)
  (case side5 => exact CB HR0_3.out HB.out)
  (case side6 => exact HC0_3.out)
  (case side7 => exact CB HR0_4.out HB.out)
  (case side8 => exact HC0_4.out)
  rintro e w194 ⟨v329, v332, v335, v338, rfl, ho0, ho1, ho2, ho3, hb⟩
  refine ⟨_, rfl, ?_⟩
  have HO330 := AM_ (Kd.S_lower ho0 (below_size (BT HB.out)))
  have HO333 := AM_ (Kd.S_lower ho1 (below_size (BT HB.out)))
  have HO336 := AM_ (Kd.R_lower ho2 (below_size (BT HB.out)))
  have HO339 := AM_ (Kd.R_lower ho3 (below_size (BT HB.out)))
  replace BK323 := AM_ (BB BK323.out hb)
  replace BK324 := AM_ (BB BK324.out hb)
  replace HB := AM_ (below_step (BT HB.out) hb)
  (try clear hb)
  (try clear hb2)
  (try clear hk)
  (try clear hi)
  (try clear ho0)
  (try clear ho1)
  (try clear ho2)
  (try clear ho3)
  refine hK.out _ _ ⟨bc BK323.out 0, bc BK323.out 1, bc BK323.out 2, bc BK323.out 3, bc BK323.out 4, bc BK323.out 5, bc BK324.out 0, bc BK324.out 1, bc BK324.out 2, bc BK324.out 3, bc BK324.out 4, bc BK324.out 5⟩ (fun hHeld => ?_)
  clear hK K
  refine norm_ (a' := ?_) ?_ ?_
  rotate_left
  ·show Act.put _ (some 21) _ = _
   simp only [pA, pS, pZ, pK, i64_w, i32_w]
   rfl
  refine one_ (i := 3) (N := some 23) (bs 15 6) rfl rfl (by kernel_rfl) (by decide) (fun K hK => ?_)
  refine goes_ Try.func29 (by kernel_rfl) rfl #[.agg #[.bool a1_0, .slice A1_1 l1_1.length c1_1, .slice A1_2 l1_2.length c1_2, .slice A1_3 l1_3.length c1_3, .slice A1_4 l1_4.length c1_4, .int .i64 a1_5]] (by rfl) rfl rfl (by (try simp only [List.map_toArray, List.map_cons, List.map_nil]); first | done | rfl | (simp only [List.length_drop, List.length_take]; rfl)) ?_
  with_reducible refine (laws_toEngine.calls k a1_0 _ _ l1_1 _ _ l1_2 _ _ l1_3 _ _ l1_4 a1_5 t341 t342 t345 t348 t351 t354 _ ?side1 ?side2 ?side3 ?side4 ?side5 ?side6 ?side7 ?side8 A20.out).mono ?_
  (case side1 => exact CB HR1_1.out HB.out)
  (case side2 => exact HC1_1.out)
  (case side3 => exact CB HR1_2.out HB.out)
  (case side4 => exact HC1_2.out)
  (case side5 => exact CB HR1_3.out HB.out)
  (case side6 => exact HC1_3.out)
  (case side7 => exact CB HR1_4.out HB.out)
  (case side8 => exact HC1_4.out)
  rintro e w195 ⟨v343, v346, v349, v352, rfl, ho0, ho1, ho2, ho3, hb⟩
  refine ⟨_, rfl, ?_⟩
  have HO344 := AM_ (Kd.S_lower (Kd.S_new' ho0 (Kd.S_lt (ST HO330.out))) (below_size (BT HB.out)))
  replace HO330 := AM_ (Kd.S_elder' (ST HO330.out) (Kd.S_base ho0) hb)
  have HO347 := AM_ (Kd.S_lower (Kd.S_new' ho1 (Kd.S_lt (ST HO333.out))) (below_size (BT HB.out)))
  replace HO333 := AM_ (Kd.S_elder' (ST HO333.out) (Kd.S_base ho1) hb)
  have HO350 := AM_ (Kd.R_lower (Kd.R_new' ho2 (Kd.R_lt (RT HO336.out))) (below_size (BT HB.out)))
  replace HO336 := AM_ (Kd.R_elder' (RT HO336.out) (Kd.R_base ho2) hb)
  have HO353 := AM_ (Kd.R_lower (Kd.R_new' ho3 (Kd.R_lt (RT HO339.out))) (below_size (BT HB.out)))
  replace HO339 := AM_ (Kd.R_elder' (RT HO339.out) (Kd.R_base ho3) hb)
  replace BK323 := AM_ (BB BK323.out hb)
  replace BK324 := AM_ (BB BK324.out hb)
  replace HB := AM_ (below_step (BT HB.out) hb)
  (try clear hb)
  (try clear hb2)
  (try clear hk)
  (try clear hi)
  (try clear ho0)
  (try clear ho1)
  (try clear ho2)
  (try clear ho3)
  obtain ⟨Ao196, co196, eo196⟩ := Kd.S_slice HO330.out
  (first | subst eo196 | (injection eo196 with f1_ f2_ f3_; have f4_ := f1_.symm; have f5_ := f3_.symm; clear f1_ f2_ f3_; subst f4_; subst f5_))
  obtain ⟨Ao197, co197, eo197⟩ := Kd.S_slice HO333.out
  (first | subst eo197 | (injection eo197 with f1_ f2_ f3_; have f4_ := f1_.symm; have f5_ := f3_.symm; clear f1_ f2_ f3_; subst f4_; subst f5_))
  obtain ⟨Ao198, co198, eo198⟩ := Kd.R_slice HO336.out
  (first | subst eo198 | (injection eo198 with f1_ f2_ f3_; have f4_ := f1_.symm; have f5_ := f3_.symm; clear f1_ f2_ f3_; subst f4_; subst f5_))
  obtain ⟨Ao199, co199, eo199⟩ := Kd.R_slice HO339.out
  (first | subst eo199 | (injection eo199 with f1_ f2_ f3_; have f4_ := f1_.symm; have f5_ := f3_.symm; clear f1_ f2_ f3_; subst f4_; subst f5_))
  obtain ⟨Ao200, co200, eo200⟩ := Kd.S_slice HO344.out
  (first | subst eo200 | (injection eo200 with f1_ f2_ f3_; have f4_ := f1_.symm; have f5_ := f3_.symm; clear f1_ f2_ f3_; subst f4_; subst f5_))
  obtain ⟨Ao201, co201, eo201⟩ := Kd.S_slice HO347.out
  (first | subst eo201 | (injection eo201 with f1_ f2_ f3_; have f4_ := f1_.symm; have f5_ := f3_.symm; clear f1_ f2_ f3_; subst f4_; subst f5_))
  obtain ⟨Ao202, co202, eo202⟩ := Kd.R_slice HO350.out
  (first | subst eo202 | (injection eo202 with f1_ f2_ f3_; have f4_ := f1_.symm; have f5_ := f3_.symm; clear f1_ f2_ f3_; subst f4_; subst f5_))
  obtain ⟨Ao203, co203, eo203⟩ := Kd.R_slice HO353.out
  (first | subst eo203 | (injection eo203 with f1_ f2_ f3_; have f4_ := f1_.symm; have f5_ := f3_.symm; clear f1_ f2_ f3_; subst f4_; subst f5_))
  refine hK.out _ _ ⟨bc BK323.out 0, bc BK323.out 1, bc BK323.out 2, bc BK323.out 3, bc BK323.out 4, bc BK323.out 5, bc BK324.out 0, bc BK324.out 1, bc BK324.out 2, bc BK324.out 3, bc BK324.out 4, bc BK324.out 5⟩ (fun hHeld => ?_)
  clear hK K
  refine norm_ (a' := ?_) ?_ ?_
  rotate_left
  ·show Act.put _ (some 23) _ = _
   simp only [pA, pS, pZ, pK, i64_w, i32_w]
   rfl
  refine one_ (i := 4) (N := some 24) (bs 31 6) rfl rfl (by kernel_rfl) (by decide) (fun K hK => ?_)
  refine goes_ Try.func47 (by kernel_rfl) rfl #[.agg #[.bool t327, .slice Ao196 t328.length co196, .slice Ao197 t331.length co197, .slice Ao198 t334.length co198, .slice Ao199 t337.length co199, .int .i64 t340], .agg #[.bool t341, .slice Ao200 t342.length co200, .slice Ao201 t345.length co201, .slice Ao202 t348.length co202, .slice Ao203 t351.length co203, .int .i64 t354]] (by rfl) rfl rfl (by (try simp only [List.map_toArray, List.map_cons, List.map_nil]); first | done | rfl | (simp only [List.length_drop, List.length_take]; rfl)) ?_
  with_reducible refine (spec_EqualEngines.calls k t327 _ _ t328 _ _ t331 _ _ t334 _ _ t337 t340 t341 _ _ t342 _ _ t345 _ _ t348 _ _ t351 t354 t355 _ ?side1 ?side2 ?side3 ?side4 ?side5 ?side6 ?side7 ?side8 ?side9 ?side10 ?side11 ?side12 ?side13 ?side14 ?side15 ?side16 A21.out).mono ?_
  (case side1 => exact Kd.C_below (Kd.S_reads' HO330.out).2.2 (BL (Below.refl _ _) rfl rfl rfl rfl))
  (case side2 => exact (Kd.S_reads' HO330.out).2.1)
  (case side3 => exact Kd.C_below (Kd.S_reads' HO333.out).2.2 (BL (Below.refl _ _) rfl rfl rfl rfl))
  (case side4 => exact (Kd.S_reads' HO333.out).2.1)
  (case side5 => exact Kd.C_below (Kd.R_reads' HO336.out).2.2 (BL (Below.refl _ _) rfl rfl rfl rfl))
  (case side6 => exact (Kd.R_reads' HO336.out).2.1)
  (case side7 => exact Kd.C_below (Kd.R_reads' HO339.out).2.2 (BL (Below.refl _ _) rfl rfl rfl rfl))
  (case side8 => exact (Kd.R_reads' HO339.out).2.1)
  (case side9 => exact Kd.C_below (Kd.S_reads' HO344.out).2.2 (BL (Below.refl _ _) rfl rfl rfl rfl))
  (case side10 => exact (Kd.S_reads' HO344.out).2.1)
  (case side11 => exact Kd.C_below (Kd.S_reads' HO347.out).2.2 (BL (Below.refl _ _) rfl rfl rfl rfl))
  (case side12 => exact (Kd.S_reads' HO347.out).2.1)
  (case side13 => exact Kd.C_below (Kd.R_reads' HO350.out).2.2 (BL (Below.refl _ _) rfl rfl rfl rfl))
  (case side14 => exact (Kd.R_reads' HO350.out).2.1)
  (case side15 => exact Kd.C_below (Kd.R_reads' HO353.out).2.2 (BL (Below.refl _ _) rfl rfl rfl rfl))
  (case side16 => exact (Kd.R_reads' HO353.out).2.1)
  rintro e w204 ⟨rfl, hb⟩
  refine ⟨_, rfl, ?_⟩
  replace HO330 := AM_ (Kd.S_below (ST HO330.out) hb)
  replace HO333 := AM_ (Kd.S_below (ST HO333.out) hb)
  replace HO336 := AM_ (Kd.R_below (RT HO336.out) hb)
  replace HO339 := AM_ (Kd.R_below (RT HO339.out) hb)
  replace HO344 := AM_ (Kd.S_below (ST HO344.out) hb)
  replace HO347 := AM_ (Kd.S_below (ST HO347.out) hb)
  replace HO350 := AM_ (Kd.R_below (RT HO350.out) hb)
  replace HO353 := AM_ (Kd.R_below (RT HO353.out) hb)
  replace BK323 := AM_ (BB BK323.out hb)
  replace BK324 := AM_ (BB BK324.out hb)
  replace HB := AM_ (below_step (BT HB.out) hb)
  (try clear hb)
  (try clear hb2)
  (try clear hk)
  (try clear hi)
  refine hK.out _ _ ⟨bc BK323.out 0, bc BK323.out 1, bc BK323.out 2, bc BK323.out 3, bc BK323.out 4, bc BK323.out 5, bc BK324.out 0, bc BK324.out 1, bc BK324.out 2, bc BK324.out 3, bc BK324.out 4, bc BK324.out 5⟩ (fun hHeld => ?_)
  clear hK K
  refine norm_ (a' := ?_) ?_ ?_
  rotate_left
  ·show Act.put _ (some 24) _ = _
   simp only [pA, pS, pZ, pK, i64_w, i32_w]
   rfl
  refine pure_ (i := 5) (N := some 6) (v := ?_) (a' := ?_) (bs 63 6) rfl rfl (by kernel_rfl) (fun _ _ _ h => h) (Or.inl ⟨by rfl, ?_⟩) ?_ ?_
  rotate_left
  ·intro w'
   go_simp
   with_reducible rfl
  rotate_left
  ·simp only [pA, pS, pZ, pK, i64_w, i32_w]
   rfl
  refine done_ (by kernel_rfl) ?_
  obtain ⟨hcz205_0, hcz205_1, hcz205_2, hcz205_3, hcz205_4, hcz205_5, hfz205_0, hfz205_1, hfz205_2, hfz205_3, hfz205_4, hfz205_5⟩ := bk6 BK323.out
  try go_wp2_with (first | ((with_reducible refine gate_callee (f := 29) rfl ?_); refine goesL_ (some 26) rfl rfl Try.func29 (by kernel_rfl) rfl #[.agg #[.bool a0_0, .slice A0_1 l0_1.length c0_1, .slice A0_2 l0_2.length c0_2, .slice A0_3 l0_3.length c0_3, .slice A0_4 l0_4.length c0_4, .int .i64 a0_5]] rfl (by (try simp only [List.map_toArray, List.map_cons, List.map_nil]); first | done | rfl | (simp only [List.length_drop, List.length_take]; rfl)) ?_; (with_reducible refine (laws_toEngine.calls k a0_0 _ _ l0_1 _ _ l0_2 _ _ l0_3 _ _ l0_4 a0_5 t356 t357 t360 t363 t366 t369 _ ?side1 ?side2 ?side3 ?side4 ?side5 ?side6 ?side7 ?side8 A22.out).mono ?_); (case side1 => exact CB HR0_1.out HB.out); (case side2 => exact HC0_1.out); (case side3 => exact CB HR0_2.out HB.out); (case side4 => exact HC0_2.out); (case side5 => exact CB HR0_3.out HB.out); (case side6 => exact HC0_3.out); (case side7 => exact CB HR0_4.out HB.out); (case side8 => exact HC0_4.out); rintro e w206 ⟨v358, v361, v364, v367, rfl, ho0, ho1, ho2, ho3, hb⟩; refine ⟨_, rfl, ?_⟩; have HO359 := AM_ (Kd.S_lower (Kd.S_new' (Kd.S_new' ho0 (Kd.S_lt (ST HO330.out))) (Kd.S_lt (ST HO344.out))) (below_size (BT HB.out))); replace HO330 := AM_ (Kd.S_elder' (ST HO330.out) (Kd.S_base ho0) hb); replace HO344 := AM_ (Kd.S_elder' (ST HO344.out) (Kd.S_base ho0) hb); have HO362 := AM_ (Kd.S_lower (Kd.S_new' (Kd.S_new' ho1 (Kd.S_lt (ST HO333.out))) (Kd.S_lt (ST HO347.out))) (below_size (BT HB.out))); replace HO333 := AM_ (Kd.S_elder' (ST HO333.out) (Kd.S_base ho1) hb); replace HO347 := AM_ (Kd.S_elder' (ST HO347.out) (Kd.S_base ho1) hb); have HO365 := AM_ (Kd.R_lower (Kd.R_new' (Kd.R_new' ho2 (Kd.R_lt (RT HO336.out))) (Kd.R_lt (RT HO350.out))) (below_size (BT HB.out))); replace HO336 := AM_ (Kd.R_elder' (RT HO336.out) (Kd.R_base ho2) hb); replace HO350 := AM_ (Kd.R_elder' (RT HO350.out) (Kd.R_base ho2) hb); have HO368 := AM_ (Kd.R_lower (Kd.R_new' (Kd.R_new' ho3 (Kd.R_lt (RT HO339.out))) (Kd.R_lt (RT HO353.out))) (below_size (BT HB.out))); replace HO339 := AM_ (Kd.R_elder' (RT HO339.out) (Kd.R_base ho3) hb); replace HO353 := AM_ (Kd.R_elder' (RT HO353.out) (Kd.R_base ho3) hb); replace BK323 := AM_ (BB BK323.out hb); replace BK324 := AM_ (BB BK324.out hb); replace HB := AM_ (below_step (BT HB.out) hb); (try clear hb); (try clear hb2); (try clear hk); (try clear hi); (try clear ho0); (try clear ho1); (try clear ho2); (try clear ho3)) | ((with_reducible refine gate_dst (N := 7) rfl ?_); refine box_event ?hg (N := 7) ?hd (cs := #[.bool false, .slice none 0 0, .slice none 0 0, .slice none 0 0, .slice none 0 0, .int .i64 0]) (t := 53) ?hr ?_; (case hd => rfl); (case hg => rfl); (case hr => first | (go_simp; done) | (go_simp; rfl)); intro gb370 hg w207 hbox hb; replace HO330 := AM_ (Kd.S_below (ST HO330.out) hb); replace HO333 := AM_ (Kd.S_below (ST HO333.out) hb); replace HO336 := AM_ (Kd.R_below (RT HO336.out) hb); replace HO339 := AM_ (Kd.R_below (RT HO339.out) hb); replace HO344 := AM_ (Kd.S_below (ST HO344.out) hb); replace HO347 := AM_ (Kd.S_below (ST HO347.out) hb); replace HO350 := AM_ (Kd.R_below (RT HO350.out) hb); replace HO353 := AM_ (Kd.R_below (RT HO353.out) hb); replace HO359 := AM_ (Kd.S_below (ST HO359.out) hb); replace HO362 := AM_ (Kd.S_below (ST HO362.out) hb); replace HO365 := AM_ (Kd.R_below (RT HO365.out) hb); replace HO368 := AM_ (Kd.R_below (RT HO368.out) hb); have BK370 := AM_ (hbox); have GW370 := AM_ ((GS HB.out hg)); have GE370 := AM_ ((GS HB.out hg)); replace HB := AM_ (below_step (BT HB.out) hb); have NB323_370 := AM_ ((NL BK323.out hg)); have NB370_323 := AM_ ((NG BK323.out hg)); replace BK323 := AM_ (BB BK323.out hb); have NB324_370 := AM_ ((NL BK324.out hg)); have NB370_324 := AM_ ((NG BK324.out hg)); replace BK324 := AM_ (BB BK324.out hb); clear hb hbox hg; have hnb208 := NB370_323.out; have hnc208 := NB323_370.out; have hnb209 := NB370_324.out; have hnc209 := NB324_370.out; obtain ⟨hcz210_0, hcz210_1, hcz210_2, hcz210_3, hcz210_4, hcz210_5, hfz210_0, hfz210_1, hfz210_2, hfz210_3, hfz210_4, hfz210_5⟩ := bk6 BK370.out; obtain ⟨Ao211, co211, eo211⟩ := Kd.S_slice HO359.out; subst eo211; obtain ⟨Ao212, co212, eo212⟩ := Kd.S_slice HO362.out; subst eo212; obtain ⟨Ao213, co213, eo213⟩ := Kd.R_slice HO365.out; subst eo213; obtain ⟨Ao214, co214, eo214⟩ := Kd.R_slice HO368.out; subst eo214; obtain ⟨hcz215_0, hcz215_1, hcz215_2, hcz215_3, hcz215_4, hcz215_5, hfz215_0, hfz215_1, hfz215_2, hfz215_3, hfz215_4, hfz215_5⟩ := bk6 BK324.out) | ((with_reducible refine gate_callee (f := 29) rfl ?_); refine goesL_ (some 28) rfl rfl Try.func29 (by kernel_rfl) rfl #[.agg #[.bool a1_0, .slice A1_1 l1_1.length c1_1, .slice A1_2 l1_2.length c1_2, .slice A1_3 l1_3.length c1_3, .slice A1_4 l1_4.length c1_4, .int .i64 a1_5]] rfl (by (try simp only [List.map_toArray, List.map_cons, List.map_nil]); first | done | rfl | (simp only [List.length_drop, List.length_take]; rfl)) ?_; (with_reducible refine (laws_toEngine.calls k a1_0 _ _ l1_1 _ _ l1_2 _ _ l1_3 _ _ l1_4 a1_5 t371 t372 t375 t378 t381 t384 _ ?side1 ?side2 ?side3 ?side4 ?side5 ?side6 ?side7 ?side8 A23.out).mono ?_); (case side1 => exact Kd.C_below HR1_1.out (BT HB.out)); (case side2 => exact HC1_1.out); (case side3 => exact Kd.C_below HR1_2.out (BT HB.out)); (case side4 => exact HC1_2.out); (case side5 => exact Kd.C_below HR1_3.out (BT HB.out)); (case side6 => exact HC1_3.out); (case side7 => exact Kd.C_below HR1_4.out (BT HB.out)); (case side8 => exact HC1_4.out); rintro e w216 ⟨v373, v376, v379, v382, rfl, ho0, ho1, ho2, ho3, hb⟩; refine ⟨_, rfl, ?_⟩; have HO374 := AM_ (Kd.S_lower (Kd.S_new' (Kd.S_new' (Kd.S_new' ho0 (Kd.S_lt (SF2 HO330.out BK370.out))) (Kd.S_lt (SF2 HO344.out BK370.out))) (Kd.S_lt (SF2 HO359.out BK370.out))) (below_size (BT HB.out))); replace HO330 := AM_ (Kd.S_elder' (SF2 HO330.out BK370.out) (Kd.S_base ho0) hb); replace HO344 := AM_ (Kd.S_elder' (SF2 HO344.out BK370.out) (Kd.S_base ho0) hb); replace HO359 := AM_ (Kd.S_elder' (SF2 HO359.out BK370.out) (Kd.S_base ho0) hb); have HO377 := AM_ (Kd.S_lower (Kd.S_new' (Kd.S_new' (Kd.S_new' ho1 (Kd.S_lt (SF2 HO333.out BK370.out))) (Kd.S_lt (SF2 HO347.out BK370.out))) (Kd.S_lt (SF2 HO362.out BK370.out))) (below_size (BT HB.out))); replace HO333 := AM_ (Kd.S_elder' (SF2 HO333.out BK370.out) (Kd.S_base ho1) hb); replace HO347 := AM_ (Kd.S_elder' (SF2 HO347.out BK370.out) (Kd.S_base ho1) hb); replace HO362 := AM_ (Kd.S_elder' (SF2 HO362.out BK370.out) (Kd.S_base ho1) hb); have HO380 := AM_ (Kd.R_lower (Kd.R_new' (Kd.R_new' (Kd.R_new' ho2 (Kd.R_lt (RF2 HO336.out BK370.out))) (Kd.R_lt (RF2 HO350.out BK370.out))) (Kd.R_lt (RF2 HO365.out BK370.out))) (below_size (BT HB.out))); replace HO336 := AM_ (Kd.R_elder' (RF2 HO336.out BK370.out) (Kd.R_base ho2) hb); replace HO350 := AM_ (Kd.R_elder' (RF2 HO350.out BK370.out) (Kd.R_base ho2) hb); replace HO365 := AM_ (Kd.R_elder' (RF2 HO365.out BK370.out) (Kd.R_base ho2) hb); have HO383 := AM_ (Kd.R_lower (Kd.R_new' (Kd.R_new' (Kd.R_new' ho3 (Kd.R_lt (RF2 HO339.out BK370.out))) (Kd.R_lt (RF2 HO353.out BK370.out))) (Kd.R_lt (RF2 HO368.out BK370.out))) (below_size (BT HB.out))); replace HO339 := AM_ (Kd.R_elder' (RF2 HO339.out BK370.out) (Kd.R_base ho3) hb); replace HO353 := AM_ (Kd.R_elder' (RF2 HO353.out BK370.out) (Kd.R_base ho3) hb); replace HO368 := AM_ (Kd.R_elder' (RF2 HO368.out BK370.out) (Kd.R_base ho3) hb); replace BK323 := AM_ (blk_below (g := gb323) (o := .cells #[.bool a0_0, .slice A0_1 l0_1.length c0_1, .slice A0_2 l0_2.length c0_2, .slice A0_3 l0_3.length c0_3, .slice A0_4 l0_4.length c0_4, .int .i64 a0_5] 44 (0, 0)) (by (with_reducible repeat (first | refine blk_drewN ?_ _ | refine blk_drew ?_ | refine blk_alloc ?_ _)); refine blk_far ?_ NB323_370.out _; (with_reducible repeat (first | refine blk_drewN ?_ _ | refine blk_drew ?_ | refine blk_alloc ?_ _)); refine blk_far ?_ NB323_370.out _; (with_reducible repeat (first | refine blk_drewN ?_ _ | refine blk_drew ?_ | refine blk_alloc ?_ _)); refine blk_far ?_ NB323_370.out _; (with_reducible repeat (first | refine blk_drewN ?_ _ | refine blk_drew ?_ | refine blk_alloc ?_ _)); refine blk_far ?_ NB323_370.out _; (with_reducible repeat (first | refine blk_drewN ?_ _ | refine blk_drew ?_ | refine blk_alloc ?_ _)); refine blk_far ?_ NB323_370.out _; (with_reducible repeat (first | refine blk_drewN ?_ _ | refine blk_drew ?_ | refine blk_alloc ?_ _)); refine blk_far ?_ NB323_370.out _; (with_reducible repeat (first | refine blk_drewN ?_ _ | refine blk_drew ?_ | refine blk_alloc ?_ _)); exact BK323.out) hb); replace BK324 := AM_ (blk_below (g := gb324) (o := .cells #[.bool a1_0, .slice A1_1 l1_1.length c1_1, .slice A1_2 l1_2.length c1_2, .slice A1_3 l1_3.length c1_3, .slice A1_4 l1_4.length c1_4, .int .i64 a1_5] 44 (0, 0)) (by (with_reducible repeat (first | refine blk_drewN ?_ _ | refine blk_drew ?_ | refine blk_alloc ?_ _)); refine blk_far ?_ NB324_370.out _; (with_reducible repeat (first | refine blk_drewN ?_ _ | refine blk_drew ?_ | refine blk_alloc ?_ _)); refine blk_far ?_ NB324_370.out _; (with_reducible repeat (first | refine blk_drewN ?_ _ | refine blk_drew ?_ | refine blk_alloc ?_ _)); refine blk_far ?_ NB324_370.out _; (with_reducible repeat (first | refine blk_drewN ?_ _ | refine blk_drew ?_ | refine blk_alloc ?_ _)); refine blk_far ?_ NB324_370.out _; (with_reducible repeat (first | refine blk_drewN ?_ _ | refine blk_drew ?_ | refine blk_alloc ?_ _)); refine blk_far ?_ NB324_370.out _; (with_reducible repeat (first | refine blk_drewN ?_ _ | refine blk_drew ?_ | refine blk_alloc ?_ _)); refine blk_far ?_ NB324_370.out _; (with_reducible repeat (first | refine blk_drewN ?_ _ | refine blk_drew ?_ | refine blk_alloc ?_ _)); exact BK324.out) hb); replace BK370 := AM_ (blk_below (g := gb370) (o := .cells #[.bool t356, .slice Ao211 t357.length co211, .slice Ao212 t360.length co212, .slice Ao213 t363.length co213, .slice Ao214 t366.length co214, .int .i64 t369] 53 (0, 0)) (by (with_reducible repeat (first | refine blk_drewN ?_ _ | refine blk_drew ?_ | refine blk_alloc ?_ _)); refine blk_put (cs := #[.bool t356, .slice Ao211 t357.length co211, .slice Ao212 t360.length co212, .slice Ao213 t363.length co213, .slice Ao214 t366.length co214, .int .i64 0]) ?_ 5 _ rfl; (with_reducible repeat (first | refine blk_drewN ?_ _ | refine blk_drew ?_ | refine blk_alloc ?_ _)); refine blk_put (cs := #[.bool t356, .slice Ao211 t357.length co211, .slice Ao212 t360.length co212, .slice Ao213 t363.length co213, .slice none 0 0, .int .i64 0]) ?_ 4 _ rfl; (with_reducible repeat (first | refine blk_drewN ?_ _ | refine blk_drew ?_ | refine blk_alloc ?_ _)); refine blk_put (cs := #[.bool t356, .slice Ao211 t357.length co211, .slice Ao212 t360.length co212, .slice none 0 0, .slice none 0 0, .int .i64 0]) ?_ 3 _ rfl; (with_reducible repeat (first | refine blk_drewN ?_ _ | refine blk_drew ?_ | refine blk_alloc ?_ _)); refine blk_put (cs := #[.bool t356, .slice Ao211 t357.length co211, .slice none 0 0, .slice none 0 0, .slice none 0 0, .int .i64 0]) ?_ 2 _ rfl; (with_reducible repeat (first | refine blk_drewN ?_ _ | refine blk_drew ?_ | refine blk_alloc ?_ _)); refine blk_put (cs := #[.bool t356, .slice none 0 0, .slice none 0 0, .slice none 0 0, .slice none 0 0, .int .i64 0]) ?_ 1 _ rfl; (with_reducible repeat (first | refine blk_drewN ?_ _ | refine blk_drew ?_ | refine blk_alloc ?_ _)); refine blk_put (cs := #[.bool false, .slice none 0 0, .slice none 0 0, .slice none 0 0, .slice none 0 0, .int .i64 0]) ?_ 0 _ rfl; (with_reducible repeat (first | refine blk_drewN ?_ _ | refine blk_drew ?_ | refine blk_alloc ?_ _)); exact BK370.out) hb); replace HB := AM_ (below_step (BT HB.out) hb); (try clear hb); (try clear hb2); (try clear hk); (try clear hi); (try clear ho0); (try clear ho1); (try clear ho2); (try clear ho3)) | ((with_reducible refine gate_dst (N := 8) rfl ?_); refine box_event ?hg (N := 8) ?hd (cs := #[.bool false, .slice none 0 0, .slice none 0 0, .slice none 0 0, .slice none 0 0, .int .i64 0]) (t := 53) ?hr ?_; (case hd => rfl); (case hg => rfl); (case hr => first | (go_simp; done) | (go_simp; rfl)); intro gb385 hg w217 hbox hb; replace HO330 := AM_ (Kd.S_below (ST HO330.out) hb); replace HO333 := AM_ (Kd.S_below (ST HO333.out) hb); replace HO336 := AM_ (Kd.R_below (RT HO336.out) hb); replace HO339 := AM_ (Kd.R_below (RT HO339.out) hb); replace HO344 := AM_ (Kd.S_below (ST HO344.out) hb); replace HO347 := AM_ (Kd.S_below (ST HO347.out) hb); replace HO350 := AM_ (Kd.R_below (RT HO350.out) hb); replace HO353 := AM_ (Kd.R_below (RT HO353.out) hb); replace HO359 := AM_ (Kd.S_below (ST HO359.out) hb); replace HO362 := AM_ (Kd.S_below (ST HO362.out) hb); replace HO365 := AM_ (Kd.R_below (RT HO365.out) hb); replace HO368 := AM_ (Kd.R_below (RT HO368.out) hb); replace HO374 := AM_ (Kd.S_below (ST HO374.out) hb); replace HO377 := AM_ (Kd.S_below (ST HO377.out) hb); replace HO380 := AM_ (Kd.R_below (RT HO380.out) hb); replace HO383 := AM_ (Kd.R_below (RT HO383.out) hb); have BK385 := AM_ (hbox); have GW385 := AM_ ((GS HB.out hg)); have GE385 := AM_ ((GS HB.out hg)); replace HB := AM_ (below_step (BT HB.out) hb); have NB323_385 := AM_ ((NL BK323.out hg)); have NB385_323 := AM_ ((NG BK323.out hg)); replace BK323 := AM_ (BB BK323.out hb); have NB324_385 := AM_ ((NL BK324.out hg)); have NB385_324 := AM_ ((NG BK324.out hg)); replace BK324 := AM_ (BB BK324.out hb); have NB370_385 := AM_ ((NL BK370.out hg)); have NB385_370 := AM_ ((NG BK370.out hg)); replace BK370 := AM_ (BB BK370.out hb); clear hb hbox hg; have hnb218 := NB385_323.out; have hnc218 := NB323_385.out; have hnb219 := NB385_324.out; have hnc219 := NB324_385.out; have hnb220 := NB385_370.out; have hnc220 := NB370_385.out; obtain ⟨hcz221_0, hcz221_1, hcz221_2, hcz221_3, hcz221_4, hcz221_5, hfz221_0, hfz221_1, hfz221_2, hfz221_3, hfz221_4, hfz221_5⟩ := bk6 BK385.out; obtain ⟨Ao222, co222, eo222⟩ := Kd.S_slice HO374.out; subst eo222; obtain ⟨Ao223, co223, eo223⟩ := Kd.S_slice HO377.out; subst eo223; obtain ⟨Ao224, co224, eo224⟩ := Kd.R_slice HO380.out; subst eo224; obtain ⟨Ao225, co225, eo225⟩ := Kd.R_slice HO383.out; subst eo225; obtain ⟨hcz226_0, hcz226_1, hcz226_2, hcz226_3, hcz226_4, hcz226_5, hfz226_0, hfz226_1, hfz226_2, hfz226_3, hfz226_4, hfz226_5⟩ := bk6 BK370.out) | ((with_reducible refine gate_callee (f := 48) rfl ?_); refine goesL_ (some 31) rfl rfl Try.func48 (by kernel_rfl) rfl #[.agg #[.bool t356, .slice Ao211 t357.length co211, .slice Ao212 t360.length co212, .slice Ao213 t363.length co213, .slice Ao214 t366.length co214, .int .i64 t369], .agg #[.bool t371, .slice Ao222 t372.length co222, .slice Ao223 t375.length co223, .slice Ao224 t378.length co224, .slice Ao225 t381.length co225, .int .i64 t384]] rfl (by (try simp only [List.map_toArray, List.map_cons, List.map_nil]); first | done | rfl | (simp only [List.length_drop, List.length_take]; rfl)) ?_; (with_reducible refine (impl_EqualEngines.calls k t356 _ _ t357 _ _ t360 _ _ t363 _ _ t366 t369 t371 _ _ t372 _ _ t375 _ _ t378 _ _ t381 t384 t386 _ ?side1 ?side2 ?side3 ?side4 ?side5 ?side6 ?side7 ?side8 ?side9 ?side10 ?side11 ?side12 ?side13 ?side14 ?side15 ?side16 A24.out).mono ?_); (case side1 => exact CG2 HO359.out BK385.out); (case side2 => exact (Kd.S_reads' HO359.out).2.1); (case side3 => exact CG2 HO362.out BK385.out); (case side4 => exact (Kd.S_reads' HO362.out).2.1); (case side5 => exact CF2 HO365.out BK385.out); (case side6 => exact (Kd.R_reads' HO365.out).2.1); (case side7 => exact CF2 HO368.out BK385.out); (case side8 => exact (Kd.R_reads' HO368.out).2.1); (case side9 => exact CG2 HO374.out BK385.out); (case side10 => exact (Kd.S_reads' HO374.out).2.1); (case side11 => exact CG2 HO377.out BK385.out); (case side12 => exact (Kd.S_reads' HO377.out).2.1); (case side13 => exact CF2 HO380.out BK385.out); (case side14 => exact (Kd.R_reads' HO380.out).2.1); (case side15 => exact CF2 HO383.out BK385.out); (case side16 => exact (Kd.R_reads' HO383.out).2.1); rintro e w227 ⟨rfl, hb⟩; refine ⟨_, rfl, ?_⟩; replace HO330 := AM_ (Kd.S_below (SF2 HO330.out BK385.out) hb); replace HO333 := AM_ (Kd.S_below (SF2 HO333.out BK385.out) hb); replace HO336 := AM_ (Kd.R_below (RF2 HO336.out BK385.out) hb); replace HO339 := AM_ (Kd.R_below (RF2 HO339.out BK385.out) hb); replace HO344 := AM_ (Kd.S_below (SF2 HO344.out BK385.out) hb); replace HO347 := AM_ (Kd.S_below (SF2 HO347.out BK385.out) hb); replace HO350 := AM_ (Kd.R_below (RF2 HO350.out BK385.out) hb); replace HO353 := AM_ (Kd.R_below (RF2 HO353.out BK385.out) hb); replace HO359 := AM_ (Kd.S_below (SF2 HO359.out BK385.out) hb); replace HO362 := AM_ (Kd.S_below (SF2 HO362.out BK385.out) hb); replace HO365 := AM_ (Kd.R_below (RF2 HO365.out BK385.out) hb); replace HO368 := AM_ (Kd.R_below (RF2 HO368.out BK385.out) hb); replace HO374 := AM_ (Kd.S_below (SF2 HO374.out BK385.out) hb); replace HO377 := AM_ (Kd.S_below (SF2 HO377.out BK385.out) hb); replace HO380 := AM_ (Kd.R_below (RF2 HO380.out BK385.out) hb); replace HO383 := AM_ (Kd.R_below (RF2 HO383.out BK385.out) hb); replace BK323 := AM_ (blk_below (g := gb323) (o := .cells #[.bool a0_0, .slice A0_1 l0_1.length c0_1, .slice A0_2 l0_2.length c0_2, .slice A0_3 l0_3.length c0_3, .slice A0_4 l0_4.length c0_4, .int .i64 a0_5] 44 (0, 0)) (by (with_reducible repeat (first | refine blk_drewN ?_ _ | refine blk_drew ?_ | refine blk_alloc ?_ _)); refine blk_far ?_ NB323_385.out _; (with_reducible repeat (first | refine blk_drewN ?_ _ | refine blk_drew ?_ | refine blk_alloc ?_ _)); refine blk_far ?_ NB323_385.out _; (with_reducible repeat (first | refine blk_drewN ?_ _ | refine blk_drew ?_ | refine blk_alloc ?_ _)); refine blk_far ?_ NB323_385.out _; (with_reducible repeat (first | refine blk_drewN ?_ _ | refine blk_drew ?_ | refine blk_alloc ?_ _)); refine blk_far ?_ NB323_385.out _; (with_reducible repeat (first | refine blk_drewN ?_ _ | refine blk_drew ?_ | refine blk_alloc ?_ _)); refine blk_far ?_ NB323_385.out _; (with_reducible repeat (first | refine blk_drewN ?_ _ | refine blk_drew ?_ | refine blk_alloc ?_ _)); refine blk_far ?_ NB323_385.out _; (with_reducible repeat (first | refine blk_drewN ?_ _ | refine blk_drew ?_ | refine blk_alloc ?_ _)); exact BK323.out) hb); replace BK324 := AM_ (blk_below (g := gb324) (o := .cells #[.bool a1_0, .slice A1_1 l1_1.length c1_1, .slice A1_2 l1_2.length c1_2, .slice A1_3 l1_3.length c1_3, .slice A1_4 l1_4.length c1_4, .int .i64 a1_5] 44 (0, 0)) (by (with_reducible repeat (first | refine blk_drewN ?_ _ | refine blk_drew ?_ | refine blk_alloc ?_ _)); refine blk_far ?_ NB324_385.out _; (with_reducible repeat (first | refine blk_drewN ?_ _ | refine blk_drew ?_ | refine blk_alloc ?_ _)); refine blk_far ?_ NB324_385.out _; (with_reducible repeat (first | refine blk_drewN ?_ _ | refine blk_drew ?_ | refine blk_alloc ?_ _)); refine blk_far ?_ NB324_385.out _; (with_reducible repeat (first | refine blk_drewN ?_ _ | refine blk_drew ?_ | refine blk_alloc ?_ _)); refine blk_far ?_ NB324_385.out _; (with_reducible repeat (first | refine blk_drewN ?_ _ | refine blk_drew ?_ | refine blk_alloc ?_ _)); refine blk_far ?_ NB324_385.out _; (with_reducible repeat (first | refine blk_drewN ?_ _ | refine blk_drew ?_ | refine blk_alloc ?_ _)); refine blk_far ?_ NB324_385.out _; (with_reducible repeat (first | refine blk_drewN ?_ _ | refine blk_drew ?_ | refine blk_alloc ?_ _)); exact BK324.out) hb); replace BK370 := AM_ (blk_below (g := gb370) (o := .cells #[.bool t356, .slice Ao211 t357.length co211, .slice Ao212 t360.length co212, .slice Ao213 t363.length co213, .slice Ao214 t366.length co214, .int .i64 t369] 53 (0, 0)) (by (with_reducible repeat (first | refine blk_drewN ?_ _ | refine blk_drew ?_ | refine blk_alloc ?_ _)); refine blk_far ?_ NB370_385.out _; (with_reducible repeat (first | refine blk_drewN ?_ _ | refine blk_drew ?_ | refine blk_alloc ?_ _)); refine blk_far ?_ NB370_385.out _; (with_reducible repeat (first | refine blk_drewN ?_ _ | refine blk_drew ?_ | refine blk_alloc ?_ _)); refine blk_far ?_ NB370_385.out _; (with_reducible repeat (first | refine blk_drewN ?_ _ | refine blk_drew ?_ | refine blk_alloc ?_ _)); refine blk_far ?_ NB370_385.out _; (with_reducible repeat (first | refine blk_drewN ?_ _ | refine blk_drew ?_ | refine blk_alloc ?_ _)); refine blk_far ?_ NB370_385.out _; (with_reducible repeat (first | refine blk_drewN ?_ _ | refine blk_drew ?_ | refine blk_alloc ?_ _)); refine blk_far ?_ NB370_385.out _; (with_reducible repeat (first | refine blk_drewN ?_ _ | refine blk_drew ?_ | refine blk_alloc ?_ _)); exact BK370.out) hb); replace BK385 := AM_ (blk_below (g := gb385) (o := .cells #[.bool t371, .slice Ao222 t372.length co222, .slice Ao223 t375.length co223, .slice Ao224 t378.length co224, .slice Ao225 t381.length co225, .int .i64 t384] 53 (0, 0)) (by (with_reducible repeat (first | refine blk_drewN ?_ _ | refine blk_drew ?_ | refine blk_alloc ?_ _)); refine blk_put (cs := #[.bool t371, .slice Ao222 t372.length co222, .slice Ao223 t375.length co223, .slice Ao224 t378.length co224, .slice Ao225 t381.length co225, .int .i64 0]) ?_ 5 _ rfl; (with_reducible repeat (first | refine blk_drewN ?_ _ | refine blk_drew ?_ | refine blk_alloc ?_ _)); refine blk_put (cs := #[.bool t371, .slice Ao222 t372.length co222, .slice Ao223 t375.length co223, .slice Ao224 t378.length co224, .slice none 0 0, .int .i64 0]) ?_ 4 _ rfl; (with_reducible repeat (first | refine blk_drewN ?_ _ | refine blk_drew ?_ | refine blk_alloc ?_ _)); refine blk_put (cs := #[.bool t371, .slice Ao222 t372.length co222, .slice Ao223 t375.length co223, .slice none 0 0, .slice none 0 0, .int .i64 0]) ?_ 3 _ rfl; (with_reducible repeat (first | refine blk_drewN ?_ _ | refine blk_drew ?_ | refine blk_alloc ?_ _)); refine blk_put (cs := #[.bool t371, .slice Ao222 t372.length co222, .slice none 0 0, .slice none 0 0, .slice none 0 0, .int .i64 0]) ?_ 2 _ rfl; (with_reducible repeat (first | refine blk_drewN ?_ _ | refine blk_drew ?_ | refine blk_alloc ?_ _)); refine blk_put (cs := #[.bool t371, .slice none 0 0, .slice none 0 0, .slice none 0 0, .slice none 0 0, .int .i64 0]) ?_ 1 _ rfl; (with_reducible repeat (first | refine blk_drewN ?_ _ | refine blk_drew ?_ | refine blk_alloc ?_ _)); refine blk_put (cs := #[.bool false, .slice none 0 0, .slice none 0 0, .slice none 0 0, .slice none 0 0, .int .i64 0]) ?_ 0 _ rfl; (with_reducible repeat (first | refine blk_drewN ?_ _ | refine blk_drew ?_ | refine blk_alloc ?_ _)); exact BK385.out) hb); replace HB := AM_ (below_step (BT HB.out) hb); (try clear hb); (try clear hb2); (try clear hk); (try clear hi)))
  replace HO330 := AM_ (Kd.S_drew HO330.out)
  replace HO333 := AM_ (Kd.S_drew HO333.out)
  replace HO336 := AM_ (Kd.R_drew HO336.out)
  replace HO339 := AM_ (Kd.R_drew HO339.out)
  replace HO344 := AM_ (Kd.S_drew HO344.out)
  replace HO347 := AM_ (Kd.S_drew HO347.out)
  replace HO350 := AM_ (Kd.R_drew HO350.out)
  replace HO353 := AM_ (Kd.R_drew HO353.out)
  replace HO359 := AM_ (Kd.S_drew HO359.out)
  replace HO362 := AM_ (Kd.S_drew HO362.out)
  replace HO365 := AM_ (Kd.R_drew HO365.out)
  replace HO368 := AM_ (Kd.R_drew HO368.out)
  replace HO374 := AM_ (Kd.S_drew HO374.out)
  replace HO377 := AM_ (Kd.S_drew HO377.out)
  replace HO380 := AM_ (Kd.R_drew HO380.out)
  replace HO383 := AM_ (Kd.R_drew HO383.out)
  replace BK323 := AM_ (blk_drew BK323.out)
  replace BK324 := AM_ (blk_drew BK324.out)
  replace BK370 := AM_ (blk_drew BK370.out)
  replace BK385 := AM_ (blk_drew BK385.out)
  replace HB := AM_ (below_drew1 HB.out)
  refine start_ (n := 5) (S := fun w' => w'.cell? ⟨gb370, 0, none⟩ = some (.bool t356) ∧ w'.cell? ⟨gb370, 1, none⟩ = some (.slice Ao211 t357.length co211) ∧ w'.cell? ⟨gb370, 2, none⟩ = some (.slice Ao212 t360.length co212) ∧ w'.cell? ⟨gb370, 3, none⟩ = some (.slice Ao213 t363.length co213) ∧ w'.cell? ⟨gb370, 4, none⟩ = some (.slice Ao214 t366.length co214) ∧ w'.cell? ⟨gb370, 5, none⟩ = some (.int .i64 t369) ∧ w'.cell? ⟨gb323, 0, none⟩ = some (.bool a0_0) ∧ w'.cell? ⟨gb323, 1, none⟩ = some (.slice A0_1 l0_1.length c0_1) ∧ w'.cell? ⟨gb323, 2, none⟩ = some (.slice A0_2 l0_2.length c0_2) ∧ w'.cell? ⟨gb323, 3, none⟩ = some (.slice A0_3 l0_3.length c0_3) ∧ w'.cell? ⟨gb323, 4, none⟩ = some (.slice A0_4 l0_4.length c0_4) ∧ w'.cell? ⟨gb323, 5, none⟩ = some (.int .i64 a0_5)) (ds := []) (bs 0 5) (by kernel_rfl) rfl rfl ⟨bc BK370.out 0, bc BK370.out 1, bc BK370.out 2, bc BK370.out 3, bc BK370.out 4, bc BK370.out 5, bc BK323.out 0, bc BK323.out 1, bc BK323.out 2, bc BK323.out 3, bc BK323.out 4, bc BK323.out 5⟩ (fun hHeld => ?_)
  generalize w227.drew = w228 at HO330 HO333 HO336 HO339 HO344 HO347 HO350 HO353 HO359 HO362 HO365 HO368 HO374 HO377 HO380 HO383 BK323 BK324 BK370 BK385 HB hHeld ⊢
  refine take_ (i := 0) (N := some 35) (v := ?_) (a' := ?_) (bs 1 5) rfl rfl (by kernel_rfl) (fun _ _ _ h => h) (Or.inl ⟨by rfl, ?_⟩) hHeld ?_ ?_
  rotate_left
  ·rintro w' ⟨s0, s1, s2, s3, s4, s5, s6, s7, s8, s9, s10, s11⟩
   go_simp
   with_reducible rfl
  rotate_left
  ·simp only [pA, pS, pZ, pK, i64_w, i32_w]
   rfl
  refine take_ (i := 1) (N := some 36) (v := ?_) (a' := ?_) (bs 3 5) rfl rfl (by kernel_rfl) (fun _ _ _ h => h) (Or.inl ⟨by rfl, ?_⟩) hHeld ?_ ?_
  rotate_left
  ·rintro w' ⟨s0, s1, s2, s3, s4, s5, s6, s7, s8, s9, s10, s11⟩
   go_simp
   with_reducible rfl
  rotate_left
  ·simp only [pA, pS, pZ, pK, i64_w, i32_w]
   rfl
  refine one_ (i := 2) (N := some 37) (bs 7 5) rfl rfl (by kernel_rfl) (by decide) (fun K hK => ?_)
  refine goes_ Try.func29 (by kernel_rfl) rfl #[.agg #[.bool a0_0, .slice A0_1 l0_1.length c0_1, .slice A0_2 l0_2.length c0_2, .slice A0_3 l0_3.length c0_3, .slice A0_4 l0_4.length c0_4, .int .i64 a0_5]] (by rfl) rfl rfl (by (try simp only [List.map_toArray, List.map_cons, List.map_nil]); first | done | rfl | (simp only [List.length_drop, List.length_take]; rfl)) ?_
  with_reducible refine (laws_toEngine.calls k a0_0 _ _ l0_1 _ _ l0_2 _ _ l0_3 _ _ l0_4 a0_5 t387 t388 t391 t394 t397 t400 _ ?side1 ?side2 ?side3 ?side4 ?side5 ?side6 ?side7 ?side8 A68.out).mono ?_
  (case side1 => exact CB HR0_1.out HB.out)
  (case side2 => exact HC0_1.out)
  (case side3 => exact CB HR0_2.out HB.out)
  (case side4 => exact HC0_2.out)
  (case side5 => exact CB HR0_3.out HB.out)
  (case side6 => exact HC0_3.out)
  (case side7 => exact CB HR0_4.out HB.out)
  (case side8 => exact HC0_4.out)
  rintro e w229 ⟨v389, v392, v395, v398, rfl, ho0, ho1, ho2, ho3, hb⟩
  refine ⟨_, rfl, ?_⟩
  have HO390 := AM_ (Kd.S_lower (Kd.S_new' (Kd.S_new' (Kd.S_new' (Kd.S_new' ho0 (Kd.S_lt (ST HO330.out))) (Kd.S_lt (ST HO344.out))) (Kd.S_lt (ST HO359.out))) (Kd.S_lt (ST HO374.out))) (below_size (BT HB.out)))
  replace HO330 := AM_ (Kd.S_elder' (ST HO330.out) (Kd.S_base ho0) hb)
  replace HO344 := AM_ (Kd.S_elder' (ST HO344.out) (Kd.S_base ho0) hb)
  replace HO359 := AM_ (Kd.S_elder' (ST HO359.out) (Kd.S_base ho0) hb)
  replace HO374 := AM_ (Kd.S_elder' (ST HO374.out) (Kd.S_base ho0) hb)
  have HO393 := AM_ (Kd.S_lower (Kd.S_new' (Kd.S_new' (Kd.S_new' (Kd.S_new' ho1 (Kd.S_lt (ST HO333.out))) (Kd.S_lt (ST HO347.out))) (Kd.S_lt (ST HO362.out))) (Kd.S_lt (ST HO377.out))) (below_size (BT HB.out)))
  replace HO333 := AM_ (Kd.S_elder' (ST HO333.out) (Kd.S_base ho1) hb)
  replace HO347 := AM_ (Kd.S_elder' (ST HO347.out) (Kd.S_base ho1) hb)
  replace HO362 := AM_ (Kd.S_elder' (ST HO362.out) (Kd.S_base ho1) hb)
  replace HO377 := AM_ (Kd.S_elder' (ST HO377.out) (Kd.S_base ho1) hb)
  have HO396 := AM_ (Kd.R_lower (Kd.R_new' (Kd.R_new' (Kd.R_new' (Kd.R_new' ho2 (Kd.R_lt (RT HO336.out))) (Kd.R_lt (RT HO350.out))) (Kd.R_lt (RT HO365.out))) (Kd.R_lt (RT HO380.out))) (below_size (BT HB.out)))
  replace HO336 := AM_ (Kd.R_elder' (RT HO336.out) (Kd.R_base ho2) hb)
  replace HO350 := AM_ (Kd.R_elder' (RT HO350.out) (Kd.R_base ho2) hb)
  replace HO365 := AM_ (Kd.R_elder' (RT HO365.out) (Kd.R_base ho2) hb)
  replace HO380 := AM_ (Kd.R_elder' (RT HO380.out) (Kd.R_base ho2) hb)
  have HO399 := AM_ (Kd.R_lower (Kd.R_new' (Kd.R_new' (Kd.R_new' (Kd.R_new' ho3 (Kd.R_lt (RT HO339.out))) (Kd.R_lt (RT HO353.out))) (Kd.R_lt (RT HO368.out))) (Kd.R_lt (RT HO383.out))) (below_size (BT HB.out)))
  replace HO339 := AM_ (Kd.R_elder' (RT HO339.out) (Kd.R_base ho3) hb)
  replace HO353 := AM_ (Kd.R_elder' (RT HO353.out) (Kd.R_base ho3) hb)
  replace HO368 := AM_ (Kd.R_elder' (RT HO368.out) (Kd.R_base ho3) hb)
  replace HO383 := AM_ (Kd.R_elder' (RT HO383.out) (Kd.R_base ho3) hb)
  replace BK323 := AM_ (BB BK323.out hb)
  replace BK324 := AM_ (BB BK324.out hb)
  replace BK370 := AM_ (BB BK370.out hb)
  replace BK385 := AM_ (BB BK385.out hb)
  replace HB := AM_ (below_step (BT HB.out) hb)
  (try clear hb)
  (try clear hb2)
  (try clear hk)
  (try clear hi)
  (try clear ho0)
  (try clear ho1)
  (try clear ho2)
  (try clear ho3)
  obtain ⟨Ao230, co230, eo230⟩ := Kd.S_slice HO390.out
  (first | subst eo230 | (injection eo230 with f1_ f2_ f3_; have f4_ := f1_.symm; have f5_ := f3_.symm; clear f1_ f2_ f3_; subst f4_; subst f5_))
  obtain ⟨Ao231, co231, eo231⟩ := Kd.S_slice HO393.out
  (first | subst eo231 | (injection eo231 with f1_ f2_ f3_; have f4_ := f1_.symm; have f5_ := f3_.symm; clear f1_ f2_ f3_; subst f4_; subst f5_))
  obtain ⟨Ao232, co232, eo232⟩ := Kd.R_slice HO396.out
  (first | subst eo232 | (injection eo232 with f1_ f2_ f3_; have f4_ := f1_.symm; have f5_ := f3_.symm; clear f1_ f2_ f3_; subst f4_; subst f5_))
  obtain ⟨Ao233, co233, eo233⟩ := Kd.R_slice HO399.out
  (first | subst eo233 | (injection eo233 with f1_ f2_ f3_; have f4_ := f1_.symm; have f5_ := f3_.symm; clear f1_ f2_ f3_; subst f4_; subst f5_))
  refine hK.out _ _ ⟨bc BK370.out 0, bc BK370.out 1, bc BK370.out 2, bc BK370.out 3, bc BK370.out 4, bc BK370.out 5, bc BK323.out 0, bc BK323.out 1, bc BK323.out 2, bc BK323.out 3, bc BK323.out 4, bc BK323.out 5⟩ (fun hHeld => ?_)
  clear hK K
  refine norm_ (a' := ?_) ?_ ?_
  rotate_left
  ·show Act.put _ (some 37) _ = _
   simp only [pA, pS, pZ, pK, i64_w, i32_w]
   rfl
  refine one_ (i := 3) (N := some 38) (bs 15 5) rfl rfl (by kernel_rfl) (by decide) (fun K hK => ?_)
  refine goes_ Try.func31 (by kernel_rfl) rfl #[.agg #[.bool t356, .slice Ao211 t357.length co211, .slice Ao212 t360.length co212, .slice Ao213 t363.length co213, .slice Ao214 t366.length co214, .int .i64 t369], .agg #[.bool t387, .slice Ao230 t388.length co230, .slice Ao231 t391.length co231, .slice Ao232 t394.length co232, .slice Ao233 t397.length co233, .int .i64 t400]] (by rfl) rfl rfl (by (try simp only [List.map_toArray, List.map_cons, List.map_nil]); first | done | rfl | (simp only [List.length_drop, List.length_take]; rfl)) ?_
  with_reducible refine (laws_eqEngine.calls k t356 _ _ t357 _ _ t360 _ _ t363 _ _ t366 t369 t387 _ _ t388 _ _ t391 _ _ t394 _ _ t397 t400 false _ ?side1 ?side2 ?side3 ?side4 ?side5 ?side6 ?side7 ?side8 ?side9 ?side10 ?side11 ?side12 ?side13 ?side14 ?side15 ?side16 A69.out).mono ?_
  (case side1 => exact Kd.C_below (Kd.S_reads' HO359.out).2.2 (BL (Below.refl _ _) rfl rfl rfl rfl))
  (case side2 => exact (Kd.S_reads' HO359.out).2.1)
  (case side3 => exact Kd.C_below (Kd.S_reads' HO362.out).2.2 (BL (Below.refl _ _) rfl rfl rfl rfl))
  (case side4 => exact (Kd.S_reads' HO362.out).2.1)
  (case side5 => exact Kd.C_below (Kd.R_reads' HO365.out).2.2 (BL (Below.refl _ _) rfl rfl rfl rfl))
  (case side6 => exact (Kd.R_reads' HO365.out).2.1)
  (case side7 => exact Kd.C_below (Kd.R_reads' HO368.out).2.2 (BL (Below.refl _ _) rfl rfl rfl rfl))
  (case side8 => exact (Kd.R_reads' HO368.out).2.1)
  (case side9 => exact Kd.C_below (Kd.S_reads' HO390.out).2.2 (BL (Below.refl _ _) rfl rfl rfl rfl))
  (case side10 => exact (Kd.S_reads' HO390.out).2.1)
  (case side11 => exact Kd.C_below (Kd.S_reads' HO393.out).2.2 (BL (Below.refl _ _) rfl rfl rfl rfl))
  (case side12 => exact (Kd.S_reads' HO393.out).2.1)
  (case side13 => exact Kd.C_below (Kd.R_reads' HO396.out).2.2 (BL (Below.refl _ _) rfl rfl rfl rfl))
  (case side14 => exact (Kd.R_reads' HO396.out).2.1)
  (case side15 => exact Kd.C_below (Kd.R_reads' HO399.out).2.2 (BL (Below.refl _ _) rfl rfl rfl rfl))
  (case side16 => exact (Kd.R_reads' HO399.out).2.1)
  rintro e w234 ⟨rfl, hb⟩
  refine ⟨_, rfl, ?_⟩
  replace HO330 := AM_ (Kd.S_below (ST HO330.out) hb)
  replace HO333 := AM_ (Kd.S_below (ST HO333.out) hb)
  replace HO336 := AM_ (Kd.R_below (RT HO336.out) hb)
  replace HO339 := AM_ (Kd.R_below (RT HO339.out) hb)
  replace HO344 := AM_ (Kd.S_below (ST HO344.out) hb)
  replace HO347 := AM_ (Kd.S_below (ST HO347.out) hb)
  replace HO350 := AM_ (Kd.R_below (RT HO350.out) hb)
  replace HO353 := AM_ (Kd.R_below (RT HO353.out) hb)
  replace HO359 := AM_ (Kd.S_below (ST HO359.out) hb)
  replace HO362 := AM_ (Kd.S_below (ST HO362.out) hb)
  replace HO365 := AM_ (Kd.R_below (RT HO365.out) hb)
  replace HO368 := AM_ (Kd.R_below (RT HO368.out) hb)
  replace HO374 := AM_ (Kd.S_below (ST HO374.out) hb)
  replace HO377 := AM_ (Kd.S_below (ST HO377.out) hb)
  replace HO380 := AM_ (Kd.R_below (RT HO380.out) hb)
  replace HO383 := AM_ (Kd.R_below (RT HO383.out) hb)
  replace HO390 := AM_ (Kd.S_below (ST HO390.out) hb)
  replace HO393 := AM_ (Kd.S_below (ST HO393.out) hb)
  replace HO396 := AM_ (Kd.R_below (RT HO396.out) hb)
  replace HO399 := AM_ (Kd.R_below (RT HO399.out) hb)
  replace BK323 := AM_ (BB BK323.out hb)
  replace BK324 := AM_ (BB BK324.out hb)
  replace BK370 := AM_ (BB BK370.out hb)
  replace BK385 := AM_ (BB BK385.out hb)
  replace HB := AM_ (below_step (BT HB.out) hb)
  (try clear hb)
  (try clear hb2)
  (try clear hk)
  (try clear hi)
  refine hK.out _ _ ⟨bc BK370.out 0, bc BK370.out 1, bc BK370.out 2, bc BK370.out 3, bc BK370.out 4, bc BK370.out 5, bc BK323.out 0, bc BK323.out 1, bc BK323.out 2, bc BK323.out 3, bc BK323.out 4, bc BK323.out 5⟩ (fun hHeld => ?_)
  clear hK K
  refine norm_ (a' := ?_) ?_ ?_
  rotate_left
  ·show Act.put _ (some 38) _ = _
   simp only [pA, pS, pZ, pK, i64_w, i32_w]
   rfl
  refine pure_ (i := 4) (N := some 39) (v := ?_) (a' := ?_) (bs 31 5) rfl rfl (by kernel_rfl) (fun _ _ _ h => h) (Or.inl ⟨by rfl, ?_⟩) ?_ ?_
  rotate_left
  ·intro w'
   go_simp
   with_reducible rfl
  rotate_left
  ·simp only [pA, pS, pZ, pK, i64_w, i32_w]
   rfl
  refine done_ (by kernel_rfl) ?_
  try go_wp2
  go_ret
  exact QT (BT HB.out)
 subst c70
 have H1 : ((laws_toEngine.f k a1_0 l1_1 l1_2 l1_3 l1_4 a1_5).bind fun bt402 => ((laws_eqEngine.f k t371 t372 t375 t378 t381 t384 bt402.1 bt402.2.1 bt402.2.2.1 bt402.2.2.2.1 bt402.2.2.2.2.1 bt402.2.2.2.2.2).bind fun t416 => (if t416 = true then (some true) else (some false)))) = some r := by rw [if_pos rfl] at H; exact H
 clear H
 have H := H1
 clear H1
 replace H := Option.bind_eq_some_iff.mp H
 obtain ⟨⟨t402, t403, t406, t409, t412, t415⟩, A710, H⟩ := H
 replace H : ((laws_eqEngine.f k t371 t372 t375 t378 t381 t384 t402 t403 t406 t409 t412 t415).bind fun t416 => (if t416 = true then (some true) else (some false))) = some r := H
 have A71 := AM_ A710
 clear A710
 replace H := Option.bind_eq_some_iff.mp H
 obtain ⟨t416, A720, H⟩ := H
 replace H : (if t416 = true then (some true) else (some false)) = some r := H
 have A72 := AM_ A720
 clear A720
 by_cases c73 : t416 = true
 ·subst c73
  have H1 : (some true) = some r := by rw [if_pos rfl] at H; exact H
  clear H
  have H := H1
  clear H1
  obtain rfl := Option.some.inj H
  go_enter Try.func8, Try.ntmps8
  try go_wp2_with (first | ((with_reducible refine gate_dst (N := 2) rfl ?_); refine box_event ?hg (N := 2) ?hd (cs := #[.bool a0_0, .slice A0_1 l0_1.length c0_1, .slice A0_2 l0_2.length c0_2, .slice A0_3 l0_3.length c0_3, .slice A0_4 l0_4.length c0_4, .int .i64 a0_5]) (t := 44) ?hr ?_; (case hd => rfl); (case hg => rfl); (case hr => first | (go_simp; done) | (go_simp; rfl)); intro gb323 hg w74 hbox hb; have BK323 := AM_ (hbox); have GW323 := AM_ ((GS HB.out hg)); have GE323 := AM_ ((GS HB.out hg)); replace HB := AM_ (below_step (BT HB.out) hb); clear hb hbox hg) | ((with_reducible refine gate_dst (N := 3) rfl ?_); refine box_event ?hg (N := 3) ?hd (cs := #[.bool a1_0, .slice A1_1 l1_1.length c1_1, .slice A1_2 l1_2.length c1_2, .slice A1_3 l1_3.length c1_3, .slice A1_4 l1_4.length c1_4, .int .i64 a1_5]) (t := 44) ?hr ?_; (case hd => rfl); (case hg => rfl); (case hr => first | (go_simp; done) | (go_simp; rfl)); intro gb324 hg w75 hbox hb; have BK324 := AM_ (hbox); have GW324 := AM_ ((GS HB.out hg)); have GE324 := AM_ ((GS HB.out hg)); replace HB := AM_ (below_step (BT HB.out) hb); have NB323_324 := AM_ ((NL BK323.out hg)); have NB324_323 := AM_ ((NG BK323.out hg)); replace BK323 := AM_ (BB BK323.out hb); clear hb hbox hg; have hnb76 := NB323_324.out; have hnc76 := NB324_323.out; obtain ⟨hcz77_0, hcz77_1, hcz77_2, hcz77_3, hcz77_4, hcz77_5, hfz77_0, hfz77_1, hfz77_2, hfz77_3, hfz77_4, hfz77_5⟩ := bk6 BK323.out) | ((with_reducible refine gate_callee (f := 27) rfl ?_); refine goesL_ (some 12) rfl rfl Try.func27 (by kernel_rfl) rfl #[.agg #[.bool a0_0, .slice A0_1 l0_1.length c0_1, .slice A0_2 l0_2.length c0_2, .slice A0_3 l0_3.length c0_3, .slice A0_4 l0_4.length c0_4, .int .i64 a0_5], .int .i64 1048576] rfl (by (try simp only [List.map_toArray, List.map_cons, List.map_nil]); first | done | rfl | (simp only [List.length_drop, List.length_take]; rfl)) ?_; (with_reducible refine (laws_szEngine.calls k a0_0 _ _ l0_1 _ _ l0_2 _ _ l0_3 _ _ l0_4 a0_5 1048576 t325 _ ?side1 ?side2 ?side3 ?side4 ?side5 ?side6 ?side7 ?side8 A3.out).mono ?_); (case side1 => exact CB HR0_1.out HB.out); (case side2 => exact HC0_1.out); (case side3 => exact CB HR0_2.out HB.out); (case side4 => exact HC0_2.out); (case side5 => exact CB HR0_3.out HB.out); (case side6 => exact HC0_3.out); (case side7 => exact CB HR0_4.out HB.out); (case side8 => exact HC0_4.out); rintro e w78 ⟨rfl, hb⟩; refine ⟨_, rfl, ?_⟩; replace BK323 := AM_ (BB BK323.out hb); replace BK324 := AM_ (BB BK324.out hb); replace HB := AM_ (below_step (BT HB.out) hb); (try clear hb); (try clear hb2); (try clear hk); (try clear hi); obtain ⟨hcz79_0, hcz79_1, hcz79_2, hcz79_3, hcz79_4, hcz79_5, hfz79_0, hfz79_1, hfz79_2, hfz79_3, hfz79_4, hfz79_5⟩ := bk6 BK324.out) | ((with_reducible refine gate_callee (f := 27) rfl ?_); refine goesL_ (some 17) rfl rfl Try.func27 (by kernel_rfl) rfl #[.agg #[.bool a1_0, .slice A1_1 l1_1.length c1_1, .slice A1_2 l1_2.length c1_2, .slice A1_3 l1_3.length c1_3, .slice A1_4 l1_4.length c1_4, .int .i64 a1_5], .int .i64 t325] rfl (by (try simp only [List.map_toArray, List.map_cons, List.map_nil]); first | done | rfl | (simp only [List.length_drop, List.length_take]; rfl)) ?_; (with_reducible refine (laws_szEngine.calls k a1_0 _ _ l1_1 _ _ l1_2 _ _ l1_3 _ _ l1_4 a1_5 t325 t326 _ ?side1 ?side2 ?side3 ?side4 ?side5 ?side6 ?side7 ?side8 A10.out).mono ?_); (case side1 => exact CB HR1_1.out HB.out); (case side2 => exact HC1_1.out); (case side3 => exact CB HR1_2.out HB.out); (case side4 => exact HC1_2.out); (case side5 => exact CB HR1_3.out HB.out); (case side6 => exact HC1_3.out); (case side7 => exact CB HR1_4.out HB.out); (case side8 => exact HC1_4.out); rintro e w80 ⟨rfl, hb⟩; refine ⟨_, rfl, ?_⟩; replace BK323 := AM_ (BB BK323.out hb); replace BK324 := AM_ (BB BK324.out hb); replace HB := AM_ (below_step (BT HB.out) hb); (try clear hb); (try clear hb2); (try clear hk); (try clear hi)))
  replace BK323 := AM_ (blk_drew BK323.out)
  replace BK324 := AM_ (blk_drew BK324.out)
  replace HB := AM_ (below_drew1 HB.out)
  refine start_ (n := 6) (S := fun w' => w'.cell? ⟨gb323, 0, none⟩ = some (.bool a0_0) ∧ w'.cell? ⟨gb323, 1, none⟩ = some (.slice A0_1 l0_1.length c0_1) ∧ w'.cell? ⟨gb323, 2, none⟩ = some (.slice A0_2 l0_2.length c0_2) ∧ w'.cell? ⟨gb323, 3, none⟩ = some (.slice A0_3 l0_3.length c0_3) ∧ w'.cell? ⟨gb323, 4, none⟩ = some (.slice A0_4 l0_4.length c0_4) ∧ w'.cell? ⟨gb323, 5, none⟩ = some (.int .i64 a0_5) ∧ w'.cell? ⟨gb324, 0, none⟩ = some (.bool a1_0) ∧ w'.cell? ⟨gb324, 1, none⟩ = some (.slice A1_1 l1_1.length c1_1) ∧ w'.cell? ⟨gb324, 2, none⟩ = some (.slice A1_2 l1_2.length c1_2) ∧ w'.cell? ⟨gb324, 3, none⟩ = some (.slice A1_3 l1_3.length c1_3) ∧ w'.cell? ⟨gb324, 4, none⟩ = some (.slice A1_4 l1_4.length c1_4) ∧ w'.cell? ⟨gb324, 5, none⟩ = some (.int .i64 a1_5)) (ds := []) (bs 0 6) (by kernel_rfl) rfl rfl ⟨bc BK323.out 0, bc BK323.out 1, bc BK323.out 2, bc BK323.out 3, bc BK323.out 4, bc BK323.out 5, bc BK324.out 0, bc BK324.out 1, bc BK324.out 2, bc BK324.out 3, bc BK324.out 4, bc BK324.out 5⟩ (fun hHeld => ?_)
  generalize w80.drew = w81 at BK323 BK324 HB hHeld ⊢
  refine take_ (i := 0) (N := some 20) (v := ?_) (a' := ?_) (bs 1 6) rfl rfl (by kernel_rfl) (fun _ _ _ h => h) (Or.inl ⟨by rfl, ?_⟩) hHeld ?_ ?_
  rotate_left
  ·rintro w' ⟨s0, s1, s2, s3, s4, s5, s6, s7, s8, s9, s10, s11⟩
   go_simp
   with_reducible rfl
  rotate_left
  ·simp only [pA, pS, pZ, pK, i64_w, i32_w]
   rfl
  refine take_ (i := 2) (N := some 22) (v := ?_) (a' := ?_) (bs 5 6) rfl rfl (by kernel_rfl) (fun _ _ _ h => h) (Or.inl ⟨by rfl, ?_⟩) hHeld ?_ ?_
  rotate_left
  ·rintro w' ⟨s0, s1, s2, s3, s4, s5, s6, s7, s8, s9, s10, s11⟩
   go_simp
   with_reducible rfl
  rotate_left
  ·simp only [pA, pS, pZ, pK, i64_w, i32_w]
   rfl
  refine one_ (i := 1) (N := some 21) (bs 7 6) rfl rfl (by kernel_rfl) (by decide) (fun K hK => ?_)
  refine goes_ Try.func29 (by kernel_rfl) rfl #[.agg #[.bool a0_0, .slice A0_1 l0_1.length c0_1, .slice A0_2 l0_2.length c0_2, .slice A0_3 l0_3.length c0_3, .slice A0_4 l0_4.length c0_4, .int .i64 a0_5]] (by rfl) rfl rfl (by (try simp only [List.map_toArray, List.map_cons, List.map_nil]); first | done | rfl | (simp only [List.length_drop, List.length_take]; rfl)) ?_
  with_reducible refine (laws_toEngine.calls k a0_0 _ _ l0_1 _ _ l0_2 _ _ l0_3 _ _ l0_4 a0_5 t327 t328 t331 t334 t337 t340 _ ?side1 ?side2 ?side3 ?side4 ?side5 ?side6 ?side7 ?side8 A19.out).mono ?_
  (case side1 => exact CB HR0_1.out HB.out)
  (case side2 => exact HC0_1.out)
  (case side3 => exact CB HR0_2.out HB.out)
  (case side4 => exact HC0_2.out)
  (case side5 => exact CB HR0_3.out HB.out)
  (case side6 => exact HC0_3.out)
  (case side7 => exact CB HR0_4.out HB.out)
  (case side8 => exact HC0_4.out)
  rintro e w82 ⟨v329, v332, v335, v338, rfl, ho0, ho1, ho2, ho3, hb⟩
  refine ⟨_, rfl, ?_⟩
  have HO330 := AM_ (Kd.S_lower ho0 (below_size (BT HB.out)))
  have HO333 := AM_ (Kd.S_lower ho1 (below_size (BT HB.out)))
  have HO336 := AM_ (Kd.R_lower ho2 (below_size (BT HB.out)))
  have HO339 := AM_ (Kd.R_lower ho3 (below_size (BT HB.out)))
  replace BK323 := AM_ (BB BK323.out hb)
  replace BK324 := AM_ (BB BK324.out hb)
  replace HB := AM_ (below_step (BT HB.out) hb)
  (try clear hb)
  (try clear hb2)
  (try clear hk)
  (try clear hi)
  (try clear ho0)
  (try clear ho1)
  (try clear ho2)
  (try clear ho3)
  refine hK.out _ _ ⟨bc BK323.out 0, bc BK323.out 1, bc BK323.out 2, bc BK323.out 3, bc BK323.out 4, bc BK323.out 5, bc BK324.out 0, bc BK324.out 1, bc BK324.out 2, bc BK324.out 3, bc BK324.out 4, bc BK324.out 5⟩ (fun hHeld => ?_)
  clear hK K
  refine norm_ (a' := ?_) ?_ ?_
  rotate_left
  ·show Act.put _ (some 21) _ = _
   simp only [pA, pS, pZ, pK, i64_w, i32_w]
   rfl
  refine one_ (i := 3) (N := some 23) (bs 15 6) rfl rfl (by kernel_rfl) (by decide) (fun K hK => ?_)
  refine goes_ Try.func29 (by kernel_rfl) rfl #[.agg #[.bool a1_0, .slice A1_1 l1_1.length c1_1, .slice A1_2 l1_2.length c1_2, .slice A1_3 l1_3.length c1_3, .slice A1_4 l1_4.length c1_4, .int .i64 a1_5]] (by rfl) rfl rfl (by (try simp only [List.map_toArray, List.map_cons, List.map_nil]); first | done | rfl | (simp only [List.length_drop, List.length_take]; rfl)) ?_
  with_reducible refine (laws_toEngine.calls k a1_0 _ _ l1_1 _ _ l1_2 _ _ l1_3 _ _ l1_4 a1_5 t341 t342 t345 t348 t351 t354 _ ?side1 ?side2 ?side3 ?side4 ?side5 ?side6 ?side7 ?side8 A20.out).mono ?_
  (case side1 => exact CB HR1_1.out HB.out)
  (case side2 => exact HC1_1.out)
  (case side3 => exact CB HR1_2.out HB.out)
  (case side4 => exact HC1_2.out)
  (case side5 => exact CB HR1_3.out HB.out)
  (case side6 => exact HC1_3.out)
  (case side7 => exact CB HR1_4.out HB.out)
  (case side8 => exact HC1_4.out)
  rintro e w83 ⟨v343, v346, v349, v352, rfl, ho0, ho1, ho2, ho3, hb⟩
  refine ⟨_, rfl, ?_⟩
  have HO344 := AM_ (Kd.S_lower (Kd.S_new' ho0 (Kd.S_lt (ST HO330.out))) (below_size (BT HB.out)))
  replace HO330 := AM_ (Kd.S_elder' (ST HO330.out) (Kd.S_base ho0) hb)
  have HO347 := AM_ (Kd.S_lower (Kd.S_new' ho1 (Kd.S_lt (ST HO333.out))) (below_size (BT HB.out)))
  replace HO333 := AM_ (Kd.S_elder' (ST HO333.out) (Kd.S_base ho1) hb)
  have HO350 := AM_ (Kd.R_lower (Kd.R_new' ho2 (Kd.R_lt (RT HO336.out))) (below_size (BT HB.out)))
  replace HO336 := AM_ (Kd.R_elder' (RT HO336.out) (Kd.R_base ho2) hb)
  have HO353 := AM_ (Kd.R_lower (Kd.R_new' ho3 (Kd.R_lt (RT HO339.out))) (below_size (BT HB.out)))
  replace HO339 := AM_ (Kd.R_elder' (RT HO339.out) (Kd.R_base ho3) hb)
  replace BK323 := AM_ (BB BK323.out hb)
  replace BK324 := AM_ (BB BK324.out hb)
  replace HB := AM_ (below_step (BT HB.out) hb)
  (try clear hb)
  (try clear hb2)
  (try clear hk)
  (try clear hi)
  (try clear ho0)
  (try clear ho1)
  (try clear ho2)
  (try clear ho3)
  obtain ⟨Ao84, co84, eo84⟩ := Kd.S_slice HO330.out
  (first | subst eo84 | (injection eo84 with f1_ f2_ f3_; have f4_ := f1_.symm; have f5_ := f3_.symm; clear f1_ f2_ f3_; subst f4_; subst f5_))
  obtain ⟨Ao85, co85, eo85⟩ := Kd.S_slice HO333.out
  (first | subst eo85 | (injection eo85 with f1_ f2_ f3_; have f4_ := f1_.symm; have f5_ := f3_.symm; clear f1_ f2_ f3_; subst f4_; subst f5_))
  obtain ⟨Ao86, co86, eo86⟩ := Kd.R_slice HO336.out
  (first | subst eo86 | (injection eo86 with f1_ f2_ f3_; have f4_ := f1_.symm; have f5_ := f3_.symm; clear f1_ f2_ f3_; subst f4_; subst f5_))
  obtain ⟨Ao87, co87, eo87⟩ := Kd.R_slice HO339.out
  (first | subst eo87 | (injection eo87 with f1_ f2_ f3_; have f4_ := f1_.symm; have f5_ := f3_.symm; clear f1_ f2_ f3_; subst f4_; subst f5_))
  obtain ⟨Ao88, co88, eo88⟩ := Kd.S_slice HO344.out
  (first | subst eo88 | (injection eo88 with f1_ f2_ f3_; have f4_ := f1_.symm; have f5_ := f3_.symm; clear f1_ f2_ f3_; subst f4_; subst f5_))
  obtain ⟨Ao89, co89, eo89⟩ := Kd.S_slice HO347.out
  (first | subst eo89 | (injection eo89 with f1_ f2_ f3_; have f4_ := f1_.symm; have f5_ := f3_.symm; clear f1_ f2_ f3_; subst f4_; subst f5_))
  obtain ⟨Ao90, co90, eo90⟩ := Kd.R_slice HO350.out
  (first | subst eo90 | (injection eo90 with f1_ f2_ f3_; have f4_ := f1_.symm; have f5_ := f3_.symm; clear f1_ f2_ f3_; subst f4_; subst f5_))
  obtain ⟨Ao91, co91, eo91⟩ := Kd.R_slice HO353.out
  (first | subst eo91 | (injection eo91 with f1_ f2_ f3_; have f4_ := f1_.symm; have f5_ := f3_.symm; clear f1_ f2_ f3_; subst f4_; subst f5_))
  refine hK.out _ _ ⟨bc BK323.out 0, bc BK323.out 1, bc BK323.out 2, bc BK323.out 3, bc BK323.out 4, bc BK323.out 5, bc BK324.out 0, bc BK324.out 1, bc BK324.out 2, bc BK324.out 3, bc BK324.out 4, bc BK324.out 5⟩ (fun hHeld => ?_)
  clear hK K
  refine norm_ (a' := ?_) ?_ ?_
  rotate_left
  ·show Act.put _ (some 23) _ = _
   simp only [pA, pS, pZ, pK, i64_w, i32_w]
   rfl
  refine one_ (i := 4) (N := some 24) (bs 31 6) rfl rfl (by kernel_rfl) (by decide) (fun K hK => ?_)
  refine goes_ Try.func47 (by kernel_rfl) rfl #[.agg #[.bool t327, .slice Ao84 t328.length co84, .slice Ao85 t331.length co85, .slice Ao86 t334.length co86, .slice Ao87 t337.length co87, .int .i64 t340], .agg #[.bool t341, .slice Ao88 t342.length co88, .slice Ao89 t345.length co89, .slice Ao90 t348.length co90, .slice Ao91 t351.length co91, .int .i64 t354]] (by rfl) rfl rfl (by (try simp only [List.map_toArray, List.map_cons, List.map_nil]); first | done | rfl | (simp only [List.length_drop, List.length_take]; rfl)) ?_
  with_reducible refine (spec_EqualEngines.calls k t327 _ _ t328 _ _ t331 _ _ t334 _ _ t337 t340 t341 _ _ t342 _ _ t345 _ _ t348 _ _ t351 t354 t355 _ ?side1 ?side2 ?side3 ?side4 ?side5 ?side6 ?side7 ?side8 ?side9 ?side10 ?side11 ?side12 ?side13 ?side14 ?side15 ?side16 A21.out).mono ?_
  (case side1 => exact Kd.C_below (Kd.S_reads' HO330.out).2.2 (BL (Below.refl _ _) rfl rfl rfl rfl))
  (case side2 => exact (Kd.S_reads' HO330.out).2.1)
  (case side3 => exact Kd.C_below (Kd.S_reads' HO333.out).2.2 (BL (Below.refl _ _) rfl rfl rfl rfl))
  (case side4 => exact (Kd.S_reads' HO333.out).2.1)
  (case side5 => exact Kd.C_below (Kd.R_reads' HO336.out).2.2 (BL (Below.refl _ _) rfl rfl rfl rfl))
  (case side6 => exact (Kd.R_reads' HO336.out).2.1)
  (case side7 => exact Kd.C_below (Kd.R_reads' HO339.out).2.2 (BL (Below.refl _ _) rfl rfl rfl rfl))
  (case side8 => exact (Kd.R_reads' HO339.out).2.1)
  (case side9 => exact Kd.C_below (Kd.S_reads' HO344.out).2.2 (BL (Below.refl _ _) rfl rfl rfl rfl))
  (case side10 => exact (Kd.S_reads' HO344.out).2.1)
  (case side11 => exact Kd.C_below (Kd.S_reads' HO347.out).2.2 (BL (Below.refl _ _) rfl rfl rfl rfl))
  (case side12 => exact (Kd.S_reads' HO347.out).2.1)
  (case side13 => exact Kd.C_below (Kd.R_reads' HO350.out).2.2 (BL (Below.refl _ _) rfl rfl rfl rfl))
  (case side14 => exact (Kd.R_reads' HO350.out).2.1)
  (case side15 => exact Kd.C_below (Kd.R_reads' HO353.out).2.2 (BL (Below.refl _ _) rfl rfl rfl rfl))
  (case side16 => exact (Kd.R_reads' HO353.out).2.1)
  rintro e w92 ⟨rfl, hb⟩
  refine ⟨_, rfl, ?_⟩
  replace HO330 := AM_ (Kd.S_below (ST HO330.out) hb)
  replace HO333 := AM_ (Kd.S_below (ST HO333.out) hb)
  replace HO336 := AM_ (Kd.R_below (RT HO336.out) hb)
  replace HO339 := AM_ (Kd.R_below (RT HO339.out) hb)
  replace HO344 := AM_ (Kd.S_below (ST HO344.out) hb)
  replace HO347 := AM_ (Kd.S_below (ST HO347.out) hb)
  replace HO350 := AM_ (Kd.R_below (RT HO350.out) hb)
  replace HO353 := AM_ (Kd.R_below (RT HO353.out) hb)
  replace BK323 := AM_ (BB BK323.out hb)
  replace BK324 := AM_ (BB BK324.out hb)
  replace HB := AM_ (below_step (BT HB.out) hb)
  (try clear hb)
  (try clear hb2)
  (try clear hk)
  (try clear hi)
  refine hK.out _ _ ⟨bc BK323.out 0, bc BK323.out 1, bc BK323.out 2, bc BK323.out 3, bc BK323.out 4, bc BK323.out 5, bc BK324.out 0, bc BK324.out 1, bc BK324.out 2, bc BK324.out 3, bc BK324.out 4, bc BK324.out 5⟩ (fun hHeld => ?_)
  clear hK K
  refine norm_ (a' := ?_) ?_ ?_
  rotate_left
  ·show Act.put _ (some 24) _ = _
   simp only [pA, pS, pZ, pK, i64_w, i32_w]
   rfl
  refine pure_ (i := 5) (N := some 6) (v := ?_) (a' := ?_) (bs 63 6) rfl rfl (by kernel_rfl) (fun _ _ _ h => h) (Or.inl ⟨by rfl, ?_⟩) ?_ ?_
  rotate_left
  ·intro w'
   go_simp
   with_reducible rfl
  rotate_left
  ·simp only [pA, pS, pZ, pK, i64_w, i32_w]
   rfl
  refine done_ (by kernel_rfl) ?_
  obtain ⟨hcz93_0, hcz93_1, hcz93_2, hcz93_3, hcz93_4, hcz93_5, hfz93_0, hfz93_1, hfz93_2, hfz93_3, hfz93_4, hfz93_5⟩ := bk6 BK323.out
  try go_wp2_with (first | ((with_reducible refine gate_callee (f := 29) rfl ?_); refine goesL_ (some 26) rfl rfl Try.func29 (by kernel_rfl) rfl #[.agg #[.bool a0_0, .slice A0_1 l0_1.length c0_1, .slice A0_2 l0_2.length c0_2, .slice A0_3 l0_3.length c0_3, .slice A0_4 l0_4.length c0_4, .int .i64 a0_5]] rfl (by (try simp only [List.map_toArray, List.map_cons, List.map_nil]); first | done | rfl | (simp only [List.length_drop, List.length_take]; rfl)) ?_; (with_reducible refine (laws_toEngine.calls k a0_0 _ _ l0_1 _ _ l0_2 _ _ l0_3 _ _ l0_4 a0_5 t356 t357 t360 t363 t366 t369 _ ?side1 ?side2 ?side3 ?side4 ?side5 ?side6 ?side7 ?side8 A22.out).mono ?_); (case side1 => exact CB HR0_1.out HB.out); (case side2 => exact HC0_1.out); (case side3 => exact CB HR0_2.out HB.out); (case side4 => exact HC0_2.out); (case side5 => exact CB HR0_3.out HB.out); (case side6 => exact HC0_3.out); (case side7 => exact CB HR0_4.out HB.out); (case side8 => exact HC0_4.out); rintro e w94 ⟨v358, v361, v364, v367, rfl, ho0, ho1, ho2, ho3, hb⟩; refine ⟨_, rfl, ?_⟩; have HO359 := AM_ (Kd.S_lower (Kd.S_new' (Kd.S_new' ho0 (Kd.S_lt (ST HO330.out))) (Kd.S_lt (ST HO344.out))) (below_size (BT HB.out))); replace HO330 := AM_ (Kd.S_elder' (ST HO330.out) (Kd.S_base ho0) hb); replace HO344 := AM_ (Kd.S_elder' (ST HO344.out) (Kd.S_base ho0) hb); have HO362 := AM_ (Kd.S_lower (Kd.S_new' (Kd.S_new' ho1 (Kd.S_lt (ST HO333.out))) (Kd.S_lt (ST HO347.out))) (below_size (BT HB.out))); replace HO333 := AM_ (Kd.S_elder' (ST HO333.out) (Kd.S_base ho1) hb); replace HO347 := AM_ (Kd.S_elder' (ST HO347.out) (Kd.S_base ho1) hb); have HO365 := AM_ (Kd.R_lower (Kd.R_new' (Kd.R_new' ho2 (Kd.R_lt (RT HO336.out))) (Kd.R_lt (RT HO350.out))) (below_size (BT HB.out))); replace HO336 := AM_ (Kd.R_elder' (RT HO336.out) (Kd.R_base ho2) hb); replace HO350 := AM_ (Kd.R_elder' (RT HO350.out) (Kd.R_base ho2) hb); have HO368 := AM_ (Kd.R_lower (Kd.R_new' (Kd.R_new' ho3 (Kd.R_lt (RT HO339.out))) (Kd.R_lt (RT HO353.out))) (below_size (BT HB.out))); replace HO339 := AM_ (Kd.R_elder' (RT HO339.out) (Kd.R_base ho3) hb); replace HO353 := AM_ (Kd.R_elder' (RT HO353.out) (Kd.R_base ho3) hb); replace BK323 := AM_ (BB BK323.out hb); replace BK324 := AM_ (BB BK324.out hb); replace HB := AM_ (below_step (BT HB.out) hb); (try clear hb); (try clear hb2); (try clear hk); (try clear hi); (try clear ho0); (try clear ho1); (try clear ho2); (try clear ho3)) | ((with_reducible refine gate_dst (N := 7) rfl ?_); refine box_event ?hg (N := 7) ?hd (cs := #[.bool false, .slice none 0 0, .slice none 0 0, .slice none 0 0, .slice none 0 0, .int .i64 0]) (t := 53) ?hr ?_; (case hd => rfl); (case hg => rfl); (case hr => first | (go_simp; done) | (go_simp; rfl)); intro gb370 hg w95 hbox hb; replace HO330 := AM_ (Kd.S_below (ST HO330.out) hb); replace HO333 := AM_ (Kd.S_below (ST HO333.out) hb); replace HO336 := AM_ (Kd.R_below (RT HO336.out) hb); replace HO339 := AM_ (Kd.R_below (RT HO339.out) hb); replace HO344 := AM_ (Kd.S_below (ST HO344.out) hb); replace HO347 := AM_ (Kd.S_below (ST HO347.out) hb); replace HO350 := AM_ (Kd.R_below (RT HO350.out) hb); replace HO353 := AM_ (Kd.R_below (RT HO353.out) hb); replace HO359 := AM_ (Kd.S_below (ST HO359.out) hb); replace HO362 := AM_ (Kd.S_below (ST HO362.out) hb); replace HO365 := AM_ (Kd.R_below (RT HO365.out) hb); replace HO368 := AM_ (Kd.R_below (RT HO368.out) hb); have BK370 := AM_ (hbox); have GW370 := AM_ ((GS HB.out hg)); have GE370 := AM_ ((GS HB.out hg)); replace HB := AM_ (below_step (BT HB.out) hb); have NB323_370 := AM_ ((NL BK323.out hg)); have NB370_323 := AM_ ((NG BK323.out hg)); replace BK323 := AM_ (BB BK323.out hb); have NB324_370 := AM_ ((NL BK324.out hg)); have NB370_324 := AM_ ((NG BK324.out hg)); replace BK324 := AM_ (BB BK324.out hb); clear hb hbox hg; have hnb96 := NB370_323.out; have hnc96 := NB323_370.out; have hnb97 := NB370_324.out; have hnc97 := NB324_370.out; obtain ⟨hcz98_0, hcz98_1, hcz98_2, hcz98_3, hcz98_4, hcz98_5, hfz98_0, hfz98_1, hfz98_2, hfz98_3, hfz98_4, hfz98_5⟩ := bk6 BK370.out; obtain ⟨Ao99, co99, eo99⟩ := Kd.S_slice HO359.out; subst eo99; obtain ⟨Ao100, co100, eo100⟩ := Kd.S_slice HO362.out; subst eo100; obtain ⟨Ao101, co101, eo101⟩ := Kd.R_slice HO365.out; subst eo101; obtain ⟨Ao102, co102, eo102⟩ := Kd.R_slice HO368.out; subst eo102; obtain ⟨hcz103_0, hcz103_1, hcz103_2, hcz103_3, hcz103_4, hcz103_5, hfz103_0, hfz103_1, hfz103_2, hfz103_3, hfz103_4, hfz103_5⟩ := bk6 BK324.out) | ((with_reducible refine gate_callee (f := 29) rfl ?_); refine goesL_ (some 28) rfl rfl Try.func29 (by kernel_rfl) rfl #[.agg #[.bool a1_0, .slice A1_1 l1_1.length c1_1, .slice A1_2 l1_2.length c1_2, .slice A1_3 l1_3.length c1_3, .slice A1_4 l1_4.length c1_4, .int .i64 a1_5]] rfl (by (try simp only [List.map_toArray, List.map_cons, List.map_nil]); first | done | rfl | (simp only [List.length_drop, List.length_take]; rfl)) ?_; (with_reducible refine (laws_toEngine.calls k a1_0 _ _ l1_1 _ _ l1_2 _ _ l1_3 _ _ l1_4 a1_5 t371 t372 t375 t378 t381 t384 _ ?side1 ?side2 ?side3 ?side4 ?side5 ?side6 ?side7 ?side8 A23.out).mono ?_); (case side1 => exact Kd.C_below HR1_1.out (BT HB.out)); (case side2 => exact HC1_1.out); (case side3 => exact Kd.C_below HR1_2.out (BT HB.out)); (case side4 => exact HC1_2.out); (case side5 => exact Kd.C_below HR1_3.out (BT HB.out)); (case side6 => exact HC1_3.out); (case side7 => exact Kd.C_below HR1_4.out (BT HB.out)); (case side8 => exact HC1_4.out); rintro e w104 ⟨v373, v376, v379, v382, rfl, ho0, ho1, ho2, ho3, hb⟩; refine ⟨_, rfl, ?_⟩; have HO374 := AM_ (Kd.S_lower (Kd.S_new' (Kd.S_new' (Kd.S_new' ho0 (Kd.S_lt (SF2 HO330.out BK370.out))) (Kd.S_lt (SF2 HO344.out BK370.out))) (Kd.S_lt (SF2 HO359.out BK370.out))) (below_size (BT HB.out))); replace HO330 := AM_ (Kd.S_elder' (SF2 HO330.out BK370.out) (Kd.S_base ho0) hb); replace HO344 := AM_ (Kd.S_elder' (SF2 HO344.out BK370.out) (Kd.S_base ho0) hb); replace HO359 := AM_ (Kd.S_elder' (SF2 HO359.out BK370.out) (Kd.S_base ho0) hb); have HO377 := AM_ (Kd.S_lower (Kd.S_new' (Kd.S_new' (Kd.S_new' ho1 (Kd.S_lt (SF2 HO333.out BK370.out))) (Kd.S_lt (SF2 HO347.out BK370.out))) (Kd.S_lt (SF2 HO362.out BK370.out))) (below_size (BT HB.out))); replace HO333 := AM_ (Kd.S_elder' (SF2 HO333.out BK370.out) (Kd.S_base ho1) hb); replace HO347 := AM_ (Kd.S_elder' (SF2 HO347.out BK370.out) (Kd.S_base ho1) hb); replace HO362 := AM_ (Kd.S_elder' (SF2 HO362.out BK370.out) (Kd.S_base ho1) hb); have HO380 := AM_ (Kd.R_lower (Kd.R_new' (Kd.R_new' (Kd.R_new' ho2 (Kd.R_lt (RF2 HO336.out BK370.out))) (Kd.R_lt (RF2 HO350.out BK370.out))) (Kd.R_lt (RF2 HO365.out BK370.out))) (below_size (BT HB.out))); replace HO336 := AM_ (Kd.R_elder' (RF2 HO336.out BK370.out) (Kd.R_base ho2) hb); replace HO350 := AM_ (Kd.R_elder' (RF2 HO350.out BK370.out) (Kd.R_base ho2) hb); replace HO365 := AM_ (Kd.R_elder' (RF2 HO365.out BK370.out) (Kd.R_base ho2) hb); have HO383 := AM_ (Kd.R_lower (Kd.R_new' (Kd.R_new' (Kd.R_new' ho3 (Kd.R_lt (RF2 HO339.out BK370.out))) (Kd.R_lt (RF2 HO353.out BK370.out))) (Kd.R_lt (RF2 HO368.out BK370.out))) (below_size (BT HB.out))); replace HO339 := AM_ (Kd.R_elder' (RF2 HO339.out BK370.out) (Kd.R_base ho3) hb); replace HO353 := AM_ (Kd.R_elder' (RF2 HO353.out BK370.out) (Kd.R_base ho3) hb); replace HO368 := AM_ (Kd.R_elder' (RF2 HO368.out BK370.out) (Kd.R_base ho3) hb); replace BK323 := AM_ (blk_below (g := gb323) (o := .cells #[.bool a0_0, .slice A0_1 l0_1.length c0_1, .slice A0_2 l0_2.length c0_2, .slice A0_3 l0_3.length c0_3, .slice A0_4 l0_4.length c0_4, .int .i64 a0_5] 44 (0, 0)) (by (with_reducible repeat (first | refine blk_drewN ?_ _ | refine blk_drew ?_ | refine blk_alloc ?_ _)); refine blk_far ?_ NB323_370.out _; (with_reducible repeat (first | refine blk_drewN ?_ _ | refine blk_drew ?_ | refine blk_alloc ?_ _)); refine blk_far ?_ NB323_370.out _; (with_reducible repeat (first | refine blk_drewN ?_ _ | refine blk_drew ?_ | refine blk_alloc ?_ _)); refine blk_far ?_ NB323_370.out _; (with_reducible repeat (first | refine blk_drewN ?_ _ | refine blk_drew ?_ | refine blk_alloc ?_ _)); refine blk_far ?_ NB323_370.out _; (with_reducible repeat (first | refine blk_drewN ?_ _ | refine blk_drew ?_ | refine blk_alloc ?_ _)); refine blk_far ?_ NB323_370.out _; (with_reducible repeat (first | refine blk_drewN ?_ _ | refine blk_drew ?_ | refine blk_alloc ?_ _)); refine blk_far ?_ NB323_370.out _; (with_reducible repeat (first | refine blk_drewN ?_ _ | refine blk_drew ?_ | refine blk_alloc ?_ _)); exact BK323.out) hb); replace BK324 := AM_ (blk_below (g := gb324) (o := .cells #[.bool a1_0, .slice A1_1 l1_1.length c1_1, .slice A1_2 l1_2.length c1_2, .slice A1_3 l1_3.length c1_3, .slice A1_4 l1_4.length c1_4, .int .i64 a1_5] 44 (0, 0)) (by (with_reducible repeat (first | refine blk_drewN ?_ _ | refine blk_drew ?_ | refine blk_alloc ?_ _)); refine blk_far ?_ NB324_370.out _; (with_reducible repeat (first | refine blk_drewN ?_ _ | refine blk_drew ?_ | refine blk_alloc ?_ _)); refine blk_far ?_ NB324_370.out _; (with_reducible repeat (first | refine blk_drewN ?_ _ | refine blk_drew ?_ | refine blk_alloc ?_ _)); refine blk_far ?_ NB324_370.out _; (with_reducible repeat (first | refine blk_drewN ?_ _ | refine blk_drew ?_ | refine blk_alloc ?_ _)); refine blk_far ?_ NB324_370.out _; (with_reducible repeat (first | refine blk_drewN ?_ _ | refine blk_drew ?_ | refine blk_alloc ?_ _)); refine blk_far ?_ NB324_370.out _; (with_reducible repeat (first | refine blk_drewN ?_ _ | refine blk_drew ?_ | refine blk_alloc ?_ _)); refine blk_far ?_ NB324_370.out _; (with_reducible repeat (first | refine blk_drewN ?_ _ | refine blk_drew ?_ | refine blk_alloc ?_ _)); exact BK324.out) hb); replace BK370 := AM_ (blk_below (g := gb370) (o := .cells #[.bool t356, .slice Ao99 t357.length co99, .slice Ao100 t360.length co100, .slice Ao101 t363.length co101, .slice Ao102 t366.length co102, .int .i64 t369] 53 (0, 0)) (by (with_reducible repeat (first | refine blk_drewN ?_ _ | refine blk_drew ?_ | refine blk_alloc ?_ _)); refine blk_put (cs := #[.bool t356, .slice Ao99 t357.length co99, .slice Ao100 t360.length co100, .slice Ao101 t363.length co101, .slice Ao102 t366.length co102, .int .i64 0]) ?_ 5 _ rfl; (with_reducible repeat (first | refine blk_drewN ?_ _ | refine blk_drew ?_ | refine blk_alloc ?_ _)); refine blk_put (cs := #[.bool t356, .slice Ao99 t357.length co99, .slice Ao100 t360.length co100, .slice Ao101 t363.length co101, .slice none 0 0, .int .i64 0]) ?_ 4 _ rfl; (with_reducible repeat (first | refine blk_drewN ?_ _ | refine blk_drew ?_ | refine blk_alloc ?_ _)); refine blk_put (cs := #[.bool t356, .slice Ao99 t357.length co99, .slice Ao100 t360.length co100, .slice none 0 0, .slice none 0 0, .int .i64 0]) ?_ 3 _ rfl; (with_reducible repeat (first | refine blk_drewN ?_ _ | refine blk_drew ?_ | refine blk_alloc ?_ _)); refine blk_put (cs := #[.bool t356, .slice Ao99 t357.length co99, .slice none 0 0, .slice none 0 0, .slice none 0 0, .int .i64 0]) ?_ 2 _ rfl; (with_reducible repeat (first | refine blk_drewN ?_ _ | refine blk_drew ?_ | refine blk_alloc ?_ _)); refine blk_put (cs := #[.bool t356, .slice none 0 0, .slice none 0 0, .slice none 0 0, .slice none 0 0, .int .i64 0]) ?_ 1 _ rfl; (with_reducible repeat (first | refine blk_drewN ?_ _ | refine blk_drew ?_ | refine blk_alloc ?_ _)); refine blk_put (cs := #[.bool false, .slice none 0 0, .slice none 0 0, .slice none 0 0, .slice none 0 0, .int .i64 0]) ?_ 0 _ rfl; (with_reducible repeat (first | refine blk_drewN ?_ _ | refine blk_drew ?_ | refine blk_alloc ?_ _)); exact BK370.out) hb); replace HB := AM_ (below_step (BT HB.out) hb); (try clear hb); (try clear hb2); (try clear hk); (try clear hi); (try clear ho0); (try clear ho1); (try clear ho2); (try clear ho3)) | ((with_reducible refine gate_dst (N := 8) rfl ?_); refine box_event ?hg (N := 8) ?hd (cs := #[.bool false, .slice none 0 0, .slice none 0 0, .slice none 0 0, .slice none 0 0, .int .i64 0]) (t := 53) ?hr ?_; (case hd => rfl); (case hg => rfl); (case hr => first | (go_simp; done) | (go_simp; rfl)); intro gb385 hg w105 hbox hb; replace HO330 := AM_ (Kd.S_below (ST HO330.out) hb); replace HO333 := AM_ (Kd.S_below (ST HO333.out) hb); replace HO336 := AM_ (Kd.R_below (RT HO336.out) hb); replace HO339 := AM_ (Kd.R_below (RT HO339.out) hb); replace HO344 := AM_ (Kd.S_below (ST HO344.out) hb); replace HO347 := AM_ (Kd.S_below (ST HO347.out) hb); replace HO350 := AM_ (Kd.R_below (RT HO350.out) hb); replace HO353 := AM_ (Kd.R_below (RT HO353.out) hb); replace HO359 := AM_ (Kd.S_below (ST HO359.out) hb); replace HO362 := AM_ (Kd.S_below (ST HO362.out) hb); replace HO365 := AM_ (Kd.R_below (RT HO365.out) hb); replace HO368 := AM_ (Kd.R_below (RT HO368.out) hb); replace HO374 := AM_ (Kd.S_below (ST HO374.out) hb); replace HO377 := AM_ (Kd.S_below (ST HO377.out) hb); replace HO380 := AM_ (Kd.R_below (RT HO380.out) hb); replace HO383 := AM_ (Kd.R_below (RT HO383.out) hb); have BK385 := AM_ (hbox); have GW385 := AM_ ((GS HB.out hg)); have GE385 := AM_ ((GS HB.out hg)); replace HB := AM_ (below_step (BT HB.out) hb); have NB323_385 := AM_ ((NL BK323.out hg)); have NB385_323 := AM_ ((NG BK323.out hg)); replace BK323 := AM_ (BB BK323.out hb); have NB324_385 := AM_ ((NL BK324.out hg)); have NB385_324 := AM_ ((NG BK324.out hg)); replace BK324 := AM_ (BB BK324.out hb); have NB370_385 := AM_ ((NL BK370.out hg)); have NB385_370 := AM_ ((NG BK370.out hg)); replace BK370 := AM_ (BB BK370.out hb); clear hb hbox hg; have hnb106 := NB385_323.out; have hnc106 := NB323_385.out; have hnb107 := NB385_324.out; have hnc107 := NB324_385.out; have hnb108 := NB385_370.out; have hnc108 := NB370_385.out; obtain ⟨hcz109_0, hcz109_1, hcz109_2, hcz109_3, hcz109_4, hcz109_5, hfz109_0, hfz109_1, hfz109_2, hfz109_3, hfz109_4, hfz109_5⟩ := bk6 BK385.out; obtain ⟨Ao110, co110, eo110⟩ := Kd.S_slice HO374.out; subst eo110; obtain ⟨Ao111, co111, eo111⟩ := Kd.S_slice HO377.out; subst eo111; obtain ⟨Ao112, co112, eo112⟩ := Kd.R_slice HO380.out; subst eo112; obtain ⟨Ao113, co113, eo113⟩ := Kd.R_slice HO383.out; subst eo113; obtain ⟨hcz114_0, hcz114_1, hcz114_2, hcz114_3, hcz114_4, hcz114_5, hfz114_0, hfz114_1, hfz114_2, hfz114_3, hfz114_4, hfz114_5⟩ := bk6 BK370.out) | ((with_reducible refine gate_callee (f := 48) rfl ?_); refine goesL_ (some 31) rfl rfl Try.func48 (by kernel_rfl) rfl #[.agg #[.bool t356, .slice Ao99 t357.length co99, .slice Ao100 t360.length co100, .slice Ao101 t363.length co101, .slice Ao102 t366.length co102, .int .i64 t369], .agg #[.bool t371, .slice Ao110 t372.length co110, .slice Ao111 t375.length co111, .slice Ao112 t378.length co112, .slice Ao113 t381.length co113, .int .i64 t384]] rfl (by (try simp only [List.map_toArray, List.map_cons, List.map_nil]); first | done | rfl | (simp only [List.length_drop, List.length_take]; rfl)) ?_; (with_reducible refine (impl_EqualEngines.calls k t356 _ _ t357 _ _ t360 _ _ t363 _ _ t366 t369 t371 _ _ t372 _ _ t375 _ _ t378 _ _ t381 t384 t386 _ ?side1 ?side2 ?side3 ?side4 ?side5 ?side6 ?side7 ?side8 ?side9 ?side10 ?side11 ?side12 ?side13 ?side14 ?side15 ?side16 A24.out).mono ?_); (case side1 => exact CG2 HO359.out BK385.out); (case side2 => exact (Kd.S_reads' HO359.out).2.1); (case side3 => exact CG2 HO362.out BK385.out); (case side4 => exact (Kd.S_reads' HO362.out).2.1); (case side5 => exact CF2 HO365.out BK385.out); (case side6 => exact (Kd.R_reads' HO365.out).2.1); (case side7 => exact CF2 HO368.out BK385.out); (case side8 => exact (Kd.R_reads' HO368.out).2.1); (case side9 => exact CG2 HO374.out BK385.out); (case side10 => exact (Kd.S_reads' HO374.out).2.1); (case side11 => exact CG2 HO377.out BK385.out); (case side12 => exact (Kd.S_reads' HO377.out).2.1); (case side13 => exact CF2 HO380.out BK385.out); (case side14 => exact (Kd.R_reads' HO380.out).2.1); (case side15 => exact CF2 HO383.out BK385.out); (case side16 => exact (Kd.R_reads' HO383.out).2.1); rintro e w115 ⟨rfl, hb⟩; refine ⟨_, rfl, ?_⟩; replace HO330 := AM_ (Kd.S_below (SF2 HO330.out BK385.out) hb); replace HO333 := AM_ (Kd.S_below (SF2 HO333.out BK385.out) hb); replace HO336 := AM_ (Kd.R_below (RF2 HO336.out BK385.out) hb); replace HO339 := AM_ (Kd.R_below (RF2 HO339.out BK385.out) hb); replace HO344 := AM_ (Kd.S_below (SF2 HO344.out BK385.out) hb); replace HO347 := AM_ (Kd.S_below (SF2 HO347.out BK385.out) hb); replace HO350 := AM_ (Kd.R_below (RF2 HO350.out BK385.out) hb); replace HO353 := AM_ (Kd.R_below (RF2 HO353.out BK385.out) hb); replace HO359 := AM_ (Kd.S_below (SF2 HO359.out BK385.out) hb); replace HO362 := AM_ (Kd.S_below (SF2 HO362.out BK385.out) hb); replace HO365 := AM_ (Kd.R_below (RF2 HO365.out BK385.out) hb); replace HO368 := AM_ (Kd.R_below (RF2 HO368.out BK385.out) hb); replace HO374 := AM_ (Kd.S_below (SF2 HO374.out BK385.out) hb); replace HO377 := AM_ (Kd.S_below (SF2 HO377.out BK385.out) hb); replace HO380 := AM_ (Kd.R_below (RF2 HO380.out BK385.out) hb); replace HO383 := AM_ (Kd.R_below (RF2 HO383.out BK385.out) hb); replace BK323 := AM_ (blk_below (g := gb323) (o := .cells #[.bool a0_0, .slice A0_1 l0_1.length c0_1, .slice A0_2 l0_2.length c0_2, .slice A0_3 l0_3.length c0_3, .slice A0_4 l0_4.length c0_4, .int .i64 a0_5] 44 (0, 0)) (by (with_reducible repeat (first | refine blk_drewN ?_ _ | refine blk_drew ?_ | refine blk_alloc ?_ _)); refine blk_far ?_ NB323_385.out _; (with_reducible repeat (first | refine blk_drewN ?_ _ | refine blk_drew ?_ | refine blk_alloc ?_ _)); refine blk_far ?_ NB323_385.out _; (with_reducible repeat (first | refine blk_drewN ?_ _ | refine blk_drew ?_ | refine blk_alloc ?_ _)); refine blk_far ?_ NB323_385.out _; (with_reducible repeat (first | refine blk_drewN ?_ _ | refine blk_drew ?_ | refine blk_alloc ?_ _)); refine blk_far ?_ NB323_385.out _; (with_reducible repeat (first | refine blk_drewN ?_ _ | refine blk_drew ?_ | refine blk_alloc ?_ _)); refine blk_far ?_ NB323_385.out _; (with_reducible repeat (first | refine blk_drewN ?_ _ | refine blk_drew ?_ | refine blk_alloc ?_ _)); refine blk_far ?_ NB323_385.out _; (with_reducible repeat (first | refine blk_drewN ?_ _ | refine blk_drew ?_ | refine blk_alloc ?_ _)); exact BK323.out) hb); replace BK324 := AM_ (blk_below (g := gb324) (o := .cells #[.bool a1_0, .slice A1_1 l1_1.length c1_1, .slice A1_2 l1_2.length c1_2, .slice A1_3 l1_3.length c1_3, .slice A1_4 l1_4.length c1_4, .int .i64 a1_5] 44 (0, 0)) (by (with_reducible repeat (first | refine blk_drewN ?_ _ | refine blk_drew ?_ | refine blk_alloc ?_ _)); refine blk_far ?_ NB324_385.out _; (with_reducible repeat (first | refine blk_drewN ?_ _ | refine blk_drew ?_ | refine blk_alloc ?_ _)); refine blk_far ?_ NB324_385.out _; (with_reducible repeat (first | refine blk_drewN ?_ _ | refine blk_drew ?_ | refine blk_alloc ?_ _)); refine blk_far ?_ NB324_385.out _; (with_reducible repeat (first | refine blk_drewN ?_ _ | refine blk_drew ?_ | refine blk_alloc ?_ _)); refine blk_far ?_ NB324_385.out _; (with_reducible repeat (first | refine blk_drewN ?_ _ | refine blk_drew ?_ | refine blk_alloc ?_ _)); refine blk_far ?_ NB324_385.out _; (with_reducible repeat (first | refine blk_drewN ?_ _ | refine blk_drew ?_ | refine blk_alloc ?_ _)); refine blk_far ?_ NB324_385.out _; (with_reducible repeat (first | refine blk_drewN ?_ _ | refine blk_drew ?_ | refine blk_alloc ?_ _)); exact BK324.out) hb); replace BK370 := AM_ (blk_below (g := gb370) (o := .cells #[.bool t356, .slice Ao99 t357.length co99, .slice Ao100 t360.length co100, .slice Ao101 t363.length co101, .slice Ao102 t366.length co102, .int .i64 t369] 53 (0, 0)) (by (with_reducible repeat (first | refine blk_drewN ?_ _ | refine blk_drew ?_ | refine blk_alloc ?_ _)); refine blk_far ?_ NB370_385.out _; (with_reducible repeat (first | refine blk_drewN ?_ _ | refine blk_drew ?_ | refine blk_alloc ?_ _)); refine blk_far ?_ NB370_385.out _; (with_reducible repeat (first | refine blk_drewN ?_ _ | refine blk_drew ?_ | refine blk_alloc ?_ _)); refine blk_far ?_ NB370_385.out _; (with_reducible repeat (first | refine blk_drewN ?_ _ | refine blk_drew ?_ | refine blk_alloc ?_ _)); refine blk_far ?_ NB370_385.out _; (with_reducible repeat (first | refine blk_drewN ?_ _ | refine blk_drew ?_ | refine blk_alloc ?_ _)); refine blk_far ?_ NB370_385.out _; (with_reducible repeat (first | refine blk_drewN ?_ _ | refine blk_drew ?_ | refine blk_alloc ?_ _)); refine blk_far ?_ NB370_385.out _; (with_reducible repeat (first | refine blk_drewN ?_ _ | refine blk_drew ?_ | refine blk_alloc ?_ _)); exact BK370.out) hb); replace BK385 := AM_ (blk_below (g := gb385) (o := .cells #[.bool t371, .slice Ao110 t372.length co110, .slice Ao111 t375.length co111, .slice Ao112 t378.length co112, .slice Ao113 t381.length co113, .int .i64 t384] 53 (0, 0)) (by (with_reducible repeat (first | refine blk_drewN ?_ _ | refine blk_drew ?_ | refine blk_alloc ?_ _)); refine blk_put (cs := #[.bool t371, .slice Ao110 t372.length co110, .slice Ao111 t375.length co111, .slice Ao112 t378.length co112, .slice Ao113 t381.length co113, .int .i64 0]) ?_ 5 _ rfl; (with_reducible repeat (first | refine blk_drewN ?_ _ | refine blk_drew ?_ | refine blk_alloc ?_ _)); refine blk_put (cs := #[.bool t371, .slice Ao110 t372.length co110, .slice Ao111 t375.length co111, .slice Ao112 t378.length co112, .slice none 0 0, .int .i64 0]) ?_ 4 _ rfl; (with_reducible repeat (first | refine blk_drewN ?_ _ | refine blk_drew ?_ | refine blk_alloc ?_ _)); refine blk_put (cs := #[.bool t371, .slice Ao110 t372.length co110, .slice Ao111 t375.length co111, .slice none 0 0, .slice none 0 0, .int .i64 0]) ?_ 3 _ rfl; (with_reducible repeat (first | refine blk_drewN ?_ _ | refine blk_drew ?_ | refine blk_alloc ?_ _)); refine blk_put (cs := #[.bool t371, .slice Ao110 t372.length co110, .slice none 0 0, .slice none 0 0, .slice none 0 0, .int .i64 0]) ?_ 2 _ rfl; (with_reducible repeat (first | refine blk_drewN ?_ _ | refine blk_drew ?_ | refine blk_alloc ?_ _)); refine blk_put (cs := #[.bool t371, .slice none 0 0, .slice none 0 0, .slice none 0 0, .slice none 0 0, .int .i64 0]) ?_ 1 _ rfl; (with_reducible repeat (first | refine blk_drewN ?_ _ | refine blk_drew ?_ | refine blk_alloc ?_ _)); refine blk_put (cs := #[.bool false, .slice none 0 0, .slice none 0 0, .slice none 0 0, .slice none 0 0, .int .i64 0]) ?_ 0 _ rfl; (with_reducible repeat (first | refine blk_drewN ?_ _ | refine blk_drew ?_ | refine blk_alloc ?_ _)); exact BK385.out) hb); replace HB := AM_ (below_step (BT HB.out) hb); (try clear hb); (try clear hb2); (try clear hk); (try clear hi)))
  replace HO330 := AM_ (Kd.S_drew HO330.out)
  replace HO333 := AM_ (Kd.S_drew HO333.out)
  replace HO336 := AM_ (Kd.R_drew HO336.out)
  replace HO339 := AM_ (Kd.R_drew HO339.out)
  replace HO344 := AM_ (Kd.S_drew HO344.out)
  replace HO347 := AM_ (Kd.S_drew HO347.out)
  replace HO350 := AM_ (Kd.R_drew HO350.out)
  replace HO353 := AM_ (Kd.R_drew HO353.out)
  replace HO359 := AM_ (Kd.S_drew HO359.out)
  replace HO362 := AM_ (Kd.S_drew HO362.out)
  replace HO365 := AM_ (Kd.R_drew HO365.out)
  replace HO368 := AM_ (Kd.R_drew HO368.out)
  replace HO374 := AM_ (Kd.S_drew HO374.out)
  replace HO377 := AM_ (Kd.S_drew HO377.out)
  replace HO380 := AM_ (Kd.R_drew HO380.out)
  replace HO383 := AM_ (Kd.R_drew HO383.out)
  replace BK323 := AM_ (blk_drew BK323.out)
  replace BK324 := AM_ (blk_drew BK324.out)
  replace BK370 := AM_ (blk_drew BK370.out)
  replace BK385 := AM_ (blk_drew BK385.out)
  replace HB := AM_ (below_drew1 HB.out)
  refine start_ (n := 5) (S := fun w' => w'.cell? ⟨gb370, 0, none⟩ = some (.bool t356) ∧ w'.cell? ⟨gb370, 1, none⟩ = some (.slice Ao99 t357.length co99) ∧ w'.cell? ⟨gb370, 2, none⟩ = some (.slice Ao100 t360.length co100) ∧ w'.cell? ⟨gb370, 3, none⟩ = some (.slice Ao101 t363.length co101) ∧ w'.cell? ⟨gb370, 4, none⟩ = some (.slice Ao102 t366.length co102) ∧ w'.cell? ⟨gb370, 5, none⟩ = some (.int .i64 t369) ∧ w'.cell? ⟨gb323, 0, none⟩ = some (.bool a0_0) ∧ w'.cell? ⟨gb323, 1, none⟩ = some (.slice A0_1 l0_1.length c0_1) ∧ w'.cell? ⟨gb323, 2, none⟩ = some (.slice A0_2 l0_2.length c0_2) ∧ w'.cell? ⟨gb323, 3, none⟩ = some (.slice A0_3 l0_3.length c0_3) ∧ w'.cell? ⟨gb323, 4, none⟩ = some (.slice A0_4 l0_4.length c0_4) ∧ w'.cell? ⟨gb323, 5, none⟩ = some (.int .i64 a0_5)) (ds := []) (bs 0 5) (by kernel_rfl) rfl rfl ⟨bc BK370.out 0, bc BK370.out 1, bc BK370.out 2, bc BK370.out 3, bc BK370.out 4, bc BK370.out 5, bc BK323.out 0, bc BK323.out 1, bc BK323.out 2, bc BK323.out 3, bc BK323.out 4, bc BK323.out 5⟩ (fun hHeld => ?_)
  generalize w115.drew = w116 at HO330 HO333 HO336 HO339 HO344 HO347 HO350 HO353 HO359 HO362 HO365 HO368 HO374 HO377 HO380 HO383 BK323 BK324 BK370 BK385 HB hHeld ⊢
  refine take_ (i := 0) (N := some 35) (v := ?_) (a' := ?_) (bs 1 5) rfl rfl (by kernel_rfl) (fun _ _ _ h => h) (Or.inl ⟨by rfl, ?_⟩) hHeld ?_ ?_
  rotate_left
  ·rintro w' ⟨s0, s1, s2, s3, s4, s5, s6, s7, s8, s9, s10, s11⟩
   go_simp
   with_reducible rfl
  rotate_left
  ·simp only [pA, pS, pZ, pK, i64_w, i32_w]
   rfl
  refine take_ (i := 1) (N := some 36) (v := ?_) (a' := ?_) (bs 3 5) rfl rfl (by kernel_rfl) (fun _ _ _ h => h) (Or.inl ⟨by rfl, ?_⟩) hHeld ?_ ?_
  rotate_left
  ·rintro w' ⟨s0, s1, s2, s3, s4, s5, s6, s7, s8, s9, s10, s11⟩
   go_simp
   with_reducible rfl
  rotate_left
  ·simp only [pA, pS, pZ, pK, i64_w, i32_w]
   rfl
  refine one_ (i := 2) (N := some 37) (bs 7 5) rfl rfl (by kernel_rfl) (by decide) (fun K hK => ?_)
  refine goes_ Try.func29 (by kernel_rfl) rfl #[.agg #[.bool a0_0, .slice A0_1 l0_1.length c0_1, .slice A0_2 l0_2.length c0_2, .slice A0_3 l0_3.length c0_3, .slice A0_4 l0_4.length c0_4, .int .i64 a0_5]] (by rfl) rfl rfl (by (try simp only [List.map_toArray, List.map_cons, List.map_nil]); first | done | rfl | (simp only [List.length_drop, List.length_take]; rfl)) ?_
  with_reducible refine (laws_toEngine.calls k a0_0 _ _ l0_1 _ _ l0_2 _ _ l0_3 _ _ l0_4 a0_5 t387 t388 t391 t394 t397 t400 _ ?side1 ?side2 ?side3 ?side4 ?side5 ?side6 ?side7 ?side8 A68.out).mono ?_
  (case side1 => exact CB HR0_1.out HB.out)
  (case side2 => exact HC0_1.out)
  (case side3 => exact CB HR0_2.out HB.out)
  (case side4 => exact HC0_2.out)
  (case side5 => exact CB HR0_3.out HB.out)
  (case side6 => exact HC0_3.out)
  (case side7 => exact CB HR0_4.out HB.out)
  (case side8 => exact HC0_4.out)
  rintro e w117 ⟨v389, v392, v395, v398, rfl, ho0, ho1, ho2, ho3, hb⟩
  refine ⟨_, rfl, ?_⟩
  have HO390 := AM_ (Kd.S_lower (Kd.S_new' (Kd.S_new' (Kd.S_new' (Kd.S_new' ho0 (Kd.S_lt (ST HO330.out))) (Kd.S_lt (ST HO344.out))) (Kd.S_lt (ST HO359.out))) (Kd.S_lt (ST HO374.out))) (below_size (BT HB.out)))
  replace HO330 := AM_ (Kd.S_elder' (ST HO330.out) (Kd.S_base ho0) hb)
  replace HO344 := AM_ (Kd.S_elder' (ST HO344.out) (Kd.S_base ho0) hb)
  replace HO359 := AM_ (Kd.S_elder' (ST HO359.out) (Kd.S_base ho0) hb)
  replace HO374 := AM_ (Kd.S_elder' (ST HO374.out) (Kd.S_base ho0) hb)
  have HO393 := AM_ (Kd.S_lower (Kd.S_new' (Kd.S_new' (Kd.S_new' (Kd.S_new' ho1 (Kd.S_lt (ST HO333.out))) (Kd.S_lt (ST HO347.out))) (Kd.S_lt (ST HO362.out))) (Kd.S_lt (ST HO377.out))) (below_size (BT HB.out)))
  replace HO333 := AM_ (Kd.S_elder' (ST HO333.out) (Kd.S_base ho1) hb)
  replace HO347 := AM_ (Kd.S_elder' (ST HO347.out) (Kd.S_base ho1) hb)
  replace HO362 := AM_ (Kd.S_elder' (ST HO362.out) (Kd.S_base ho1) hb)
  replace HO377 := AM_ (Kd.S_elder' (ST HO377.out) (Kd.S_base ho1) hb)
  have HO396 := AM_ (Kd.R_lower (Kd.R_new' (Kd.R_new' (Kd.R_new' (Kd.R_new' ho2 (Kd.R_lt (RT HO336.out))) (Kd.R_lt (RT HO350.out))) (Kd.R_lt (RT HO365.out))) (Kd.R_lt (RT HO380.out))) (below_size (BT HB.out)))
  replace HO336 := AM_ (Kd.R_elder' (RT HO336.out) (Kd.R_base ho2) hb)
  replace HO350 := AM_ (Kd.R_elder' (RT HO350.out) (Kd.R_base ho2) hb)
  replace HO365 := AM_ (Kd.R_elder' (RT HO365.out) (Kd.R_base ho2) hb)
  replace HO380 := AM_ (Kd.R_elder' (RT HO380.out) (Kd.R_base ho2) hb)
  have HO399 := AM_ (Kd.R_lower (Kd.R_new' (Kd.R_new' (Kd.R_new' (Kd.R_new' ho3 (Kd.R_lt (RT HO339.out))) (Kd.R_lt (RT HO353.out))) (Kd.R_lt (RT HO368.out))) (Kd.R_lt (RT HO383.out))) (below_size (BT HB.out)))
  replace HO339 := AM_ (Kd.R_elder' (RT HO339.out) (Kd.R_base ho3) hb)
  replace HO353 := AM_ (Kd.R_elder' (RT HO353.out) (Kd.R_base ho3) hb)
  replace HO368 := AM_ (Kd.R_elder' (RT HO368.out) (Kd.R_base ho3) hb)
  replace HO383 := AM_ (Kd.R_elder' (RT HO383.out) (Kd.R_base ho3) hb)
  replace BK323 := AM_ (BB BK323.out hb)
  replace BK324 := AM_ (BB BK324.out hb)
  replace BK370 := AM_ (BB BK370.out hb)
  replace BK385 := AM_ (BB BK385.out hb)
  replace HB := AM_ (below_step (BT HB.out) hb)
  (try clear hb)
  (try clear hb2)
  (try clear hk)
  (try clear hi)
  (try clear ho0)
  (try clear ho1)
  (try clear ho2)
  (try clear ho3)
  obtain ⟨Ao118, co118, eo118⟩ := Kd.S_slice HO390.out
  (first | subst eo118 | (injection eo118 with f1_ f2_ f3_; have f4_ := f1_.symm; have f5_ := f3_.symm; clear f1_ f2_ f3_; subst f4_; subst f5_))
  obtain ⟨Ao119, co119, eo119⟩ := Kd.S_slice HO393.out
  (first | subst eo119 | (injection eo119 with f1_ f2_ f3_; have f4_ := f1_.symm; have f5_ := f3_.symm; clear f1_ f2_ f3_; subst f4_; subst f5_))
  obtain ⟨Ao120, co120, eo120⟩ := Kd.R_slice HO396.out
  (first | subst eo120 | (injection eo120 with f1_ f2_ f3_; have f4_ := f1_.symm; have f5_ := f3_.symm; clear f1_ f2_ f3_; subst f4_; subst f5_))
  obtain ⟨Ao121, co121, eo121⟩ := Kd.R_slice HO399.out
  (first | subst eo121 | (injection eo121 with f1_ f2_ f3_; have f4_ := f1_.symm; have f5_ := f3_.symm; clear f1_ f2_ f3_; subst f4_; subst f5_))
  refine hK.out _ _ ⟨bc BK370.out 0, bc BK370.out 1, bc BK370.out 2, bc BK370.out 3, bc BK370.out 4, bc BK370.out 5, bc BK323.out 0, bc BK323.out 1, bc BK323.out 2, bc BK323.out 3, bc BK323.out 4, bc BK323.out 5⟩ (fun hHeld => ?_)
  clear hK K
  refine norm_ (a' := ?_) ?_ ?_
  rotate_left
  ·show Act.put _ (some 37) _ = _
   simp only [pA, pS, pZ, pK, i64_w, i32_w]
   rfl
  refine one_ (i := 3) (N := some 38) (bs 15 5) rfl rfl (by kernel_rfl) (by decide) (fun K hK => ?_)
  refine goes_ Try.func31 (by kernel_rfl) rfl #[.agg #[.bool t356, .slice Ao99 t357.length co99, .slice Ao100 t360.length co100, .slice Ao101 t363.length co101, .slice Ao102 t366.length co102, .int .i64 t369], .agg #[.bool t387, .slice Ao118 t388.length co118, .slice Ao119 t391.length co119, .slice Ao120 t394.length co120, .slice Ao121 t397.length co121, .int .i64 t400]] (by rfl) rfl rfl (by (try simp only [List.map_toArray, List.map_cons, List.map_nil]); first | done | rfl | (simp only [List.length_drop, List.length_take]; rfl)) ?_
  with_reducible refine (laws_eqEngine.calls k t356 _ _ t357 _ _ t360 _ _ t363 _ _ t366 t369 t387 _ _ t388 _ _ t391 _ _ t394 _ _ t397 t400 true _ ?side1 ?side2 ?side3 ?side4 ?side5 ?side6 ?side7 ?side8 ?side9 ?side10 ?side11 ?side12 ?side13 ?side14 ?side15 ?side16 A69.out).mono ?_
  (case side1 => exact Kd.C_below (Kd.S_reads' HO359.out).2.2 (BL (Below.refl _ _) rfl rfl rfl rfl))
  (case side2 => exact (Kd.S_reads' HO359.out).2.1)
  (case side3 => exact Kd.C_below (Kd.S_reads' HO362.out).2.2 (BL (Below.refl _ _) rfl rfl rfl rfl))
  (case side4 => exact (Kd.S_reads' HO362.out).2.1)
  (case side5 => exact Kd.C_below (Kd.R_reads' HO365.out).2.2 (BL (Below.refl _ _) rfl rfl rfl rfl))
  (case side6 => exact (Kd.R_reads' HO365.out).2.1)
  (case side7 => exact Kd.C_below (Kd.R_reads' HO368.out).2.2 (BL (Below.refl _ _) rfl rfl rfl rfl))
  (case side8 => exact (Kd.R_reads' HO368.out).2.1)
  (case side9 => exact Kd.C_below (Kd.S_reads' HO390.out).2.2 (BL (Below.refl _ _) rfl rfl rfl rfl))
  (case side10 => exact (Kd.S_reads' HO390.out).2.1)
  (case side11 => exact Kd.C_below (Kd.S_reads' HO393.out).2.2 (BL (Below.refl _ _) rfl rfl rfl rfl))
  (case side12 => exact (Kd.S_reads' HO393.out).2.1)
  (case side13 => exact Kd.C_below (Kd.R_reads' HO396.out).2.2 (BL (Below.refl _ _) rfl rfl rfl rfl))
  (case side14 => exact (Kd.R_reads' HO396.out).2.1)
  (case side15 => exact Kd.C_below (Kd.R_reads' HO399.out).2.2 (BL (Below.refl _ _) rfl rfl rfl rfl))
  (case side16 => exact (Kd.R_reads' HO399.out).2.1)
  rintro e w122 ⟨rfl, hb⟩
  refine ⟨_, rfl, ?_⟩
  replace HO330 := AM_ (Kd.S_below (ST HO330.out) hb)
  replace HO333 := AM_ (Kd.S_below (ST HO333.out) hb)
  replace HO336 := AM_ (Kd.R_below (RT HO336.out) hb)
  replace HO339 := AM_ (Kd.R_below (RT HO339.out) hb)
  replace HO344 := AM_ (Kd.S_below (ST HO344.out) hb)
  replace HO347 := AM_ (Kd.S_below (ST HO347.out) hb)
  replace HO350 := AM_ (Kd.R_below (RT HO350.out) hb)
  replace HO353 := AM_ (Kd.R_below (RT HO353.out) hb)
  replace HO359 := AM_ (Kd.S_below (ST HO359.out) hb)
  replace HO362 := AM_ (Kd.S_below (ST HO362.out) hb)
  replace HO365 := AM_ (Kd.R_below (RT HO365.out) hb)
  replace HO368 := AM_ (Kd.R_below (RT HO368.out) hb)
  replace HO374 := AM_ (Kd.S_below (ST HO374.out) hb)
  replace HO377 := AM_ (Kd.S_below (ST HO377.out) hb)
  replace HO380 := AM_ (Kd.R_below (RT HO380.out) hb)
  replace HO383 := AM_ (Kd.R_below (RT HO383.out) hb)
  replace HO390 := AM_ (Kd.S_below (ST HO390.out) hb)
  replace HO393 := AM_ (Kd.S_below (ST HO393.out) hb)
  replace HO396 := AM_ (Kd.R_below (RT HO396.out) hb)
  replace HO399 := AM_ (Kd.R_below (RT HO399.out) hb)
  replace BK323 := AM_ (BB BK323.out hb)
  replace BK324 := AM_ (BB BK324.out hb)
  replace BK370 := AM_ (BB BK370.out hb)
  replace BK385 := AM_ (BB BK385.out hb)
  replace HB := AM_ (below_step (BT HB.out) hb)
  (try clear hb)
  (try clear hb2)
  (try clear hk)
  (try clear hi)
  refine hK.out _ _ ⟨bc BK370.out 0, bc BK370.out 1, bc BK370.out 2, bc BK370.out 3, bc BK370.out 4, bc BK370.out 5, bc BK323.out 0, bc BK323.out 1, bc BK323.out 2, bc BK323.out 3, bc BK323.out 4, bc BK323.out 5⟩ (fun hHeld => ?_)
  clear hK K
  refine norm_ (a' := ?_) ?_ ?_
  rotate_left
  ·show Act.put _ (some 38) _ = _
   simp only [pA, pS, pZ, pK, i64_w, i32_w]
   rfl
  refine pure_ (i := 4) (N := some 39) (v := ?_) (a' := ?_) (bs 31 5) rfl rfl (by kernel_rfl) (fun _ _ _ h => h) (Or.inl ⟨by rfl, ?_⟩) ?_ ?_
  rotate_left
  ·intro w'
   go_simp
   with_reducible rfl
  rotate_left
  ·simp only [pA, pS, pZ, pK, i64_w, i32_w]
   rfl
  refine done_ (by kernel_rfl) ?_
  try go_wp2
  replace HO330 := AM_ (Kd.S_drew HO330.out)
  replace HO333 := AM_ (Kd.S_drew HO333.out)
  replace HO336 := AM_ (Kd.R_drew HO336.out)
  replace HO339 := AM_ (Kd.R_drew HO339.out)
  replace HO344 := AM_ (Kd.S_drew HO344.out)
  replace HO347 := AM_ (Kd.S_drew HO347.out)
  replace HO350 := AM_ (Kd.R_drew HO350.out)
  replace HO353 := AM_ (Kd.R_drew HO353.out)
  replace HO359 := AM_ (Kd.S_drew HO359.out)
  replace HO362 := AM_ (Kd.S_drew HO362.out)
  replace HO365 := AM_ (Kd.R_drew HO365.out)
  replace HO368 := AM_ (Kd.R_drew HO368.out)
  replace HO374 := AM_ (Kd.S_drew HO374.out)
  replace HO377 := AM_ (Kd.S_drew HO377.out)
  replace HO380 := AM_ (Kd.R_drew HO380.out)
  replace HO383 := AM_ (Kd.R_drew HO383.out)
  replace HO390 := AM_ (Kd.S_drew HO390.out)
  replace HO393 := AM_ (Kd.S_drew HO393.out)
  replace HO396 := AM_ (Kd.R_drew HO396.out)
  replace HO399 := AM_ (Kd.R_drew HO399.out)
  replace BK323 := AM_ (blk_drew BK323.out)
  replace BK324 := AM_ (blk_drew BK324.out)
  replace BK370 := AM_ (blk_drew BK370.out)
  replace BK385 := AM_ (blk_drew BK385.out)
  replace HB := AM_ (below_drew1 HB.out)
  refine start_ (n := 5) (S := fun w' => w'.cell? ⟨gb385, 0, none⟩ = some (.bool t371) ∧ w'.cell? ⟨gb385, 1, none⟩ = some (.slice Ao110 t372.length co110) ∧ w'.cell? ⟨gb385, 2, none⟩ = some (.slice Ao111 t375.length co111) ∧ w'.cell? ⟨gb385, 3, none⟩ = some (.slice Ao112 t378.length co112) ∧ w'.cell? ⟨gb385, 4, none⟩ = some (.slice Ao113 t381.length co113) ∧ w'.cell? ⟨gb385, 5, none⟩ = some (.int .i64 t384) ∧ w'.cell? ⟨gb324, 0, none⟩ = some (.bool a1_0) ∧ w'.cell? ⟨gb324, 1, none⟩ = some (.slice A1_1 l1_1.length c1_1) ∧ w'.cell? ⟨gb324, 2, none⟩ = some (.slice A1_2 l1_2.length c1_2) ∧ w'.cell? ⟨gb324, 3, none⟩ = some (.slice A1_3 l1_3.length c1_3) ∧ w'.cell? ⟨gb324, 4, none⟩ = some (.slice A1_4 l1_4.length c1_4) ∧ w'.cell? ⟨gb324, 5, none⟩ = some (.int .i64 a1_5)) (ds := []) (bs 0 5) (by kernel_rfl) rfl rfl ⟨bc BK385.out 0, bc BK385.out 1, bc BK385.out 2, bc BK385.out 3, bc BK385.out 4, bc BK385.out 5, bc BK324.out 0, bc BK324.out 1, bc BK324.out 2, bc BK324.out 3, bc BK324.out 4, bc BK324.out 5⟩ (fun hHeld => ?_)
  generalize w122.drew = w123 at HO330 HO333 HO336 HO339 HO344 HO347 HO350 HO353 HO359 HO362 HO365 HO368 HO374 HO377 HO380 HO383 HO390 HO393 HO396 HO399 BK323 BK324 BK370 BK385 HB hHeld ⊢
  refine take_ (i := 0) (N := some 40) (v := ?_) (a' := ?_) (bs 1 5) rfl rfl (by kernel_rfl) (fun _ _ _ h => h) (Or.inl ⟨by rfl, ?_⟩) hHeld ?_ ?_
  rotate_left
  ·rintro w' ⟨s0, s1, s2, s3, s4, s5, s6, s7, s8, s9, s10, s11⟩
   go_simp
   with_reducible rfl
  rotate_left
  ·simp only [pA, pS, pZ, pK, i64_w, i32_w]
   rfl
  refine take_ (i := 1) (N := some 41) (v := ?_) (a' := ?_) (bs 3 5) rfl rfl (by kernel_rfl) (fun _ _ _ h => h) (Or.inl ⟨by rfl, ?_⟩) hHeld ?_ ?_
  rotate_left
  ·rintro w' ⟨s0, s1, s2, s3, s4, s5, s6, s7, s8, s9, s10, s11⟩
   go_simp
   with_reducible rfl
  rotate_left
  ·simp only [pA, pS, pZ, pK, i64_w, i32_w]
   rfl
  refine one_ (i := 2) (N := some 42) (bs 7 5) rfl rfl (by kernel_rfl) (by decide) (fun K hK => ?_)
  refine goes_ Try.func29 (by kernel_rfl) rfl #[.agg #[.bool a1_0, .slice A1_1 l1_1.length c1_1, .slice A1_2 l1_2.length c1_2, .slice A1_3 l1_3.length c1_3, .slice A1_4 l1_4.length c1_4, .int .i64 a1_5]] (by rfl) rfl rfl (by (try simp only [List.map_toArray, List.map_cons, List.map_nil]); first | done | rfl | (simp only [List.length_drop, List.length_take]; rfl)) ?_
  with_reducible refine (laws_toEngine.calls k a1_0 _ _ l1_1 _ _ l1_2 _ _ l1_3 _ _ l1_4 a1_5 t402 t403 t406 t409 t412 t415 _ ?side1 ?side2 ?side3 ?side4 ?side5 ?side6 ?side7 ?side8 A71.out).mono ?_
  (case side1 => exact CB HR1_1.out HB.out)
  (case side2 => exact HC1_1.out)
  (case side3 => exact CB HR1_2.out HB.out)
  (case side4 => exact HC1_2.out)
  (case side5 => exact CB HR1_3.out HB.out)
  (case side6 => exact HC1_3.out)
  (case side7 => exact CB HR1_4.out HB.out)
  (case side8 => exact HC1_4.out)
  rintro e w124 ⟨v404, v407, v410, v413, rfl, ho0, ho1, ho2, ho3, hb⟩
  refine ⟨_, rfl, ?_⟩
  have HO405 := AM_ (Kd.S_lower (Kd.S_new' (Kd.S_new' (Kd.S_new' (Kd.S_new' (Kd.S_new' ho0 (Kd.S_lt (ST HO330.out))) (Kd.S_lt (ST HO344.out))) (Kd.S_lt (ST HO359.out))) (Kd.S_lt (ST HO374.out))) (Kd.S_lt (ST HO390.out))) (below_size (BT HB.out)))
  replace HO330 := AM_ (Kd.S_elder' (ST HO330.out) (Kd.S_base ho0) hb)
  replace HO344 := AM_ (Kd.S_elder' (ST HO344.out) (Kd.S_base ho0) hb)
  replace HO359 := AM_ (Kd.S_elder' (ST HO359.out) (Kd.S_base ho0) hb)
  replace HO374 := AM_ (Kd.S_elder' (ST HO374.out) (Kd.S_base ho0) hb)
  replace HO390 := AM_ (Kd.S_elder' (ST HO390.out) (Kd.S_base ho0) hb)
  have HO408 := AM_ (Kd.S_lower (Kd.S_new' (Kd.S_new' (Kd.S_new' (Kd.S_new' (Kd.S_new' ho1 (Kd.S_lt (ST HO333.out))) (Kd.S_lt (ST HO347.out))) (Kd.S_lt (ST HO362.out))) (Kd.S_lt (ST HO377.out))) (Kd.S_lt (ST HO393.out))) (below_size (BT HB.out)))
  replace HO333 := AM_ (Kd.S_elder' (ST HO333.out) (Kd.S_base ho1) hb)
  replace HO347 := AM_ (Kd.S_elder' (ST HO347.out) (Kd.S_base ho1) hb)
  replace HO362 := AM_ (Kd.S_elder' (ST HO362.out) (Kd.S_base ho1) hb)
  replace HO377 := AM_ (Kd.S_elder' (ST HO377.out) (Kd.S_base ho1) hb)
  replace HO393 := AM_ (Kd.S_elder' (ST HO393.out) (Kd.S_base ho1) hb)
  have HO411 := AM_ (Kd.R_lower (Kd.R_new' (Kd.R_new' (Kd.R_new' (Kd.R_new' (Kd.R_new' ho2 (Kd.R_lt (RT HO336.out))) (Kd.R_lt (RT HO350.out))) (Kd.R_lt (RT HO365.out))) (Kd.R_lt (RT HO380.out))) (Kd.R_lt (RT HO396.out))) (below_size (BT HB.out)))
  replace HO336 := AM_ (Kd.R_elder' (RT HO336.out) (Kd.R_base ho2) hb)
  replace HO350 := AM_ (Kd.R_elder' (RT HO350.out) (Kd.R_base ho2) hb)
  replace HO365 := AM_ (Kd.R_elder' (RT HO365.out) (Kd.R_base ho2) hb)
  replace HO380 := AM_ (Kd.R_elder' (RT HO380.out) (Kd.R_base ho2) hb)
  replace HO396 := AM_ (Kd.R_elder' (RT HO396.out) (Kd.R_base ho2) hb)
  have HO414 := AM_ (Kd.R_lower (Kd.R_new' (Kd.R_new' (Kd.R_new' (Kd.R_new' (Kd.R_new' ho3 (Kd.R_lt (RT HO339.out))) (Kd.R_lt (RT HO353.out))) (Kd.R_lt (RT HO368.out))) (Kd.R_lt (RT HO383.out))) (Kd.R_lt (RT HO399.out))) (below_size (BT HB.out)))
  replace HO339 := AM_ (Kd.R_elder' (RT HO339.out) (Kd.R_base ho3) hb)
  replace HO353 := AM_ (Kd.R_elder' (RT HO353.out) (Kd.R_base ho3) hb)
  replace HO368 := AM_ (Kd.R_elder' (RT HO368.out) (Kd.R_base ho3) hb)
  replace HO383 := AM_ (Kd.R_elder' (RT HO383.out) (Kd.R_base ho3) hb)
  replace HO399 := AM_ (Kd.R_elder' (RT HO399.out) (Kd.R_base ho3) hb)
  replace BK323 := AM_ (BB BK323.out hb)
  replace BK324 := AM_ (BB BK324.out hb)
  replace BK370 := AM_ (BB BK370.out hb)
  replace BK385 := AM_ (BB BK385.out hb)
  replace HB := AM_ (below_step (BT HB.out) hb)
  (try clear hb)
  (try clear hb2)
  (try clear hk)
  (try clear hi)
  (try clear ho0)
  (try clear ho1)
  (try clear ho2)
  (try clear ho3)
  obtain ⟨Ao125, co125, eo125⟩ := Kd.S_slice HO405.out
  (first | subst eo125 | (injection eo125 with f1_ f2_ f3_; have f4_ := f1_.symm; have f5_ := f3_.symm; clear f1_ f2_ f3_; subst f4_; subst f5_))
  obtain ⟨Ao126, co126, eo126⟩ := Kd.S_slice HO408.out
  (first | subst eo126 | (injection eo126 with f1_ f2_ f3_; have f4_ := f1_.symm; have f5_ := f3_.symm; clear f1_ f2_ f3_; subst f4_; subst f5_))
  obtain ⟨Ao127, co127, eo127⟩ := Kd.R_slice HO411.out
  (first | subst eo127 | (injection eo127 with f1_ f2_ f3_; have f4_ := f1_.symm; have f5_ := f3_.symm; clear f1_ f2_ f3_; subst f4_; subst f5_))
  obtain ⟨Ao128, co128, eo128⟩ := Kd.R_slice HO414.out
  (first | subst eo128 | (injection eo128 with f1_ f2_ f3_; have f4_ := f1_.symm; have f5_ := f3_.symm; clear f1_ f2_ f3_; subst f4_; subst f5_))
  refine hK.out _ _ ⟨bc BK385.out 0, bc BK385.out 1, bc BK385.out 2, bc BK385.out 3, bc BK385.out 4, bc BK385.out 5, bc BK324.out 0, bc BK324.out 1, bc BK324.out 2, bc BK324.out 3, bc BK324.out 4, bc BK324.out 5⟩ (fun hHeld => ?_)
  clear hK K
  refine norm_ (a' := ?_) ?_ ?_
  rotate_left
  ·show Act.put _ (some 42) _ = _
   simp only [pA, pS, pZ, pK, i64_w, i32_w]
   rfl
  refine one_ (i := 3) (N := some 43) (bs 15 5) rfl rfl (by kernel_rfl) (by decide) (fun K hK => ?_)
  refine goes_ Try.func31 (by kernel_rfl) rfl #[.agg #[.bool t371, .slice Ao110 t372.length co110, .slice Ao111 t375.length co111, .slice Ao112 t378.length co112, .slice Ao113 t381.length co113, .int .i64 t384], .agg #[.bool t402, .slice Ao125 t403.length co125, .slice Ao126 t406.length co126, .slice Ao127 t409.length co127, .slice Ao128 t412.length co128, .int .i64 t415]] (by rfl) rfl rfl (by (try simp only [List.map_toArray, List.map_cons, List.map_nil]); first | done | rfl | (simp only [List.length_drop, List.length_take]; rfl)) ?_
  with_reducible refine (laws_eqEngine.calls k t371 _ _ t372 _ _ t375 _ _ t378 _ _ t381 t384 t402 _ _ t403 _ _ t406 _ _ t409 _ _ t412 t415 true _ ?side1 ?side2 ?side3 ?side4 ?side5 ?side6 ?side7 ?side8 ?side9 ?side10 ?side11 ?side12 ?side13 ?side14 ?side15 ?side16 A72.out).mono ?_
  (case side1 => exact Kd.C_below (Kd.S_reads' HO374.out).2.2 (BL (Below.refl _ _) rfl rfl rfl rfl))
  (case side2 => exact (Kd.S_reads' HO374.out).2.1)
  (case side3 => exact Kd.C_below (Kd.S_reads' HO377.out).2.2 (BL (Below.refl _ _) rfl rfl rfl rfl))
  (case side4 => exact (Kd.S_reads' HO377.out).2.1)
  (case side5 => exact Kd.C_below (Kd.R_reads' HO380.out).2.2 (BL (Below.refl _ _) rfl rfl rfl rfl))
  (case side6 => exact (Kd.R_reads' HO380.out).2.1)
  (case side7 => exact Kd.C_below (Kd.R_reads' HO383.out).2.2 (BL (Below.refl _ _) rfl rfl rfl rfl))
  (case side8 => exact (Kd.R_reads' HO383.out).2.1)
  (case side9 => exact Kd.C_below (Kd.S_reads' HO405.out).2.2 (BL (Below.refl _ _) rfl rfl rfl rfl))
  (case side10 => exact (Kd.S_reads' HO405.out).2.1)
  (case side11 => exact Kd.C_below (Kd.S_reads' HO408.out).2.2 (BL (Below.refl _ _) rfl rfl rfl rfl))
  (case side12 => exact (Kd.S_reads' HO408.out).2.1)
  (case side13 => exact Kd.C_below (Kd.R_reads' HO411.out).2.2 (BL (Below.refl _ _) rfl rfl rfl rfl))
  (case side14 => exact (Kd.R_reads' HO411.out).2.1)
  (case side15 => exact Kd.C_below (Kd.R_reads' HO414.out).2.2 (BL (Below.refl _ _) rfl rfl rfl rfl))
  (case side16 => exact (Kd.R_reads' HO414.out).2.1)
  rintro e w129 ⟨rfl, hb⟩
  refine ⟨_, rfl, ?_⟩
  replace HO330 := AM_ (Kd.S_below (ST HO330.out) hb)
  replace HO333 := AM_ (Kd.S_below (ST HO333.out) hb)
  replace HO336 := AM_ (Kd.R_below (RT HO336.out) hb)
  replace HO339 := AM_ (Kd.R_below (RT HO339.out) hb)
  replace HO344 := AM_ (Kd.S_below (ST HO344.out) hb)
  replace HO347 := AM_ (Kd.S_below (ST HO347.out) hb)
  replace HO350 := AM_ (Kd.R_below (RT HO350.out) hb)
  replace HO353 := AM_ (Kd.R_below (RT HO353.out) hb)
  replace HO359 := AM_ (Kd.S_below (ST HO359.out) hb)
  replace HO362 := AM_ (Kd.S_below (ST HO362.out) hb)
  replace HO365 := AM_ (Kd.R_below (RT HO365.out) hb)
  replace HO368 := AM_ (Kd.R_below (RT HO368.out) hb)
  replace HO374 := AM_ (Kd.S_below (ST HO374.out) hb)
  replace HO377 := AM_ (Kd.S_below (ST HO377.out) hb)
  replace HO380 := AM_ (Kd.R_below (RT HO380.out) hb)
  replace HO383 := AM_ (Kd.R_below (RT HO383.out) hb)
  replace HO390 := AM_ (Kd.S_below (ST HO390.out) hb)
  replace HO393 := AM_ (Kd.S_below (ST HO393.out) hb)
  replace HO396 := AM_ (Kd.R_below (RT HO396.out) hb)
  replace HO399 := AM_ (Kd.R_below (RT HO399.out) hb)
  replace HO405 := AM_ (Kd.S_below (ST HO405.out) hb)
  replace HO408 := AM_ (Kd.S_below (ST HO408.out) hb)
  replace HO411 := AM_ (Kd.R_below (RT HO411.out) hb)
  replace HO414 := AM_ (Kd.R_below (RT HO414.out) hb)
  replace BK323 := AM_ (BB BK323.out hb)
  replace BK324 := AM_ (BB BK324.out hb)
  replace BK370 := AM_ (BB BK370.out hb)
  replace BK385 := AM_ (BB BK385.out hb)
  replace HB := AM_ (below_step (BT HB.out) hb)
  (try clear hb)
  (try clear hb2)
  (try clear hk)
  (try clear hi)
  refine hK.out _ _ ⟨bc BK385.out 0, bc BK385.out 1, bc BK385.out 2, bc BK385.out 3, bc BK385.out 4, bc BK385.out 5, bc BK324.out 0, bc BK324.out 1, bc BK324.out 2, bc BK324.out 3, bc BK324.out 4, bc BK324.out 5⟩ (fun hHeld => ?_)
  clear hK K
  refine norm_ (a' := ?_) ?_ ?_
  rotate_left
  ·show Act.put _ (some 43) _ = _
   simp only [pA, pS, pZ, pK, i64_w, i32_w]
   rfl
  refine pure_ (i := 4) (N := some 44) (v := ?_) (a' := ?_) (bs 31 5) rfl rfl (by kernel_rfl) (fun _ _ _ h => h) (Or.inl ⟨by rfl, ?_⟩) ?_ ?_
  rotate_left
  ·intro w'
   go_simp
   with_reducible rfl
  rotate_left
  ·simp only [pA, pS, pZ, pK, i64_w, i32_w]
   rfl
  refine done_ (by kernel_rfl) ?_
  try go_wp2
  go_ret
  exact QT (BT HB.out)
 replace c73 := Bool.eq_false_iff.mpr c73
 subst c73
 have H1 : (some false) = some r := by rw [if_neg (show ¬ (false = true) by decide)] at H; exact H
 clear H
 have H := H1
 clear H1
 obtain rfl := Option.some.inj H
 go_enter Try.func8, Try.ntmps8
 try go_wp2_with (first | ((with_reducible refine gate_dst (N := 2) rfl ?_); refine box_event ?hg (N := 2) ?hd (cs := #[.bool a0_0, .slice A0_1 l0_1.length c0_1, .slice A0_2 l0_2.length c0_2, .slice A0_3 l0_3.length c0_3, .slice A0_4 l0_4.length c0_4, .int .i64 a0_5]) (t := 44) ?hr ?_; (case hd => rfl); (case hg => rfl); (case hr => first | (go_simp; done) | (go_simp; rfl)); intro gb323 hg w130 hbox hb; have BK323 := AM_ (hbox); have GW323 := AM_ ((GS HB.out hg)); have GE323 := AM_ ((GS HB.out hg)); replace HB := AM_ (below_step (BT HB.out) hb); clear hb hbox hg) | ((with_reducible refine gate_dst (N := 3) rfl ?_); refine box_event ?hg (N := 3) ?hd (cs := #[.bool a1_0, .slice A1_1 l1_1.length c1_1, .slice A1_2 l1_2.length c1_2, .slice A1_3 l1_3.length c1_3, .slice A1_4 l1_4.length c1_4, .int .i64 a1_5]) (t := 44) ?hr ?_; (case hd => rfl); (case hg => rfl); (case hr => first | (go_simp; done) | (go_simp; rfl)); intro gb324 hg w131 hbox hb; have BK324 := AM_ (hbox); have GW324 := AM_ ((GS HB.out hg)); have GE324 := AM_ ((GS HB.out hg)); replace HB := AM_ (below_step (BT HB.out) hb); have NB323_324 := AM_ ((NL BK323.out hg)); have NB324_323 := AM_ ((NG BK323.out hg)); replace BK323 := AM_ (BB BK323.out hb); clear hb hbox hg; have hnb132 := NB323_324.out; have hnc132 := NB324_323.out; obtain ⟨hcz133_0, hcz133_1, hcz133_2, hcz133_3, hcz133_4, hcz133_5, hfz133_0, hfz133_1, hfz133_2, hfz133_3, hfz133_4, hfz133_5⟩ := bk6 BK323.out) | ((with_reducible refine gate_callee (f := 27) rfl ?_); refine goesL_ (some 12) rfl rfl Try.func27 (by kernel_rfl) rfl #[.agg #[.bool a0_0, .slice A0_1 l0_1.length c0_1, .slice A0_2 l0_2.length c0_2, .slice A0_3 l0_3.length c0_3, .slice A0_4 l0_4.length c0_4, .int .i64 a0_5], .int .i64 1048576] rfl (by (try simp only [List.map_toArray, List.map_cons, List.map_nil]); first | done | rfl | (simp only [List.length_drop, List.length_take]; rfl)) ?_; (with_reducible refine (laws_szEngine.calls k a0_0 _ _ l0_1 _ _ l0_2 _ _ l0_3 _ _ l0_4 a0_5 1048576 t325 _ ?side1 ?side2 ?side3 ?side4 ?side5 ?side6 ?side7 ?side8 A3.out).mono ?_); (case side1 => exact CB HR0_1.out HB.out); (case side2 => exact HC0_1.out); (case side3 => exact CB HR0_2.out HB.out); (case side4 => exact HC0_2.out); (case side5 => exact CB HR0_3.out HB.out); (case side6 => exact HC0_3.out); (case side7 => exact CB HR0_4.out HB.out); (case side8 => exact HC0_4.out); rintro e w134 ⟨rfl, hb⟩; refine ⟨_, rfl, ?_⟩; replace BK323 := AM_ (BB BK323.out hb); replace BK324 := AM_ (BB BK324.out hb); replace HB := AM_ (below_step (BT HB.out) hb); (try clear hb); (try clear hb2); (try clear hk); (try clear hi); obtain ⟨hcz135_0, hcz135_1, hcz135_2, hcz135_3, hcz135_4, hcz135_5, hfz135_0, hfz135_1, hfz135_2, hfz135_3, hfz135_4, hfz135_5⟩ := bk6 BK324.out) | ((with_reducible refine gate_callee (f := 27) rfl ?_); refine goesL_ (some 17) rfl rfl Try.func27 (by kernel_rfl) rfl #[.agg #[.bool a1_0, .slice A1_1 l1_1.length c1_1, .slice A1_2 l1_2.length c1_2, .slice A1_3 l1_3.length c1_3, .slice A1_4 l1_4.length c1_4, .int .i64 a1_5], .int .i64 t325] rfl (by (try simp only [List.map_toArray, List.map_cons, List.map_nil]); first | done | rfl | (simp only [List.length_drop, List.length_take]; rfl)) ?_; (with_reducible refine (laws_szEngine.calls k a1_0 _ _ l1_1 _ _ l1_2 _ _ l1_3 _ _ l1_4 a1_5 t325 t326 _ ?side1 ?side2 ?side3 ?side4 ?side5 ?side6 ?side7 ?side8 A10.out).mono ?_); (case side1 => exact CB HR1_1.out HB.out); (case side2 => exact HC1_1.out); (case side3 => exact CB HR1_2.out HB.out); (case side4 => exact HC1_2.out); (case side5 => exact CB HR1_3.out HB.out); (case side6 => exact HC1_3.out); (case side7 => exact CB HR1_4.out HB.out); (case side8 => exact HC1_4.out); rintro e w136 ⟨rfl, hb⟩; refine ⟨_, rfl, ?_⟩; replace BK323 := AM_ (BB BK323.out hb); replace BK324 := AM_ (BB BK324.out hb); replace HB := AM_ (below_step (BT HB.out) hb); (try clear hb); (try clear hb2); (try clear hk); (try clear hi)))
 replace BK323 := AM_ (blk_drew BK323.out)
 replace BK324 := AM_ (blk_drew BK324.out)
 replace HB := AM_ (below_drew1 HB.out)
 refine start_ (n := 6) (S := fun w' => w'.cell? ⟨gb323, 0, none⟩ = some (.bool a0_0) ∧ w'.cell? ⟨gb323, 1, none⟩ = some (.slice A0_1 l0_1.length c0_1) ∧ w'.cell? ⟨gb323, 2, none⟩ = some (.slice A0_2 l0_2.length c0_2) ∧ w'.cell? ⟨gb323, 3, none⟩ = some (.slice A0_3 l0_3.length c0_3) ∧ w'.cell? ⟨gb323, 4, none⟩ = some (.slice A0_4 l0_4.length c0_4) ∧ w'.cell? ⟨gb323, 5, none⟩ = some (.int .i64 a0_5) ∧ w'.cell? ⟨gb324, 0, none⟩ = some (.bool a1_0) ∧ w'.cell? ⟨gb324, 1, none⟩ = some (.slice A1_1 l1_1.length c1_1) ∧ w'.cell? ⟨gb324, 2, none⟩ = some (.slice A1_2 l1_2.length c1_2) ∧ w'.cell? ⟨gb324, 3, none⟩ = some (.slice A1_3 l1_3.length c1_3) ∧ w'.cell? ⟨gb324, 4, none⟩ = some (.slice A1_4 l1_4.length c1_4) ∧ w'.cell? ⟨gb324, 5, none⟩ = some (.int .i64 a1_5)) (ds := []) (bs 0 6) (by kernel_rfl) rfl rfl ⟨bc BK323.out 0, bc BK323.out 1, bc BK323.out 2, bc BK323.out 3, bc BK323.out 4, bc BK323.out 5, bc BK324.out 0, bc BK324.out 1, bc BK324.out 2, bc BK324.out 3, bc BK324.out 4, bc BK324.out 5⟩ (fun hHeld => ?_)
 generalize w136.drew = w137 at BK323 BK324 HB hHeld ⊢
 refine take_ (i := 0) (N := some 20) (v := ?_) (a' := ?_) (bs 1 6) rfl rfl (by kernel_rfl) (fun _ _ _ h => h) (Or.inl ⟨by rfl, ?_⟩) hHeld ?_ ?_
 rotate_left
 ·rintro w' ⟨s0, s1, s2, s3, s4, s5, s6, s7, s8, s9, s10, s11⟩
  go_simp
  with_reducible rfl
 rotate_left
 ·simp only [pA, pS, pZ, pK, i64_w, i32_w]
  rfl
 refine take_ (i := 2) (N := some 22) (v := ?_) (a' := ?_) (bs 5 6) rfl rfl (by kernel_rfl) (fun _ _ _ h => h) (Or.inl ⟨by rfl, ?_⟩) hHeld ?_ ?_
 rotate_left
 ·rintro w' ⟨s0, s1, s2, s3, s4, s5, s6, s7, s8, s9, s10, s11⟩
  go_simp
  with_reducible rfl
 rotate_left
 ·simp only [pA, pS, pZ, pK, i64_w, i32_w]
  rfl
 refine one_ (i := 1) (N := some 21) (bs 7 6) rfl rfl (by kernel_rfl) (by decide) (fun K hK => ?_)
 refine goes_ Try.func29 (by kernel_rfl) rfl #[.agg #[.bool a0_0, .slice A0_1 l0_1.length c0_1, .slice A0_2 l0_2.length c0_2, .slice A0_3 l0_3.length c0_3, .slice A0_4 l0_4.length c0_4, .int .i64 a0_5]] (by rfl) rfl rfl (by (try simp only [List.map_toArray, List.map_cons, List.map_nil]); first | done | rfl | (simp only [List.length_drop, List.length_take]; rfl)) ?_
 with_reducible refine (laws_toEngine.calls k a0_0 _ _ l0_1 _ _ l0_2 _ _ l0_3 _ _ l0_4 a0_5 t327 t328 t331 t334 t337 t340 _ ?side1 ?side2 ?side3 ?side4 ?side5 ?side6 ?side7 ?side8 A19.out).mono ?_
 (case side1 => exact CB HR0_1.out HB.out)
 (case side2 => exact HC0_1.out)
 (case side3 => exact CB HR0_2.out HB.out)
 (case side4 => exact HC0_2.out)
 (case side5 => exact CB HR0_3.out HB.out)
 (case side6 => exact HC0_3.out)
 (case side7 => exact CB HR0_4.out HB.out)
 (case side8 => exact HC0_4.out)
 rintro e w138 ⟨v329, v332, v335, v338, rfl, ho0, ho1, ho2, ho3, hb⟩
 refine ⟨_, rfl, ?_⟩
 have HO330 := AM_ (Kd.S_lower ho0 (below_size (BT HB.out)))
 have HO333 := AM_ (Kd.S_lower ho1 (below_size (BT HB.out)))
 have HO336 := AM_ (Kd.R_lower ho2 (below_size (BT HB.out)))
 have HO339 := AM_ (Kd.R_lower ho3 (below_size (BT HB.out)))
 replace BK323 := AM_ (BB BK323.out hb)
 replace BK324 := AM_ (BB BK324.out hb)
 replace HB := AM_ (below_step (BT HB.out) hb)
 (try clear hb)
 (try clear hb2)
 (try clear hk)
 (try clear hi)
 (try clear ho0)
 (try clear ho1)
 (try clear ho2)
 (try clear ho3)
 refine hK.out _ _ ⟨bc BK323.out 0, bc BK323.out 1, bc BK323.out 2, bc BK323.out 3, bc BK323.out 4, bc BK323.out 5, bc BK324.out 0, bc BK324.out 1, bc BK324.out 2, bc BK324.out 3, bc BK324.out 4, bc BK324.out 5⟩ (fun hHeld => ?_)
 clear hK K
 refine norm_ (a' := ?_) ?_ ?_
 rotate_left
 ·show Act.put _ (some 21) _ = _
  simp only [pA, pS, pZ, pK, i64_w, i32_w]
  rfl
 refine one_ (i := 3) (N := some 23) (bs 15 6) rfl rfl (by kernel_rfl) (by decide) (fun K hK => ?_)
 refine goes_ Try.func29 (by kernel_rfl) rfl #[.agg #[.bool a1_0, .slice A1_1 l1_1.length c1_1, .slice A1_2 l1_2.length c1_2, .slice A1_3 l1_3.length c1_3, .slice A1_4 l1_4.length c1_4, .int .i64 a1_5]] (by rfl) rfl rfl (by (try simp only [List.map_toArray, List.map_cons, List.map_nil]); first | done | rfl | (simp only [List.length_drop, List.length_take]; rfl)) ?_
 with_reducible refine (laws_toEngine.calls k a1_0 _ _ l1_1 _ _ l1_2 _ _ l1_3 _ _ l1_4 a1_5 t341 t342 t345 t348 t351 t354 _ ?side1 ?side2 ?side3 ?side4 ?side5 ?side6 ?side7 ?side8 A20.out).mono ?_
 (case side1 => exact CB HR1_1.out HB.out)
 (case side2 => exact HC1_1.out)
 (case side3 => exact CB HR1_2.out HB.out)
 (case side4 => exact HC1_2.out)
 (case side5 => exact CB HR1_3.out HB.out)
 (case side6 => exact HC1_3.out)
 (case side7 => exact CB HR1_4.out HB.out)
 (case side8 => exact HC1_4.out)
 rintro e w139 ⟨v343, v346, v349, v352, rfl, ho0, ho1, ho2, ho3, hb⟩
 refine ⟨_, rfl, ?_⟩
 have HO344 := AM_ (Kd.S_lower (Kd.S_new' ho0 (Kd.S_lt (ST HO330.out))) (below_size (BT HB.out)))
 replace HO330 := AM_ (Kd.S_elder' (ST HO330.out) (Kd.S_base ho0) hb)
 have HO347 := AM_ (Kd.S_lower (Kd.S_new' ho1 (Kd.S_lt (ST HO333.out))) (below_size (BT HB.out)))
 replace HO333 := AM_ (Kd.S_elder' (ST HO333.out) (Kd.S_base ho1) hb)
 have HO350 := AM_ (Kd.R_lower (Kd.R_new' ho2 (Kd.R_lt (RT HO336.out))) (below_size (BT HB.out)))
 replace HO336 := AM_ (Kd.R_elder' (RT HO336.out) (Kd.R_base ho2) hb)
 have HO353 := AM_ (Kd.R_lower (Kd.R_new' ho3 (Kd.R_lt (RT HO339.out))) (below_size (BT HB.out)))
 replace HO339 := AM_ (Kd.R_elder' (RT HO339.out) (Kd.R_base ho3) hb)
 replace BK323 := AM_ (BB BK323.out hb)
 replace BK324 := AM_ (BB BK324.out hb)
 replace HB := AM_ (below_step (BT HB.out) hb)
 (try clear hb)
 (try clear hb2)
 (try clear hk)
 (try clear hi)
 (try clear ho0)
 (try clear ho1)
 (try clear ho2)
 (try clear ho3)
 obtain ⟨Ao140, co140, eo140⟩ := Kd.S_slice HO330.out
 (first | subst eo140 | (injection eo140 with f1_ f2_ f3_; have f4_ := f1_.symm; have f5_ := f3_.symm; clear f1_ f2_ f3_; subst f4_; subst f5_))
 obtain ⟨Ao141, co141, eo141⟩ := Kd.S_slice HO333.out
 (first | subst eo141 | (injection eo141 with f1_ f2_ f3_; have f4_ := f1_.symm; have f5_ := f3_.symm; clear f1_ f2_ f3_; subst f4_; subst f5_))
 obtain ⟨Ao142, co142, eo142⟩ := Kd.R_slice HO336.out
 (first | subst eo142 | (injection eo142 with f1_ f2_ f3_; have f4_ := f1_.symm; have f5_ := f3_.symm; clear f1_ f2_ f3_; subst f4_; subst f5_))
 obtain ⟨Ao143, co143, eo143⟩ := Kd.R_slice HO339.out
 (first | subst eo143 | (injection eo143 with f1_ f2_ f3_; have f4_ := f1_.symm; have f5_ := f3_.symm; clear f1_ f2_ f3_; subst f4_; subst f5_))
 obtain ⟨Ao144, co144, eo144⟩ := Kd.S_slice HO344.out
 (first | subst eo144 | (injection eo144 with f1_ f2_ f3_; have f4_ := f1_.symm; have f5_ := f3_.symm; clear f1_ f2_ f3_; subst f4_; subst f5_))
 obtain ⟨Ao145, co145, eo145⟩ := Kd.S_slice HO347.out
 (first | subst eo145 | (injection eo145 with f1_ f2_ f3_; have f4_ := f1_.symm; have f5_ := f3_.symm; clear f1_ f2_ f3_; subst f4_; subst f5_))
 obtain ⟨Ao146, co146, eo146⟩ := Kd.R_slice HO350.out
 (first | subst eo146 | (injection eo146 with f1_ f2_ f3_; have f4_ := f1_.symm; have f5_ := f3_.symm; clear f1_ f2_ f3_; subst f4_; subst f5_))
 obtain ⟨Ao147, co147, eo147⟩ := Kd.R_slice HO353.out
 (first | subst eo147 | (injection eo147 with f1_ f2_ f3_; have f4_ := f1_.symm; have f5_ := f3_.symm; clear f1_ f2_ f3_; subst f4_; subst f5_))
 refine hK.out _ _ ⟨bc BK323.out 0, bc BK323.out 1, bc BK323.out 2, bc BK323.out 3, bc BK323.out 4, bc BK323.out 5, bc BK324.out 0, bc BK324.out 1, bc BK324.out 2, bc BK324.out 3, bc BK324.out 4, bc BK324.out 5⟩ (fun hHeld => ?_)
 clear hK K
 refine norm_ (a' := ?_) ?_ ?_
 rotate_left
 ·show Act.put _ (some 23) _ = _
  simp only [pA, pS, pZ, pK, i64_w, i32_w]
  rfl
 refine one_ (i := 4) (N := some 24) (bs 31 6) rfl rfl (by kernel_rfl) (by decide) (fun K hK => ?_)
 refine goes_ Try.func47 (by kernel_rfl) rfl #[.agg #[.bool t327, .slice Ao140 t328.length co140, .slice Ao141 t331.length co141, .slice Ao142 t334.length co142, .slice Ao143 t337.length co143, .int .i64 t340], .agg #[.bool t341, .slice Ao144 t342.length co144, .slice Ao145 t345.length co145, .slice Ao146 t348.length co146, .slice Ao147 t351.length co147, .int .i64 t354]] (by rfl) rfl rfl (by (try simp only [List.map_toArray, List.map_cons, List.map_nil]); first | done | rfl | (simp only [List.length_drop, List.length_take]; rfl)) ?_
 with_reducible refine (spec_EqualEngines.calls k t327 _ _ t328 _ _ t331 _ _ t334 _ _ t337 t340 t341 _ _ t342 _ _ t345 _ _ t348 _ _ t351 t354 t355 _ ?side1 ?side2 ?side3 ?side4 ?side5 ?side6 ?side7 ?side8 ?side9 ?side10 ?side11 ?side12 ?side13 ?side14 ?side15 ?side16 A21.out).mono ?_
 (case side1 => exact Kd.C_below (Kd.S_reads' HO330.out).2.2 (BL (Below.refl _ _) rfl rfl rfl rfl))
 (case side2 => exact (Kd.S_reads' HO330.out).2.1)
 (case side3 => exact Kd.C_below (Kd.S_reads' HO333.out).2.2 (BL (Below.refl _ _) rfl rfl rfl rfl))
 (case side4 => exact (Kd.S_reads' HO333.out).2.1)
 (case side5 => exact Kd.C_below (Kd.R_reads' HO336.out).2.2 (BL (Below.refl _ _) rfl rfl rfl rfl))
 (case side6 => exact (Kd.R_reads' HO336.out).2.1)
 (case side7 => exact Kd.C_below (Kd.R_reads' HO339.out).2.2 (BL (Below.refl _ _) rfl rfl rfl rfl))
 (case side8 => exact (Kd.R_reads' HO339.out).2.1)
 (case side9 => exact Kd.C_below (Kd.S_reads' HO344.out).2.2 (BL (Below.refl _ _) rfl rfl rfl rfl))
 (case side10 => exact (Kd.S_reads' HO344.out).2.1)
 (case side11 => exact Kd.C_below (Kd.S_reads' HO347.out).2.2 (BL (Below.refl _ _) rfl rfl rfl rfl))
 (case side12 => exact (Kd.S_reads' HO347.out).2.1)
 (case side13 => exact Kd.C_below (Kd.R_reads' HO350.out).2.2 (BL (Below.refl _ _) rfl rfl rfl rfl))
 (case side14 => exact (Kd.R_reads' HO350.out).2.1)
 (case side15 => exact Kd.C_below (Kd.R_reads' HO353.out).2.2 (BL (Below.refl _ _) rfl rfl rfl rfl))
 (case side16 => exact (Kd.R_reads' HO353.out).2.1)
 rintro e w148 ⟨rfl, hb⟩
 refine ⟨_, rfl, ?_⟩
 replace HO330 := AM_ (Kd.S_below (ST HO330.out) hb)
 replace HO333 := AM_ (Kd.S_below (ST HO333.out) hb)
 replace HO336 := AM_ (Kd.R_below (RT HO336.out) hb)
 replace HO339 := AM_ (Kd.R_below (RT HO339.out) hb)
 replace HO344 := AM_ (Kd.S_below (ST HO344.out) hb)
 replace HO347 := AM_ (Kd.S_below (ST HO347.out) hb)
 replace HO350 := AM_ (Kd.R_below (RT HO350.out) hb)
 replace HO353 := AM_ (Kd.R_below (RT HO353.out) hb)
 replace BK323 := AM_ (BB BK323.out hb)
 replace BK324 := AM_ (BB BK324.out hb)
 replace HB := AM_ (below_step (BT HB.out) hb)
 (try clear hb)
 (try clear hb2)
 (try clear hk)
 (try clear hi)
 refine hK.out _ _ ⟨bc BK323.out 0, bc BK323.out 1, bc BK323.out 2, bc BK323.out 3, bc BK323.out 4, bc BK323.out 5, bc BK324.out 0, bc BK324.out 1, bc BK324.out 2, bc BK324.out 3, bc BK324.out 4, bc BK324.out 5⟩ (fun hHeld => ?_)
 clear hK K
 refine norm_ (a' := ?_) ?_ ?_
 rotate_left
 ·show Act.put _ (some 24) _ = _
  simp only [pA, pS, pZ, pK, i64_w, i32_w]
  rfl
 refine pure_ (i := 5) (N := some 6) (v := ?_) (a' := ?_) (bs 63 6) rfl rfl (by kernel_rfl) (fun _ _ _ h => h) (Or.inl ⟨by rfl, ?_⟩) ?_ ?_
 rotate_left
 ·intro w'
  go_simp
  with_reducible rfl
 rotate_left
 ·simp only [pA, pS, pZ, pK, i64_w, i32_w]
  rfl
 refine done_ (by kernel_rfl) ?_
 obtain ⟨hcz149_0, hcz149_1, hcz149_2, hcz149_3, hcz149_4, hcz149_5, hfz149_0, hfz149_1, hfz149_2, hfz149_3, hfz149_4, hfz149_5⟩ := bk6 BK323.out
 try go_wp2_with (first | ((with_reducible refine gate_callee (f := 29) rfl ?_); refine goesL_ (some 26) rfl rfl Try.func29 (by kernel_rfl) rfl #[.agg #[.bool a0_0, .slice A0_1 l0_1.length c0_1, .slice A0_2 l0_2.length c0_2, .slice A0_3 l0_3.length c0_3, .slice A0_4 l0_4.length c0_4, .int .i64 a0_5]] rfl (by (try simp only [List.map_toArray, List.map_cons, List.map_nil]); first | done | rfl | (simp only [List.length_drop, List.length_take]; rfl)) ?_; (with_reducible refine (laws_toEngine.calls k a0_0 _ _ l0_1 _ _ l0_2 _ _ l0_3 _ _ l0_4 a0_5 t356 t357 t360 t363 t366 t369 _ ?side1 ?side2 ?side3 ?side4 ?side5 ?side6 ?side7 ?side8 A22.out).mono ?_); (case side1 => exact CB HR0_1.out HB.out); (case side2 => exact HC0_1.out); (case side3 => exact CB HR0_2.out HB.out); (case side4 => exact HC0_2.out); (case side5 => exact CB HR0_3.out HB.out); (case side6 => exact HC0_3.out); (case side7 => exact CB HR0_4.out HB.out); (case side8 => exact HC0_4.out); rintro e w150 ⟨v358, v361, v364, v367, rfl, ho0, ho1, ho2, ho3, hb⟩; refine ⟨_, rfl, ?_⟩; have HO359 := AM_ (Kd.S_lower (Kd.S_new' (Kd.S_new' ho0 (Kd.S_lt (ST HO330.out))) (Kd.S_lt (ST HO344.out))) (below_size (BT HB.out))); replace HO330 := AM_ (Kd.S_elder' (ST HO330.out) (Kd.S_base ho0) hb); replace HO344 := AM_ (Kd.S_elder' (ST HO344.out) (Kd.S_base ho0) hb); have HO362 := AM_ (Kd.S_lower (Kd.S_new' (Kd.S_new' ho1 (Kd.S_lt (ST HO333.out))) (Kd.S_lt (ST HO347.out))) (below_size (BT HB.out))); replace HO333 := AM_ (Kd.S_elder' (ST HO333.out) (Kd.S_base ho1) hb); replace HO347 := AM_ (Kd.S_elder' (ST HO347.out) (Kd.S_base ho1) hb); have HO365 := AM_ (Kd.R_lower (Kd.R_new' (Kd.R_new' ho2 (Kd.R_lt (RT HO336.out))) (Kd.R_lt (RT HO350.out))) (below_size (BT HB.out))); replace HO336 := AM_ (Kd.R_elder' (RT HO336.out) (Kd.R_base ho2) hb); replace HO350 := AM_ (Kd.R_elder' (RT HO350.out) (Kd.R_base ho2) hb); have HO368 := AM_ (Kd.R_lower (Kd.R_new' (Kd.R_new' ho3 (Kd.R_lt (RT HO339.out))) (Kd.R_lt (RT HO353.out))) (below_size (BT HB.out))); replace HO339 := AM_ (Kd.R_elder' (RT HO339.out) (Kd.R_base ho3) hb); replace HO353 := AM_ (Kd.R_elder' (RT HO353.out) (Kd.R_base ho3) hb); replace BK323 := AM_ (BB BK323.out hb); replace BK324 := AM_ (BB BK324.out hb); replace HB := AM_ (below_step (BT HB.out) hb); (try clear hb); (try clear hb2); (try clear hk); (try clear hi); (try clear ho0); (try clear ho1); (try clear ho2); (try clear ho3)) | ((with_reducible refine gate_dst (N := 7) rfl ?_); refine box_event ?hg (N := 7) ?hd (cs := #[.bool false, .slice none 0 0, .slice none 0 0, .slice none 0 0, .slice none 0 0, .int .i64 0]) (t := 53) ?hr ?_; (case hd => rfl); (case hg => rfl); (case hr => first | (go_simp; done) | (go_simp; rfl)); intro gb370 hg w151 hbox hb; replace HO330 := AM_ (Kd.S_below (ST HO330.out) hb); replace HO333 := AM_ (Kd.S_below (ST HO333.out) hb); replace HO336 := AM_ (Kd.R_below (RT HO336.out) hb); replace HO339 := AM_ (Kd.R_below (RT HO339.out) hb); replace HO344 := AM_ (Kd.S_below (ST HO344.out) hb); replace HO347 := AM_ (Kd.S_below (ST HO347.out) hb); replace HO350 := AM_ (Kd.R_below (RT HO350.out) hb); replace HO353 := AM_ (Kd.R_below (RT HO353.out) hb); replace HO359 := AM_ (Kd.S_below (ST HO359.out) hb); replace HO362 := AM_ (Kd.S_below (ST HO362.out) hb); replace HO365 := AM_ (Kd.R_below (RT HO365.out) hb); replace HO368 := AM_ (Kd.R_below (RT HO368.out) hb); have BK370 := AM_ (hbox); have GW370 := AM_ ((GS HB.out hg)); have GE370 := AM_ ((GS HB.out hg)); replace HB := AM_ (below_step (BT HB.out) hb); have NB323_370 := AM_ ((NL BK323.out hg)); have NB370_323 := AM_ ((NG BK323.out hg)); replace BK323 := AM_ (BB BK323.out hb); have NB324_370 := AM_ ((NL BK324.out hg)); have NB370_324 := AM_ ((NG BK324.out hg)); replace BK324 := AM_ (BB BK324.out hb); clear hb hbox hg; have hnb152 := NB370_323.out; have hnc152 := NB323_370.out; have hnb153 := NB370_324.out; have hnc153 := NB324_370.out; obtain ⟨hcz154_0, hcz154_1, hcz154_2, hcz154_3, hcz154_4, hcz154_5, hfz154_0, hfz154_1, hfz154_2, hfz154_3, hfz154_4, hfz154_5⟩ := bk6 BK370.out; obtain ⟨Ao155, co155, eo155⟩ := Kd.S_slice HO359.out; subst eo155; obtain ⟨Ao156, co156, eo156⟩ := Kd.S_slice HO362.out; subst eo156; obtain ⟨Ao157, co157, eo157⟩ := Kd.R_slice HO365.out; subst eo157; obtain ⟨Ao158, co158, eo158⟩ := Kd.R_slice HO368.out; subst eo158; obtain ⟨hcz159_0, hcz159_1, hcz159_2, hcz159_3, hcz159_4, hcz159_5, hfz159_0, hfz159_1, hfz159_2, hfz159_3, hfz159_4, hfz159_5⟩ := bk6 BK324.out) | ((with_reducible refine gate_callee (f := 29) rfl ?_); refine goesL_ (some 28) rfl rfl Try.func29 (by kernel_rfl) rfl #[.agg #[.bool a1_0, .slice A1_1 l1_1.length c1_1, .slice A1_2 l1_2.length c1_2, .slice A1_3 l1_3.length c1_3, .slice A1_4 l1_4.length c1_4, .int .i64 a1_5]] rfl (by (try simp only [List.map_toArray, List.map_cons, List.map_nil]); first | done | rfl | (simp only [List.length_drop, List.length_take]; rfl)) ?_; (with_reducible refine (laws_toEngine.calls k a1_0 _ _ l1_1 _ _ l1_2 _ _ l1_3 _ _ l1_4 a1_5 t371 t372 t375 t378 t381 t384 _ ?side1 ?side2 ?side3 ?side4 ?side5 ?side6 ?side7 ?side8 A23.out).mono ?_); (case side1 => exact Kd.C_below HR1_1.out (BT HB.out)); (case side2 => exact HC1_1.out); (case side3 => exact Kd.C_below HR1_2.out (BT HB.out)); (case side4 => exact HC1_2.out); (case side5 => exact Kd.C_below HR1_3.out (BT HB.out)); (case side6 => exact HC1_3.out); (case side7 => exact Kd.C_below HR1_4.out (BT HB.out)); (case side8 => exact HC1_4.out); rintro e w160 ⟨v373, v376, v379, v382, rfl, ho0, ho1, ho2, ho3, hb⟩; refine ⟨_, rfl, ?_⟩; have HO374 := AM_ (Kd.S_lower (Kd.S_new' (Kd.S_new' (Kd.S_new' ho0 (Kd.S_lt (SF2 HO330.out BK370.out))) (Kd.S_lt (SF2 HO344.out BK370.out))) (Kd.S_lt (SF2 HO359.out BK370.out))) (below_size (BT HB.out))); replace HO330 := AM_ (Kd.S_elder' (SF2 HO330.out BK370.out) (Kd.S_base ho0) hb); replace HO344 := AM_ (Kd.S_elder' (SF2 HO344.out BK370.out) (Kd.S_base ho0) hb); replace HO359 := AM_ (Kd.S_elder' (SF2 HO359.out BK370.out) (Kd.S_base ho0) hb); have HO377 := AM_ (Kd.S_lower (Kd.S_new' (Kd.S_new' (Kd.S_new' ho1 (Kd.S_lt (SF2 HO333.out BK370.out))) (Kd.S_lt (SF2 HO347.out BK370.out))) (Kd.S_lt (SF2 HO362.out BK370.out))) (below_size (BT HB.out))); replace HO333 := AM_ (Kd.S_elder' (SF2 HO333.out BK370.out) (Kd.S_base ho1) hb); replace HO347 := AM_ (Kd.S_elder' (SF2 HO347.out BK370.out) (Kd.S_base ho1) hb); replace HO362 := AM_ (Kd.S_elder' (SF2 HO362.out BK370.out) (Kd.S_base ho1) hb); have HO380 := AM_ (Kd.R_lower (Kd.R_new' (Kd.R_new' (Kd.R_new' ho2 (Kd.R_lt (RF2 HO336.out BK370.out))) (Kd.R_lt (RF2 HO350.out BK370.out))) (Kd.R_lt (RF2 HO365.out BK370.out))) (below_size (BT HB.out))); replace HO336 := AM_ (Kd.R_elder' (RF2 HO336.out BK370.out) (Kd.R_base ho2) hb); replace HO350 := AM_ (Kd.R_elder' (RF2 HO350.out BK370.out) (Kd.R_base ho2) hb); replace HO365 := AM_ (Kd.R_elder' (RF2 HO365.out BK370.out) (Kd.R_base ho2) hb); have HO383 := AM_ (Kd.R_lower (Kd.R_new' (Kd.R_new' (Kd.R_new' ho3 (Kd.R_lt (RF2 HO339.out BK370.out))) (Kd.R_lt (RF2 HO353.out BK370.out))) (Kd.R_lt (RF2 HO368.out BK370.out))) (below_size (BT HB.out))); replace HO339 := AM_ (Kd.R_elder' (RF2 HO339.out BK370.out) (Kd.R_base ho3) hb); replace HO353 := AM_ (Kd.R_elder' (RF2 HO353.out BK370.out) (Kd.R_base ho3) hb); replace HO368 := AM_ (Kd.R_elder' (RF2 HO368.out BK370.out) (Kd.R_base ho3) hb); replace BK323 := AM_ (blk_below (g := gb323) (o := .cells #[.bool a0_0, .slice A0_1 l0_1.length c0_1, .slice A0_2 l0_2.length c0_2, .slice A0_3 l0_3.length c0_3, .slice A0_4 l0_4.length c0_4, .int .i64 a0_5] 44 (0, 0)) (by (with_reducible repeat (first | refine blk_drewN ?_ _ | refine blk_drew ?_ | refine blk_alloc ?_ _)); refine blk_far ?_ NB323_370.out _; (with_reducible repeat (first | refine blk_drewN ?_ _ | refine blk_drew ?_ | refine blk_alloc ?_ _)); refine blk_far ?_ NB323_370.out _; (with_reducible repeat (first | refine blk_drewN ?_ _ | refine blk_drew ?_ | refine blk_alloc ?_ _)); refine blk_far ?_ NB323_370.out _; (with_reducible repeat (first | refine blk_drewN ?_ _ | refine blk_drew ?_ | refine blk_alloc ?_ _)); refine blk_far ?_ NB323_370.out _; (with_reducible repeat (first | refine blk_drewN ?_ _ | refine blk_drew ?_ | refine blk_alloc ?_ _)); refine blk_far ?_ NB323_370.out _; (with_reducible repeat (first | refine blk_drewN ?_ _ | refine blk_drew ?_ | refine blk_alloc ?_ _)); refine blk_far ?_ NB323_370.out _; (with_reducible repeat (first | refine blk_drewN ?_ _ | refine blk_drew ?_ | refine blk_alloc ?_ _)); exact BK323.out) hb); replace BK324 := AM_ (blk_below (g := gb324) (o := .cells #[.bool a1_0, .slice A1_1 l1_1.length c1_1, .slice A1_2 l1_2.length c1_2, .slice A1_3 l1_3.length c1_3, .slice A1_4 l1_4.length c1_4, .int .i64 a1_5] 44 (0, 0)) (by (with_reducible repeat (first | refine blk_drewN ?_ _ | refine blk_drew ?_ | refine blk_alloc ?_ _)); refine blk_far ?_ NB324_370.out _; (with_reducible repeat (first | refine blk_drewN ?_ _ | refine blk_drew ?_ | refine blk_alloc ?_ _)); refine blk_far ?_ NB324_370.out _; (with_reducible repeat (first | refine blk_drewN ?_ _ | refine blk_drew ?_ | refine blk_alloc ?_ _)); refine blk_far ?_ NB324_370.out _; (with_reducible repeat (first | refine blk_drewN ?_ _ | refine blk_drew ?_ | refine blk_alloc ?_ _)); refine blk_far ?_ NB324_370.out _; (with_reducible repeat (first | refine blk_drewN ?_ _ | refine blk_drew ?_ | refine blk_alloc ?_ _)); refine blk_far ?_ NB324_370.out _; (with_reducible repeat (first | refine blk_drewN ?_ _ | refine blk_drew ?_ | refine blk_alloc ?_ _)); refine blk_far ?_ NB324_370.out _; (with_reducible repeat (first | refine blk_drewN ?_ _ | refine blk_drew ?_ | refine blk_alloc ?_ _)); exact BK324.out) hb); replace BK370 := AM_ (blk_below (g := gb370) (o := .cells #[.bool t356, .slice Ao155 t357.length co155, .slice Ao156 t360.length co156, .slice Ao157 t363.length co157, .slice Ao158 t366.length co158, .int .i64 t369] 53 (0, 0)) (by (with_reducible repeat (first | refine blk_drewN ?_ _ | refine blk_drew ?_ | refine blk_alloc ?_ _)); refine blk_put (cs := #[.bool t356, .slice Ao155 t357.length co155, .slice Ao156 t360.length co156, .slice Ao157 t363.length co157, .slice Ao158 t366.length co158, .int .i64 0]) ?_ 5 _ rfl; (with_reducible repeat (first | refine blk_drewN ?_ _ | refine blk_drew ?_ | refine blk_alloc ?_ _)); refine blk_put (cs := #[.bool t356, .slice Ao155 t357.length co155, .slice Ao156 t360.length co156, .slice Ao157 t363.length co157, .slice none 0 0, .int .i64 0]) ?_ 4 _ rfl; (with_reducible repeat (first | refine blk_drewN ?_ _ | refine blk_drew ?_ | refine blk_alloc ?_ _)); refine blk_put (cs := #[.bool t356, .slice Ao155 t357.length co155, .slice Ao156 t360.length co156, .slice none 0 0, .slice none 0 0, .int .i64 0]) ?_ 3 _ rfl; (with_reducible repeat (first | refine blk_drewN ?_ _ | refine blk_drew ?_ | refine blk_alloc ?_ _)); refine blk_put (cs := #[.bool t356, .slice Ao155 t357.length co155, .slice none 0 0, .slice none 0 0, .slice none 0 0, .int .i64 0]) ?_ 2 _ rfl; (with_reducible repeat (first | refine blk_drewN ?_ _ | refine blk_drew ?_ | refine blk_alloc ?_ _)); refine blk_put (cs := #[.bool t356, .slice none 0 0, .slice none 0 0, .slice none 0 0, .slice none 0 0, .int .i64 0]) ?_ 1 _ rfl; (with_reducible repeat (first | refine blk_drewN ?_ _ | refine blk_drew ?_ | refine blk_alloc ?_ _)); refine blk_put (cs := #[.bool false, .slice none 0 0, .slice none 0 0, .slice none 0 0, .slice none 0 0, .int .i64 0]) ?_ 0 _ rfl; (with_reducible repeat (first | refine blk_drewN ?_ _ | refine blk_drew ?_ | refine blk_alloc ?_ _)); exact BK370.out) hb); replace HB := AM_ (below_step (BT HB.out) hb); (try clear hb); (try clear hb2); (try clear hk); (try clear hi); (try clear ho0); (try clear ho1); (try clear ho2); (try clear ho3)) | ((with_reducible refine gate_dst (N := 8) rfl ?_); refine box_event ?hg (N := 8) ?hd (cs := #[.bool false, .slice none 0 0, .slice none 0 0, .slice none 0 0, .slice none 0 0, .int .i64 0]) (t := 53) ?hr ?_; (case hd => rfl); (case hg => rfl); (case hr => first | (go_simp; done) | (go_simp; rfl)); intro gb385 hg w161 hbox hb; replace HO330 := AM_ (Kd.S_below (ST HO330.out) hb); replace HO333 := AM_ (Kd.S_below (ST HO333.out) hb); replace HO336 := AM_ (Kd.R_below (RT HO336.out) hb); replace HO339 := AM_ (Kd.R_below (RT HO339.out) hb); replace HO344 := AM_ (Kd.S_below (ST HO344.out) hb); replace HO347 := AM_ (Kd.S_below (ST HO347.out) hb); replace HO350 := AM_ (Kd.R_below (RT HO350.out) hb); replace HO353 := AM_ (Kd.R_below (RT HO353.out) hb); replace HO359 := AM_ (Kd.S_below (ST HO359.out) hb); replace HO362 := AM_ (Kd.S_below (ST HO362.out) hb); replace HO365 := AM_ (Kd.R_below (RT HO365.out) hb); replace HO368 := AM_ (Kd.R_below (RT HO368.out) hb); replace HO374 := AM_ (Kd.S_below (ST HO374.out) hb); replace HO377 := AM_ (Kd.S_below (ST HO377.out) hb); replace HO380 := AM_ (Kd.R_below (RT HO380.out) hb); replace HO383 := AM_ (Kd.R_below (RT HO383.out) hb); have BK385 := AM_ (hbox); have GW385 := AM_ ((GS HB.out hg)); have GE385 := AM_ ((GS HB.out hg)); replace HB := AM_ (below_step (BT HB.out) hb); have NB323_385 := AM_ ((NL BK323.out hg)); have NB385_323 := AM_ ((NG BK323.out hg)); replace BK323 := AM_ (BB BK323.out hb); have NB324_385 := AM_ ((NL BK324.out hg)); have NB385_324 := AM_ ((NG BK324.out hg)); replace BK324 := AM_ (BB BK324.out hb); have NB370_385 := AM_ ((NL BK370.out hg)); have NB385_370 := AM_ ((NG BK370.out hg)); replace BK370 := AM_ (BB BK370.out hb); clear hb hbox hg; have hnb162 := NB385_323.out; have hnc162 := NB323_385.out; have hnb163 := NB385_324.out; have hnc163 := NB324_385.out; have hnb164 := NB385_370.out; have hnc164 := NB370_385.out; obtain ⟨hcz165_0, hcz165_1, hcz165_2, hcz165_3, hcz165_4, hcz165_5, hfz165_0, hfz165_1, hfz165_2, hfz165_3, hfz165_4, hfz165_5⟩ := bk6 BK385.out; obtain ⟨Ao166, co166, eo166⟩ := Kd.S_slice HO374.out; subst eo166; obtain ⟨Ao167, co167, eo167⟩ := Kd.S_slice HO377.out; subst eo167; obtain ⟨Ao168, co168, eo168⟩ := Kd.R_slice HO380.out; subst eo168; obtain ⟨Ao169, co169, eo169⟩ := Kd.R_slice HO383.out; subst eo169; obtain ⟨hcz170_0, hcz170_1, hcz170_2, hcz170_3, hcz170_4, hcz170_5, hfz170_0, hfz170_1, hfz170_2, hfz170_3, hfz170_4, hfz170_5⟩ := bk6 BK370.out) | ((with_reducible refine gate_callee (f := 48) rfl ?_); refine goesL_ (some 31) rfl rfl Try.func48 (by kernel_rfl) rfl #[.agg #[.bool t356, .slice Ao155 t357.length co155, .slice Ao156 t360.length co156, .slice Ao157 t363.length co157, .slice Ao158 t366.length co158, .int .i64 t369], .agg #[.bool t371, .slice Ao166 t372.length co166, .slice Ao167 t375.length co167, .slice Ao168 t378.length co168, .slice Ao169 t381.length co169, .int .i64 t384]] rfl (by (try simp only [List.map_toArray, List.map_cons, List.map_nil]); first | done | rfl | (simp only [List.length_drop, List.length_take]; rfl)) ?_; (with_reducible refine (impl_EqualEngines.calls k t356 _ _ t357 _ _ t360 _ _ t363 _ _ t366 t369 t371 _ _ t372 _ _ t375 _ _ t378 _ _ t381 t384 t386 _ ?side1 ?side2 ?side3 ?side4 ?side5 ?side6 ?side7 ?side8 ?side9 ?side10 ?side11 ?side12 ?side13 ?side14 ?side15 ?side16 A24.out).mono ?_); (case side1 => exact CG2 HO359.out BK385.out); (case side2 => exact (Kd.S_reads' HO359.out).2.1); (case side3 => exact CG2 HO362.out BK385.out); (case side4 => exact (Kd.S_reads' HO362.out).2.1); (case side5 => exact CF2 HO365.out BK385.out); (case side6 => exact (Kd.R_reads' HO365.out).2.1); (case side7 => exact CF2 HO368.out BK385.out); (case side8 => exact (Kd.R_reads' HO368.out).2.1); (case side9 => exact CG2 HO374.out BK385.out); (case side10 => exact (Kd.S_reads' HO374.out).2.1); (case side11 => exact CG2 HO377.out BK385.out); (case side12 => exact (Kd.S_reads' HO377.out).2.1); (case side13 => exact CF2 HO380.out BK385.out); (case side14 => exact (Kd.R_reads' HO380.out).2.1); (case side15 => exact CF2 HO383.out BK385.out); (case side16 => exact (Kd.R_reads' HO383.out).2.1); rintro e w171 ⟨rfl, hb⟩; refine ⟨_, rfl, ?_⟩; replace HO330 := AM_ (Kd.S_below (SF2 HO330.out BK385.out) hb); replace HO333 := AM_ (Kd.S_below (SF2 HO333.out BK385.out) hb); replace HO336 := AM_ (Kd.R_below (RF2 HO336.out BK385.out) hb); replace HO339 := AM_ (Kd.R_below (RF2 HO339.out BK385.out) hb); replace HO344 := AM_ (Kd.S_below (SF2 HO344.out BK385.out) hb); replace HO347 := AM_ (Kd.S_below (SF2 HO347.out BK385.out) hb); replace HO350 := AM_ (Kd.R_below (RF2 HO350.out BK385.out) hb); replace HO353 := AM_ (Kd.R_below (RF2 HO353.out BK385.out) hb); replace HO359 := AM_ (Kd.S_below (SF2 HO359.out BK385.out) hb); replace HO362 := AM_ (Kd.S_below (SF2 HO362.out BK385.out) hb); replace HO365 := AM_ (Kd.R_below (RF2 HO365.out BK385.out) hb); replace HO368 := AM_ (Kd.R_below (RF2 HO368.out BK385.out) hb); replace HO374 := AM_ (Kd.S_below (SF2 HO374.out BK385.out) hb); replace HO377 := AM_ (Kd.S_below (SF2 HO377.out BK385.out) hb); replace HO380 := AM_ (Kd.R_below (RF2 HO380.out BK385.out) hb); replace HO383 := AM_ (Kd.R_below (RF2 HO383.out BK385.out) hb); replace BK323 := AM_ (blk_below (g := gb323) (o := .cells #[.bool a0_0, .slice A0_1 l0_1.length c0_1, .slice A0_2 l0_2.length c0_2, .slice A0_3 l0_3.length c0_3, .slice A0_4 l0_4.length c0_4, .int .i64 a0_5] 44 (0, 0)) (by (with_reducible repeat (first | refine blk_drewN ?_ _ | refine blk_drew ?_ | refine blk_alloc ?_ _)); refine blk_far ?_ NB323_385.out _; (with_reducible repeat (first | refine blk_drewN ?_ _ | refine blk_drew ?_ | refine blk_alloc ?_ _)); refine blk_far ?_ NB323_385.out _; (with_reducible repeat (first | refine blk_drewN ?_ _ | refine blk_drew ?_ | refine blk_alloc ?_ _)); refine blk_far ?_ NB323_385.out _; (with_reducible repeat (first | refine blk_drewN ?_ _ | refine blk_drew ?_ | refine blk_alloc ?_ _)); refine blk_far ?_ NB323_385.out _; (with_reducible repeat (first | refine blk_drewN ?_ _ | refine blk_drew ?_ | refine blk_alloc ?_ _)); refine blk_far ?_ NB323_385.out _; (with_reducible repeat (first | refine blk_drewN ?_ _ | refine blk_drew ?_ | refine blk_alloc ?_ _)); refine blk_far ?_ NB323_385.out _; (with_reducible repeat (first | refine blk_drewN ?_ _ | refine blk_drew ?_ | refine blk_alloc ?_ _)); exact BK323.out) hb); replace BK324 := AM_ (blk_below (g := gb324) (o := .cells #[.bool a1_0, .slice A1_1 l1_1.length c1_1, .slice A1_2 l1_2.length c1_2, .slice A1_3 l1_3.length c1_3, .slice A1_4 l1_4.length c1_4, .int .i64 a1_5] 44 (0, 0)) (by (with_reducible repeat (first | refine blk_drewN ?_ _ | refine blk_drew ?_ | refine blk_alloc ?_ _)); refine blk_far ?_ NB324_385.out _; (with_reducible repeat (first | refine blk_drewN ?_ _ | refine blk_drew ?_ | refine blk_alloc ?_ _)); refine blk_far ?_ NB324_385.out _; (with_reducible repeat (first | refine blk_drewN ?_ _ | refine blk_drew ?_ | refine blk_alloc ?_ _)); refine blk_far ?_ NB324_385.out _; (with_reducible repeat (first | refine blk_drewN ?_ _ | refine blk_drew ?_ | refine blk_alloc ?_ _)); refine blk_far ?_ NB324_385.out _; (with_reducible repeat (first | refine blk_drewN ?_ _ | refine blk_drew ?_ | refine blk_alloc ?_ _)); refine blk_far ?_ NB324_385.out _; (with_reducible repeat (first | refine blk_drewN ?_ _ | refine blk_drew ?_ | refine blk_alloc ?_ _)); refine blk_far ?_ NB324_385.out _; (with_reducible repeat (first | refine blk_drewN ?_ _ | refine blk_drew ?_ | refine blk_alloc ?_ _)); exact BK324.out) hb); replace BK370 := AM_ (blk_below (g := gb370) (o := .cells #[.bool t356, .slice Ao155 t357.length co155, .slice Ao156 t360.length co156, .slice Ao157 t363.length co157, .slice Ao158 t366.length co158, .int .i64 t369] 53 (0, 0)) (by (with_reducible repeat (first | refine blk_drewN ?_ _ | refine blk_drew ?_ | refine blk_alloc ?_ _)); refine blk_far ?_ NB370_385.out _; (with_reducible repeat (first | refine blk_drewN ?_ _ | refine blk_drew ?_ | refine blk_alloc ?_ _)); refine blk_far ?_ NB370_385.out _; (with_reducible repeat (first | refine blk_drewN ?_ _ | refine blk_drew ?_ | refine blk_alloc ?_ _)); refine blk_far ?_ NB370_385.out _; (with_reducible repeat (first | refine blk_drewN ?_ _ | refine blk_drew ?_ | refine blk_alloc ?_ _)); refine blk_far ?_ NB370_385.out _; (with_reducible repeat (first | refine blk_drewN ?_ _ | refine blk_drew ?_ | refine blk_alloc ?_ _)); refine blk_far ?_ NB370_385.out _; (with_reducible repeat (first | refine blk_drewN ?_ _ | refine blk_drew ?_ | refine blk_alloc ?_ _)); refine blk_far ?_ NB370_385.out _; (with_reducible repeat (first | refine blk_drewN ?_ _ | refine blk_drew ?_ | refine blk_alloc ?_ _)); exact BK370.out) hb); replace BK385 := AM_ (blk_below (g := gb385) (o := .cells #[.bool t371, .slice Ao166 t372.length co166, .slice Ao167 t375.length co167, .slice Ao168 t378.length co168, .slice Ao169 t381.length co169, .int .i64 t384] 53 (0, 0)) (by (with_reducible repeat (first | refine blk_drewN ?_ _ | refine blk_drew ?_ | refine blk_alloc ?_ _)); refine blk_put (cs := #[.bool t371, .slice Ao166 t372.length co166, .slice Ao167 t375.length co167, .slice Ao168 t378.length co168, .slice Ao169 t381.length co169, .int .i64 0]) ?_ 5 _ rfl; (with_reducible repeat (first | refine blk_drewN ?_ _ | refine blk_drew ?_ | refine blk_alloc ?_ _)); refine blk_put (cs := #[.bool t371, .slice Ao166 t372.length co166, .slice Ao167 t375.length co167, .slice Ao168 t378.length co168, .slice none 0 0, .int .i64 0]) ?_ 4 _ rfl; (with_reducible repeat (first | refine blk_drewN ?_ _ | refine blk_drew ?_ | refine blk_alloc ?_ _)); refine blk_put (cs := #[.bool t371, .slice Ao166 t372.length co166, .slice Ao167 t375.length co167, .slice none 0 0, .slice none 0 0, .int .i64 0]) ?_ 3 _ rfl; (with_reducible repeat (first | refine blk_drewN ?_ _ | refine blk_drew ?_ | refine blk_alloc ?_ _)); refine blk_put (cs := #[.bool t371, .slice Ao166 t372.length co166, .slice none 0 0, .slice none 0 0, .slice none 0 0, .int .i64 0]) ?_ 2 _ rfl; (with_reducible repeat (first | refine blk_drewN ?_ _ | refine blk_drew ?_ | refine blk_alloc ?_ _)); refine blk_put (cs := #[.bool t371, .slice none 0 0, .slice none 0 0, .slice none 0 0, .slice none 0 0, .int .i64 0]) ?_ 1 _ rfl; (with_reducible repeat (first | refine blk_drewN ?_ _ | refine blk_drew ?_ | refine blk_alloc ?_ _)); refine blk_put (cs := #[.bool false, .slice none 0 0, .slice none 0 0, .slice none 0 0, .slice none 0 0, .int .i64 0]) ?_ 0 _ rfl; (with_reducible repeat (first | refine blk_drewN ?_ _ | refine blk_drew ?_ | refine blk_alloc ?_ _)); exact BK385.out) hb); replace HB := AM_ (below_step (BT HB.out) hb); (try clear hb); (try clear hb2); (try clear hk); (try clear hi)))
 replace HO330 := AM_ (Kd.S_drew HO330.out)
 replace HO333 := AM_ (Kd.S_drew HO333.out)
 replace HO336 := AM_ (Kd.R_drew HO336.out)
 replace HO339 := AM_ (Kd.R_drew HO339.out)
 replace HO344 := AM_ (Kd.S_drew HO344.out)
 replace HO347 := AM_ (Kd.S_drew HO347.out)
 replace HO350 := AM_ (Kd.R_drew HO350.out)
 replace HO353 := AM_ (Kd.R_drew HO353.out)
 replace HO359 := AM_ (Kd.S_drew HO359.out)
 replace HO362 := AM_ (Kd.S_drew HO362.out)
 replace HO365 := AM_ (Kd.R_drew HO365.out)
 replace HO368 := AM_ (Kd.R_drew HO368.out)
 replace HO374 := AM_ (Kd.S_drew HO374.out)
 replace HO377 := AM_ (Kd.S_drew HO377.out)
 replace HO380 := AM_ (Kd.R_drew HO380.out)
 replace HO383 := AM_ (Kd.R_drew HO383.out)
 replace BK323 := AM_ (blk_drew BK323.out)
 replace BK324 := AM_ (blk_drew BK324.out)
 replace BK370 := AM_ (blk_drew BK370.out)
 replace BK385 := AM_ (blk_drew BK385.out)
 replace HB := AM_ (below_drew1 HB.out)
 refine start_ (n := 5) (S := fun w' => w'.cell? ⟨gb370, 0, none⟩ = some (.bool t356) ∧ w'.cell? ⟨gb370, 1, none⟩ = some (.slice Ao155 t357.length co155) ∧ w'.cell? ⟨gb370, 2, none⟩ = some (.slice Ao156 t360.length co156) ∧ w'.cell? ⟨gb370, 3, none⟩ = some (.slice Ao157 t363.length co157) ∧ w'.cell? ⟨gb370, 4, none⟩ = some (.slice Ao158 t366.length co158) ∧ w'.cell? ⟨gb370, 5, none⟩ = some (.int .i64 t369) ∧ w'.cell? ⟨gb323, 0, none⟩ = some (.bool a0_0) ∧ w'.cell? ⟨gb323, 1, none⟩ = some (.slice A0_1 l0_1.length c0_1) ∧ w'.cell? ⟨gb323, 2, none⟩ = some (.slice A0_2 l0_2.length c0_2) ∧ w'.cell? ⟨gb323, 3, none⟩ = some (.slice A0_3 l0_3.length c0_3) ∧ w'.cell? ⟨gb323, 4, none⟩ = some (.slice A0_4 l0_4.length c0_4) ∧ w'.cell? ⟨gb323, 5, none⟩ = some (.int .i64 a0_5)) (ds := []) (bs 0 5) (by kernel_rfl) rfl rfl ⟨bc BK370.out 0, bc BK370.out 1, bc BK370.out 2, bc BK370.out 3, bc BK370.out 4, bc BK370.out 5, bc BK323.out 0, bc BK323.out 1, bc BK323.out 2, bc BK323.out 3, bc BK323.out 4, bc BK323.out 5⟩ (fun hHeld => ?_)
 generalize w171.drew = w172 at HO330 HO333 HO336 HO339 HO344 HO347 HO350 HO353 HO359 HO362 HO365 HO368 HO374 HO377 HO380 HO383 BK323 BK324 BK370 BK385 HB hHeld ⊢
 refine take_ (i := 0) (N := some 35) (v := ?_) (a' := ?_) (bs 1 5) rfl rfl (by kernel_rfl) (fun _ _ _ h => h) (Or.inl ⟨by rfl, ?_⟩) hHeld ?_ ?_
 rotate_left
 ·rintro w' ⟨s0, s1, s2, s3, s4, s5, s6, s7, s8, s9, s10, s11⟩
  go_simp
  with_reducible rfl
 rotate_left
 ·simp only [pA, pS, pZ, pK, i64_w, i32_w]
  rfl
 refine take_ (i := 1) (N := some 36) (v := ?_) (a' := ?_) (bs 3 5) rfl rfl (by kernel_rfl) (fun _ _ _ h => h) (Or.inl ⟨by rfl, ?_⟩) hHeld ?_ ?_
 rotate_left
 ·rintro w' ⟨s0, s1, s2, s3, s4, s5, s6, s7, s8, s9, s10, s11⟩
  go_simp
  with_reducible rfl
 rotate_left
 ·simp only [pA, pS, pZ, pK, i64_w, i32_w]
  rfl
 refine one_ (i := 2) (N := some 37) (bs 7 5) rfl rfl (by kernel_rfl) (by decide) (fun K hK => ?_)
 refine goes_ Try.func29 (by kernel_rfl) rfl #[.agg #[.bool a0_0, .slice A0_1 l0_1.length c0_1, .slice A0_2 l0_2.length c0_2, .slice A0_3 l0_3.length c0_3, .slice A0_4 l0_4.length c0_4, .int .i64 a0_5]] (by rfl) rfl rfl (by (try simp only [List.map_toArray, List.map_cons, List.map_nil]); first | done | rfl | (simp only [List.length_drop, List.length_take]; rfl)) ?_
 with_reducible refine (laws_toEngine.calls k a0_0 _ _ l0_1 _ _ l0_2 _ _ l0_3 _ _ l0_4 a0_5 t387 t388 t391 t394 t397 t400 _ ?side1 ?side2 ?side3 ?side4 ?side5 ?side6 ?side7 ?side8 A68.out).mono ?_
 (case side1 => exact CB HR0_1.out HB.out)
 (case side2 => exact HC0_1.out)
 (case side3 => exact CB HR0_2.out HB.out)
 (case side4 => exact HC0_2.out)
 (case side5 => exact CB HR0_3.out HB.out)
 (case side6 => exact HC0_3.out)
 (case side7 => exact CB HR0_4.out HB.out)
 (case side8 => exact HC0_4.out)
 rintro e w173 ⟨v389, v392, v395, v398, rfl, ho0, ho1, ho2, ho3, hb⟩
 refine ⟨_, rfl, ?_⟩
 have HO390 := AM_ (Kd.S_lower (Kd.S_new' (Kd.S_new' (Kd.S_new' (Kd.S_new' ho0 (Kd.S_lt (ST HO330.out))) (Kd.S_lt (ST HO344.out))) (Kd.S_lt (ST HO359.out))) (Kd.S_lt (ST HO374.out))) (below_size (BT HB.out)))
 replace HO330 := AM_ (Kd.S_elder' (ST HO330.out) (Kd.S_base ho0) hb)
 replace HO344 := AM_ (Kd.S_elder' (ST HO344.out) (Kd.S_base ho0) hb)
 replace HO359 := AM_ (Kd.S_elder' (ST HO359.out) (Kd.S_base ho0) hb)
 replace HO374 := AM_ (Kd.S_elder' (ST HO374.out) (Kd.S_base ho0) hb)
 have HO393 := AM_ (Kd.S_lower (Kd.S_new' (Kd.S_new' (Kd.S_new' (Kd.S_new' ho1 (Kd.S_lt (ST HO333.out))) (Kd.S_lt (ST HO347.out))) (Kd.S_lt (ST HO362.out))) (Kd.S_lt (ST HO377.out))) (below_size (BT HB.out)))
 replace HO333 := AM_ (Kd.S_elder' (ST HO333.out) (Kd.S_base ho1) hb)
 replace HO347 := AM_ (Kd.S_elder' (ST HO347.out) (Kd.S_base ho1) hb)
 replace HO362 := AM_ (Kd.S_elder' (ST HO362.out) (Kd.S_base ho1) hb)
 replace HO377 := AM_ (Kd.S_elder' (ST HO377.out) (Kd.S_base ho1) hb)
 have HO396 := AM_ (Kd.R_lower (Kd.R_new' (Kd.R_new' (Kd.R_new' (Kd.R_new' ho2 (Kd.R_lt (RT HO336.out))) (Kd.R_lt (RT HO350.out))) (Kd.R_lt (RT HO365.out))) (Kd.R_lt (RT HO380.out))) (below_size (BT HB.out)))
 replace HO336 := AM_ (Kd.R_elder' (RT HO336.out) (Kd.R_base ho2) hb)
 replace HO350 := AM_ (Kd.R_elder' (RT HO350.out) (Kd.R_base ho2) hb)
 replace HO365 := AM_ (Kd.R_elder' (RT HO365.out) (Kd.R_base ho2) hb)
 replace HO380 := AM_ (Kd.R_elder' (RT HO380.out) (Kd.R_base ho2) hb)
 have HO399 := AM_ (Kd.R_lower (Kd.R_new' (Kd.R_new' (Kd.R_new' (Kd.R_new' ho3 (Kd.R_lt (RT HO339.out))) (Kd.R_lt (RT HO353.out))) (Kd.R_lt (RT HO368.out))) (Kd.R_lt (RT HO383.out))) (below_size (BT HB.out)))
 replace HO339 := AM_ (Kd.R_elder' (RT HO339.out) (Kd.R_base ho3) hb)
 replace HO353 := AM_ (Kd.R_elder' (RT HO353.out) (Kd.R_base ho3) hb)
 replace HO368 := AM_ (Kd.R_elder' (RT HO368.out) (Kd.R_base ho3) hb)
 replace HO383 := AM_ (Kd.R_elder' (RT HO383.out) (Kd.R_base ho3) hb)
 replace BK323 := AM_ (BB BK323.out hb)
 replace BK324 := AM_ (BB BK324.out hb)
 replace BK370 := AM_ (BB BK370.out hb)
 replace BK385 := AM_ (BB BK385.out hb)
 replace HB := AM_ (below_step (BT HB.out) hb)
 (try clear hb)
 (try clear hb2)
 (try clear hk)
 (try clear hi)
 (try clear ho0)
 (try clear ho1)
 (try clear ho2)
 (try clear ho3)
 obtain ⟨Ao174, co174, eo174⟩ := Kd.S_slice HO390.out
 (first | subst eo174 | (injection eo174 with f1_ f2_ f3_; have f4_ := f1_.symm; have f5_ := f3_.symm; clear f1_ f2_ f3_; subst f4_; subst f5_))
 obtain ⟨Ao175, co175, eo175⟩ := Kd.S_slice HO393.out
 (first | subst eo175 | (injection eo175 with f1_ f2_ f3_; have f4_ := f1_.symm; have f5_ := f3_.symm; clear f1_ f2_ f3_; subst f4_; subst f5_))
 obtain ⟨Ao176, co176, eo176⟩ := Kd.R_slice HO396.out
 (first | subst eo176 | (injection eo176 with f1_ f2_ f3_; have f4_ := f1_.symm; have f5_ := f3_.symm; clear f1_ f2_ f3_; subst f4_; subst f5_))
 obtain ⟨Ao177, co177, eo177⟩ := Kd.R_slice HO399.out
 (first | subst eo177 | (injection eo177 with f1_ f2_ f3_; have f4_ := f1_.symm; have f5_ := f3_.symm; clear f1_ f2_ f3_; subst f4_; subst f5_))
 refine hK.out _ _ ⟨bc BK370.out 0, bc BK370.out 1, bc BK370.out 2, bc BK370.out 3, bc BK370.out 4, bc BK370.out 5, bc BK323.out 0, bc BK323.out 1, bc BK323.out 2, bc BK323.out 3, bc BK323.out 4, bc BK323.out 5⟩ (fun hHeld => ?_)
 clear hK K
 refine norm_ (a' := ?_) ?_ ?_
 rotate_left
 ·show Act.put _ (some 37) _ = _
  simp only [pA, pS, pZ, pK, i64_w, i32_w]
  rfl
 refine one_ (i := 3) (N := some 38) (bs 15 5) rfl rfl (by kernel_rfl) (by decide) (fun K hK => ?_)
 refine goes_ Try.func31 (by kernel_rfl) rfl #[.agg #[.bool t356, .slice Ao155 t357.length co155, .slice Ao156 t360.length co156, .slice Ao157 t363.length co157, .slice Ao158 t366.length co158, .int .i64 t369], .agg #[.bool t387, .slice Ao174 t388.length co174, .slice Ao175 t391.length co175, .slice Ao176 t394.length co176, .slice Ao177 t397.length co177, .int .i64 t400]] (by rfl) rfl rfl (by (try simp only [List.map_toArray, List.map_cons, List.map_nil]); first | done | rfl | (simp only [List.length_drop, List.length_take]; rfl)) ?_
 with_reducible refine (laws_eqEngine.calls k t356 _ _ t357 _ _ t360 _ _ t363 _ _ t366 t369 t387 _ _ t388 _ _ t391 _ _ t394 _ _ t397 t400 true _ ?side1 ?side2 ?side3 ?side4 ?side5 ?side6 ?side7 ?side8 ?side9 ?side10 ?side11 ?side12 ?side13 ?side14 ?side15 ?side16 A69.out).mono ?_
 (case side1 => exact Kd.C_below (Kd.S_reads' HO359.out).2.2 (BL (Below.refl _ _) rfl rfl rfl rfl))
 (case side2 => exact (Kd.S_reads' HO359.out).2.1)
 (case side3 => exact Kd.C_below (Kd.S_reads' HO362.out).2.2 (BL (Below.refl _ _) rfl rfl rfl rfl))
 (case side4 => exact (Kd.S_reads' HO362.out).2.1)
 (case side5 => exact Kd.C_below (Kd.R_reads' HO365.out).2.2 (BL (Below.refl _ _) rfl rfl rfl rfl))
 (case side6 => exact (Kd.R_reads' HO365.out).2.1)
 (case side7 => exact Kd.C_below (Kd.R_reads' HO368.out).2.2 (BL (Below.refl _ _) rfl rfl rfl rfl))
 (case side8 => exact (Kd.R_reads' HO368.out).2.1)
 (case side9 => exact Kd.C_below (Kd.S_reads' HO390.out).2.2 (BL (Below.refl _ _) rfl rfl rfl rfl))
 (case side10 => exact (Kd.S_reads' HO390.out).2.1)
 (case side11 => exact Kd.C_below (Kd.S_reads' HO393.out).2.2 (BL (Below.refl _ _) rfl rfl rfl rfl))
 (case side12 => exact (Kd.S_reads' HO393.out).2.1)
 (case side13 => exact Kd.C_below (Kd.R_reads' HO396.out).2.2 (BL (Below.refl _ _) rfl rfl rfl rfl))
 (case side14 => exact (Kd.R_reads' HO396.out).2.1)
 (case side15 => exact Kd.C_below (Kd.R_reads' HO399.out).2.2 (BL (Below.refl _ _) rfl rfl rfl rfl))
 (case side16 => exact (Kd.R_reads' HO399.out).2.1)
 rintro e w178 ⟨rfl, hb⟩
 refine ⟨_, rfl, ?_⟩
 replace HO330 := AM_ (Kd.S_below (ST HO330.out) hb)
 replace HO333 := AM_ (Kd.S_below (ST HO333.out) hb)
 replace HO336 := AM_ (Kd.R_below (RT HO336.out) hb)
 replace HO339 := AM_ (Kd.R_below (RT HO339.out) hb)
 replace HO344 := AM_ (Kd.S_below (ST HO344.out) hb)
 replace HO347 := AM_ (Kd.S_below (ST HO347.out) hb)
 replace HO350 := AM_ (Kd.R_below (RT HO350.out) hb)
 replace HO353 := AM_ (Kd.R_below (RT HO353.out) hb)
 replace HO359 := AM_ (Kd.S_below (ST HO359.out) hb)
 replace HO362 := AM_ (Kd.S_below (ST HO362.out) hb)
 replace HO365 := AM_ (Kd.R_below (RT HO365.out) hb)
 replace HO368 := AM_ (Kd.R_below (RT HO368.out) hb)
 replace HO374 := AM_ (Kd.S_below (ST HO374.out) hb)
 replace HO377 := AM_ (Kd.S_below (ST HO377.out) hb)
 replace HO380 := AM_ (Kd.R_below (RT HO380.out) hb)
 replace HO383 := AM_ (Kd.R_below (RT HO383.out) hb)
 replace HO390 := AM_ (Kd.S_below (ST HO390.out) hb)
 replace HO393 := AM_ (Kd.S_below (ST HO393.out) hb)
 replace HO396 := AM_ (Kd.R_below (RT HO396.out) hb)
 replace HO399 := AM_ (Kd.R_below (RT HO399.out) hb)
 replace BK323 := AM_ (BB BK323.out hb)
 replace BK324 := AM_ (BB BK324.out hb)
 replace BK370 := AM_ (BB BK370.out hb)
 replace BK385 := AM_ (BB BK385.out hb)
 replace HB := AM_ (below_step (BT HB.out) hb)
 (try clear hb)
 (try clear hb2)
 (try clear hk)
 (try clear hi)
 refine hK.out _ _ ⟨bc BK370.out 0, bc BK370.out 1, bc BK370.out 2, bc BK370.out 3, bc BK370.out 4, bc BK370.out 5, bc BK323.out 0, bc BK323.out 1, bc BK323.out 2, bc BK323.out 3, bc BK323.out 4, bc BK323.out 5⟩ (fun hHeld => ?_)
 clear hK K
 refine norm_ (a' := ?_) ?_ ?_
 rotate_left
 ·show Act.put _ (some 38) _ = _
  simp only [pA, pS, pZ, pK, i64_w, i32_w]
  rfl
 refine pure_ (i := 4) (N := some 39) (v := ?_) (a' := ?_) (bs 31 5) rfl rfl (by kernel_rfl) (fun _ _ _ h => h) (Or.inl ⟨by rfl, ?_⟩) ?_ ?_
 rotate_left
 ·intro w'
  go_simp
  with_reducible rfl
 rotate_left
 ·simp only [pA, pS, pZ, pK, i64_w, i32_w]
  rfl
 refine done_ (by kernel_rfl) ?_
 try go_wp2
 replace HO330 := AM_ (Kd.S_drew HO330.out)
 replace HO333 := AM_ (Kd.S_drew HO333.out)
 replace HO336 := AM_ (Kd.R_drew HO336.out)
 replace HO339 := AM_ (Kd.R_drew HO339.out)
 replace HO344 := AM_ (Kd.S_drew HO344.out)
 replace HO347 := AM_ (Kd.S_drew HO347.out)
 replace HO350 := AM_ (Kd.R_drew HO350.out)
 replace HO353 := AM_ (Kd.R_drew HO353.out)
 replace HO359 := AM_ (Kd.S_drew HO359.out)
 replace HO362 := AM_ (Kd.S_drew HO362.out)
 replace HO365 := AM_ (Kd.R_drew HO365.out)
 replace HO368 := AM_ (Kd.R_drew HO368.out)
 replace HO374 := AM_ (Kd.S_drew HO374.out)
 replace HO377 := AM_ (Kd.S_drew HO377.out)
 replace HO380 := AM_ (Kd.R_drew HO380.out)
 replace HO383 := AM_ (Kd.R_drew HO383.out)
 replace HO390 := AM_ (Kd.S_drew HO390.out)
 replace HO393 := AM_ (Kd.S_drew HO393.out)
 replace HO396 := AM_ (Kd.R_drew HO396.out)
 replace HO399 := AM_ (Kd.R_drew HO399.out)
 replace BK323 := AM_ (blk_drew BK323.out)
 replace BK324 := AM_ (blk_drew BK324.out)
 replace BK370 := AM_ (blk_drew BK370.out)
 replace BK385 := AM_ (blk_drew BK385.out)
 replace HB := AM_ (below_drew1 HB.out)
 refine start_ (n := 5) (S := fun w' => w'.cell? ⟨gb385, 0, none⟩ = some (.bool t371) ∧ w'.cell? ⟨gb385, 1, none⟩ = some (.slice Ao166 t372.length co166) ∧ w'.cell? ⟨gb385, 2, none⟩ = some (.slice Ao167 t375.length co167) ∧ w'.cell? ⟨gb385, 3, none⟩ = some (.slice Ao168 t378.length co168) ∧ w'.cell? ⟨gb385, 4, none⟩ = some (.slice Ao169 t381.length co169) ∧ w'.cell? ⟨gb385, 5, none⟩ = some (.int .i64 t384) ∧ w'.cell? ⟨gb324, 0, none⟩ = some (.bool a1_0) ∧ w'.cell? ⟨gb324, 1, none⟩ = some (.slice A1_1 l1_1.length c1_1) ∧ w'.cell? ⟨gb324, 2, none⟩ = some (.slice A1_2 l1_2.length c1_2) ∧ w'.cell? ⟨gb324, 3, none⟩ = some (.slice A1_3 l1_3.length c1_3) ∧ w'.cell? ⟨gb324, 4, none⟩ = some (.slice A1_4 l1_4.length c1_4) ∧ w'.cell? ⟨gb324, 5, none⟩ = some (.int .i64 a1_5)) (ds := []) (bs 0 5) (by kernel_rfl) rfl rfl ⟨bc BK385.out 0, bc BK385.out 1, bc BK385.out 2, bc BK385.out 3, bc BK385.out 4, bc BK385.out 5, bc BK324.out 0, bc BK324.out 1, bc BK324.out 2, bc BK324.out 3, bc BK324.out 4, bc BK324.out 5⟩ (fun hHeld => ?_)
 generalize w178.drew = w179 at HO330 HO333 HO336 HO339 HO344 HO347 HO350 HO353 HO359 HO362 HO365 HO368 HO374 HO377 HO380 HO383 HO390 HO393 HO396 HO399 BK323 BK324 BK370 BK385 HB hHeld ⊢
 refine take_ (i := 0) (N := some 40) (v := ?_) (a' := ?_) (bs 1 5) rfl rfl (by kernel_rfl) (fun _ _ _ h => h) (Or.inl ⟨by rfl, ?_⟩) hHeld ?_ ?_
 rotate_left
 ·rintro w' ⟨s0, s1, s2, s3, s4, s5, s6, s7, s8, s9, s10, s11⟩
  go_simp
  with_reducible rfl
 rotate_left
 ·simp only [pA, pS, pZ, pK, i64_w, i32_w]
  rfl
 refine take_ (i := 1) (N := some 41) (v := ?_) (a' := ?_) (bs 3 5) rfl rfl (by kernel_rfl) (fun _ _ _ h => h) (Or.inl ⟨by rfl, ?_⟩) hHeld ?_ ?_
 rotate_left
 ·rintro w' ⟨s0, s1, s2, s3, s4, s5, s6, s7, s8, s9, s10, s11⟩
  go_simp
  with_reducible rfl
 rotate_left
 ·simp only [pA, pS, pZ, pK, i64_w, i32_w]
  rfl
 refine one_ (i := 2) (N := some 42) (bs 7 5) rfl rfl (by kernel_rfl) (by decide) (fun K hK => ?_)
 refine goes_ Try.func29 (by kernel_rfl) rfl #[.agg #[.bool a1_0, .slice A1_1 l1_1.length c1_1, .slice A1_2 l1_2.length c1_2, .slice A1_3 l1_3.length c1_3, .slice A1_4 l1_4.length c1_4, .int .i64 a1_5]] (by rfl) rfl rfl (by (try simp only [List.map_toArray, List.map_cons, List.map_nil]); first | done | rfl | (simp only [List.length_drop, List.length_take]; rfl)) ?_
 with_reducible refine (laws_toEngine.calls k a1_0 _ _ l1_1 _ _ l1_2 _ _ l1_3 _ _ l1_4 a1_5 t402 t403 t406 t409 t412 t415 _ ?side1 ?side2 ?side3 ?side4 ?side5 ?side6 ?side7 ?side8 A71.out).mono ?_
 (case side1 => exact CB HR1_1.out HB.out)
 (case side2 => exact HC1_1.out)
 (case side3 => exact CB HR1_2.out HB.out)
 (case side4 => exact HC1_2.out)
 (case side5 => exact CB HR1_3.out HB.out)
 (case side6 => exact HC1_3.out)
 (case side7 => exact CB HR1_4.out HB.out)
 (case side8 => exact HC1_4.out)
 rintro e w180 ⟨v404, v407, v410, v413, rfl, ho0, ho1, ho2, ho3, hb⟩
 refine ⟨_, rfl, ?_⟩
 have HO405 := AM_ (Kd.S_lower (Kd.S_new' (Kd.S_new' (Kd.S_new' (Kd.S_new' (Kd.S_new' ho0 (Kd.S_lt (ST HO330.out))) (Kd.S_lt (ST HO344.out))) (Kd.S_lt (ST HO359.out))) (Kd.S_lt (ST HO374.out))) (Kd.S_lt (ST HO390.out))) (below_size (BT HB.out)))
 replace HO330 := AM_ (Kd.S_elder' (ST HO330.out) (Kd.S_base ho0) hb)
 replace HO344 := AM_ (Kd.S_elder' (ST HO344.out) (Kd.S_base ho0) hb)
 replace HO359 := AM_ (Kd.S_elder' (ST HO359.out) (Kd.S_base ho0) hb)
 replace HO374 := AM_ (Kd.S_elder' (ST HO374.out) (Kd.S_base ho0) hb)
 replace HO390 := AM_ (Kd.S_elder' (ST HO390.out) (Kd.S_base ho0) hb)
 have HO408 := AM_ (Kd.S_lower (Kd.S_new' (Kd.S_new' (Kd.S_new' (Kd.S_new' (Kd.S_new' ho1 (Kd.S_lt (ST HO333.out))) (Kd.S_lt (ST HO347.out))) (Kd.S_lt (ST HO362.out))) (Kd.S_lt (ST HO377.out))) (Kd.S_lt (ST HO393.out))) (below_size (BT HB.out)))
 replace HO333 := AM_ (Kd.S_elder' (ST HO333.out) (Kd.S_base ho1) hb)
 replace HO347 := AM_ (Kd.S_elder' (ST HO347.out) (Kd.S_base ho1) hb)
 replace HO362 := AM_ (Kd.S_elder' (ST HO362.out) (Kd.S_base ho1) hb)
 replace HO377 := AM_ (Kd.S_elder' (ST HO377.out) (Kd.S_base ho1) hb)
 replace HO393 := AM_ (Kd.S_elder' (ST HO393.out) (Kd.S_base ho1) hb)
 have HO411 := AM_ (Kd.R_lower (Kd.R_new' (Kd.R_new' (Kd.R_new' (Kd.R_new' (Kd.R_new' ho2 (Kd.R_lt (RT HO336.out))) (Kd.R_lt (RT HO350.out))) (Kd.R_lt (RT HO365.out))) (Kd.R_lt (RT HO380.out))) (Kd.R_lt (RT HO396.out))) (below_size (BT HB.out)))
 replace HO336 := AM_ (Kd.R_elder' (RT HO336.out) (Kd.R_base ho2) hb)
 replace HO350 := AM_ (Kd.R_elder' (RT HO350.out) (Kd.R_base ho2) hb)
 replace HO365 := AM_ (Kd.R_elder' (RT HO365.out) (Kd.R_base ho2) hb)
 replace HO380 := AM_ (Kd.R_elder' (RT HO380.out) (Kd.R_base ho2) hb)
 replace HO396 := AM_ (Kd.R_elder' (RT HO396.out) (Kd.R_base ho2) hb)
 have HO414 := AM_ (Kd.R_lower (Kd.R_new' (Kd.R_new' (Kd.R_new' (Kd.R_new' (Kd.R_new' ho3 (Kd.R_lt (RT HO339.out))) (Kd.R_lt (RT HO353.out))) (Kd.R_lt (RT HO368.out))) (Kd.R_lt (RT HO383.out))) (Kd.R_lt (RT HO399.out))) (below_size (BT HB.out)))
 replace HO339 := AM_ (Kd.R_elder' (RT HO339.out) (Kd.R_base ho3) hb)
 replace HO353 := AM_ (Kd.R_elder' (RT HO353.out) (Kd.R_base ho3) hb)
 replace HO368 := AM_ (Kd.R_elder' (RT HO368.out) (Kd.R_base ho3) hb)
 replace HO383 := AM_ (Kd.R_elder' (RT HO383.out) (Kd.R_base ho3) hb)
 replace HO399 := AM_ (Kd.R_elder' (RT HO399.out) (Kd.R_base ho3) hb)
 replace BK323 := AM_ (BB BK323.out hb)
 replace BK324 := AM_ (BB BK324.out hb)
 replace BK370 := AM_ (BB BK370.out hb)
 replace BK385 := AM_ (BB BK385.out hb)
 replace HB := AM_ (below_step (BT HB.out) hb)
 (try clear hb)
 (try clear hb2)
 (try clear hk)
 (try clear hi)
 (try clear ho0)
 (try clear ho1)
 (try clear ho2)
 (try clear ho3)
 obtain ⟨Ao181, co181, eo181⟩ := Kd.S_slice HO405.out
 (first | subst eo181 | (injection eo181 with f1_ f2_ f3_; have f4_ := f1_.symm; have f5_ := f3_.symm; clear f1_ f2_ f3_; subst f4_; subst f5_))
 obtain ⟨Ao182, co182, eo182⟩ := Kd.S_slice HO408.out
 (first | subst eo182 | (injection eo182 with f1_ f2_ f3_; have f4_ := f1_.symm; have f5_ := f3_.symm; clear f1_ f2_ f3_; subst f4_; subst f5_))
 obtain ⟨Ao183, co183, eo183⟩ := Kd.R_slice HO411.out
 (first | subst eo183 | (injection eo183 with f1_ f2_ f3_; have f4_ := f1_.symm; have f5_ := f3_.symm; clear f1_ f2_ f3_; subst f4_; subst f5_))
 obtain ⟨Ao184, co184, eo184⟩ := Kd.R_slice HO414.out
 (first | subst eo184 | (injection eo184 with f1_ f2_ f3_; have f4_ := f1_.symm; have f5_ := f3_.symm; clear f1_ f2_ f3_; subst f4_; subst f5_))
 refine hK.out _ _ ⟨bc BK385.out 0, bc BK385.out 1, bc BK385.out 2, bc BK385.out 3, bc BK385.out 4, bc BK385.out 5, bc BK324.out 0, bc BK324.out 1, bc BK324.out 2, bc BK324.out 3, bc BK324.out 4, bc BK324.out 5⟩ (fun hHeld => ?_)
 clear hK K
 refine norm_ (a' := ?_) ?_ ?_
 rotate_left
 ·show Act.put _ (some 42) _ = _
  simp only [pA, pS, pZ, pK, i64_w, i32_w]
  rfl
 refine one_ (i := 3) (N := some 43) (bs 15 5) rfl rfl (by kernel_rfl) (by decide) (fun K hK => ?_)
 refine goes_ Try.func31 (by kernel_rfl) rfl #[.agg #[.bool t371, .slice Ao166 t372.length co166, .slice Ao167 t375.length co167, .slice Ao168 t378.length co168, .slice Ao169 t381.length co169, .int .i64 t384], .agg #[.bool t402, .slice Ao181 t403.length co181, .slice Ao182 t406.length co182, .slice Ao183 t409.length co183, .slice Ao184 t412.length co184, .int .i64 t415]] (by rfl) rfl rfl (by (try simp only [List.map_toArray, List.map_cons, List.map_nil]); first | done | rfl | (simp only [List.length_drop, List.length_take]; rfl)) ?_
 with_reducible refine (laws_eqEngine.calls k t371 _ _ t372 _ _ t375 _ _ t378 _ _ t381 t384 t402 _ _ t403 _ _ t406 _ _ t409 _ _ t412 t415 false _ ?side1 ?side2 ?side3 ?side4 ?side5 ?side6 ?side7 ?side8 ?side9 ?side10 ?side11 ?side12 ?side13 ?side14 ?side15 ?side16 A72.out).mono ?_
 (case side1 => exact Kd.C_below (Kd.S_reads' HO374.out).2.2 (BL (Below.refl _ _) rfl rfl rfl rfl))
 (case side2 => exact (Kd.S_reads' HO374.out).2.1)
 (case side3 => exact Kd.C_below (Kd.S_reads' HO377.out).2.2 (BL (Below.refl _ _) rfl rfl rfl rfl))
 (case side4 => exact (Kd.S_reads' HO377.out).2.1)
 (case side5 => exact Kd.C_below (Kd.R_reads' HO380.out).2.2 (BL (Below.refl _ _) rfl rfl rfl rfl))
 (case side6 => exact (Kd.R_reads' HO380.out).2.1)
 (case side7 => exact Kd.C_below (Kd.R_reads' HO383.out).2.2 (BL (Below.refl _ _) rfl rfl rfl rfl))
 (case side8 => exact (Kd.R_reads' HO383.out).2.1)
 (case side9 => exact Kd.C_below (Kd.S_reads' HO405.out).2.2 (BL (Below.refl _ _) rfl rfl rfl rfl))
 (case side10 => exact (Kd.S_reads' HO405.out).2.1)
 (case side11 => exact Kd.C_below (Kd.S_reads' HO408.out).2.2 (BL (Below.refl _ _) rfl rfl rfl rfl))
 (case side12 => exact (Kd.S_reads' HO408.out).2.1)
 (case side13 => exact Kd.C_below (Kd.R_reads' HO411.out).2.2 (BL (Below.refl _ _) rfl rfl rfl rfl))
 (case side14 => exact (Kd.R_reads' HO411.out).2.1)
 (case side15 => exact Kd.C_below (Kd.R_reads' HO414.out).2.2 (BL (Below.refl _ _) rfl rfl rfl rfl))
 (case side16 => exact (Kd.R_reads' HO414.out).2.1)
 rintro e w185 ⟨rfl, hb⟩
 refine ⟨_, rfl, ?_⟩
 replace HO330 := AM_ (Kd.S_below (ST HO330.out) hb)
 replace HO333 := AM_ (Kd.S_below (ST HO333.out) hb)
 replace HO336 := AM_ (Kd.R_below (RT HO336.out) hb)
 replace HO339 := AM_ (Kd.R_below (RT HO339.out) hb)
 replace HO344 := AM_ (Kd.S_below (ST HO344.out) hb)
 replace HO347 := AM_ (Kd.S_below (ST HO347.out) hb)
 replace HO350 := AM_ (Kd.R_below (RT HO350.out) hb)
 replace HO353 := AM_ (Kd.R_below (RT HO353.out) hb)
 replace HO359 := AM_ (Kd.S_below (ST HO359.out) hb)
 replace HO362 := AM_ (Kd.S_below (ST HO362.out) hb)
 replace HO365 := AM_ (Kd.R_below (RT HO365.out) hb)
 replace HO368 := AM_ (Kd.R_below (RT HO368.out) hb)
 replace HO374 := AM_ (Kd.S_below (ST HO374.out) hb)
 replace HO377 := AM_ (Kd.S_below (ST HO377.out) hb)
 replace HO380 := AM_ (Kd.R_below (RT HO380.out) hb)
 replace HO383 := AM_ (Kd.R_below (RT HO383.out) hb)
 replace HO390 := AM_ (Kd.S_below (ST HO390.out) hb)
 replace HO393 := AM_ (Kd.S_below (ST HO393.out) hb)
 replace HO396 := AM_ (Kd.R_below (RT HO396.out) hb)
 replace HO399 := AM_ (Kd.R_below (RT HO399.out) hb)
 replace HO405 := AM_ (Kd.S_below (ST HO405.out) hb)
 replace HO408 := AM_ (Kd.S_below (ST HO408.out) hb)
 replace HO411 := AM_ (Kd.R_below (RT HO411.out) hb)
 replace HO414 := AM_ (Kd.R_below (RT HO414.out) hb)
 replace BK323 := AM_ (BB BK323.out hb)
 replace BK324 := AM_ (BB BK324.out hb)
 replace BK370 := AM_ (BB BK370.out hb)
 replace BK385 := AM_ (BB BK385.out hb)
 replace HB := AM_ (below_step (BT HB.out) hb)
 (try clear hb)
 (try clear hb2)
 (try clear hk)
 (try clear hi)
 refine hK.out _ _ ⟨bc BK385.out 0, bc BK385.out 1, bc BK385.out 2, bc BK385.out 3, bc BK385.out 4, bc BK385.out 5, bc BK324.out 0, bc BK324.out 1, bc BK324.out 2, bc BK324.out 3, bc BK324.out 4, bc BK324.out 5⟩ (fun hHeld => ?_)
 clear hK K
 refine norm_ (a' := ?_) ?_ ?_
 rotate_left
 ·show Act.put _ (some 43) _ = _
  simp only [pA, pS, pZ, pK, i64_w, i32_w]
  rfl
 refine pure_ (i := 4) (N := some 44) (v := ?_) (a' := ?_) (bs 31 5) rfl rfl (by kernel_rfl) (fun _ _ _ h => h) (Or.inl ⟨by rfl, ?_⟩) ?_ ?_
 rotate_left
 ·intro w'
  go_simp
  with_reducible rfl
 rotate_left
 ·simp only [pA, pS, pZ, pK, i64_w, i32_w]
  rfl
 refine done_ (by kernel_rfl) ?_
 try go_wp2
 go_ret
 exact QT (BT HB.out)

end Go.Proofs.Ytakpkmlbklahhaa.PFnExactEqualEngines
